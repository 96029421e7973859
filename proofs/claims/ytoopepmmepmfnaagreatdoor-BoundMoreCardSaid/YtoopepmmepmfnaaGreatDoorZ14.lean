/- Package bound: begin,halve,may,Order. -/
import Derived.Test.YtoopepmmepmfnaaGreatDoorZ13
import Derived.Test.YtoopepmmepmfnaaGreatDoorZ11
import Derived.Test.YtoopepmmepmfnaaGreatDoorZ12
set_option linter.unusedVariables false
set_option linter.unusedSimpArgs false
set_option maxRecDepth 100000
set_option maxHeartbeats 16000000
namespace Go.Proofs.YtoopepmmepmfnaaGreatDoor
open Go.RowKit
attribute [local go_sem ↓] Go.wp_at_zero Go.wp_at_succ
def iT (f:Nat->Nat)(n:Nat):List Value:=(List.range n).map λi=>.int .i64 (f i:Int)
theorem NJ (f:Nat->Nat)(n:Nat):(iT f n).length=n:=by simp[iT]
theorem Yg (f:Nat->Nat)(n i:Nat)(h:i<(iT f n).length):(iT f n)[i]=.int .i64 (f i:Int):=by simp[iT]
theorem alk (f:Nat->Nat)(n a:Nat)(v:Int)(hv:v=((f a+1:Nat):Int)):(iT f n).set a (.int .i64 v)=iT (λi=>f i+if i=a then 1 else 0) n:=by
 subst hv;apply List.ext_getElem?;intro j;rw[List.getElem?_set,NJ];by_cases h:j<n
 . by_cases e:a=j
   . subst e;simp[iT,h]
   . simp[iT,h,e,Ne.symm e]
 . by_cases e:a=j
   . subst e;simp[iT,h]
   . simp[iT,h,e]
theorem alm (n:Nat):List.replicate n (Value.int .i64 0)=iT (λ_=>0) n:=by
 apply List.ext_getElem?;intro j;by_cases h:j<n
 . simp[iT,h]
 . simp[iT,h]
theorem Tryz.aqO :(Tryz.prog.info? 3).map (λi=>(i.zero,i.size,i.bytes))=some (some (.int .i64 0),1,8):=by kernel_rfl
theorem aiC (c:Int)(n:Nat)(hc:c=n)(h:n<=1048576)(w:World):
 (Instr.makeSlice 26 (.int .i64 c) (.int .i64 c)).run Tryz.prog w=.ok (.slice (some ⟨w.heap.size,0,none⟩) n n) (w.alloc (.cells (iT (λ_=>0) n).toArray 3)):=by
 subst hc;obtain⟨i0,hi,hz0,hz1,hz2⟩:=info_parts Tryz.aqO;rw[run_make (P:=Tryz.prog) w 26 3 i0 _ Tryz.underlying26 hi hz0 .i64 .i64 n n zo zo (by rw[hz2];omega) zo];simp only[Int.toNat_natCast,hz1,Nat.mul_one];rw[<-alm,<-toList_madeCells_one];simp[Value.cells]
def kv (w:World)(top xb ib L:Nat)(bx:List (Raw×Raw))(t:Nat->Nat):Prop:=
 ∃a c,ag w xb 75 [.slice a L c,.slice (some ⟨ib,0,none⟩) L L]/\At w a (bx.flatMap bX)/\ag w ib 3 (iT t L)/\(∀b o,a=some ⟨b,o,none⟩->b≠xb/\b≠ib/\(b<top\/∃cs,ag w b 61 cs))/\xb≠ib
theorem kv.below {w w':World}{top xb ib L:Nat}{bx:List (Raw×Raw)}{t:Nat->Nat}(h:kv w top xb ib L bx t)(hb:Bw w w'):kv w' top xb ib L bx t:=by
 obtain⟨a,c,h1,h2,h3,h4,h5⟩:=h;refine⟨a,c,h1.below hb,h2.below hb,h3.below hb,λb o e=>⟨(h4 b o e).1,(h4 b o e).2.1,?_⟩,h5⟩;rcases(h4 b o e).2.2 with h|⟨cs,h⟩
 . exact .inl h
 . exact .inr ⟨cs,h.below hb⟩
theorem kv.row {w w':World}{top xb ib L base size k:Nat}{bx:List (Raw×Raw)}{t:Nat->Nat}{v:Value}{xs:List Value}(h:kv w top xb ib L bx t)(hr:w.ownsRow base 3 size v k xs)(h1:top<=base)(h2:xb<base)(h3:ib<base)(hg:w.grownBy w' v.ownBlock):kv w' top xb ib L bx t:=by
 obtain⟨a,c,q1,q2,q3,q4,q5⟩:=h;have hlo:∀b,b<base->some b≠v.ownBlock:=λb hb e=>by have:=eJ hr b e.symm;omega
 have hne:∀b o,a=some ⟨b,o,none⟩->some b≠v.ownBlock:=λb o e=>by
  rcases(q4 b o e).2.2 with h|⟨cs,h⟩
  . exact hlo b zo
  . exact h.not_row zd hr
 refine⟨a,c,q1.grown hg (hlo _ h2),q2.grown hg hne,q3.grown hg (hlo _ h3),λb o e=>⟨(q4 b o e).1,(q4 b o e).2.1,?_⟩,q5⟩;rcases(q4 b o e).2.2 with h|⟨cs,h⟩
 . exact .inl h
 . exact .inr ⟨cs,h.grown hg (hne b o e)⟩
theorem QJ (a:Option Addr)(L cap:Nat)(bx:List (Raw×Raw))(w:World)(hL:bx.length=L)(h1:1<=L)(hl:L<=1000)(ha:At w a (bx.flatMap bX)):
 Calls Tryz.prog 33 #[.slice a L cap] w λe w'=>∃xb ib,e=.returned (.pointer (some ⟨xb,0,none⟩))/\w.heap.size<=xb/\w.heap.size<=ib/\xb<w'.heap.size/\ib<w'.heap.size/\kv w' w.heap.size xb ib L bx (λ_=>0)/\Bw w w':=by
 have hmk:=aiC (L:Int) L rfl zo;have hab:∀b o,a=some ⟨b,o,none⟩->b<w.heap.size:=λb o e=>by subst e;exact ha.lt (by intro h0;have h9:=congrArg List.length h0;rw[Ny,List.length_nil]at h9;omega)
 have Ha:=af ha;clear ha hL;have Hb:Hid (Bw w w):=Below.refl _ _;go_enter Tryz.func33,Tryz.ntmps33;go_wp2;refine eK (λw9=>ag w9 (w.heap.size+1) 75 [.slice a L cap,.slice (some ⟨w.heap.size,0,none⟩) L L]/\ag w9 w.heap.size 3 (iT (λ_=>0) L)/\Bw w w9) ⟨ag.newAt _ _ _ zm,(ag.newAt _ _ _ rfl).alloc _,((Below.refl _ w).alloc (Nat.le_refl _) _).alloc zm _⟩ ?_;rintro w9 ⟨hx,hi,hb⟩;refine bodyPost_ret (results_tmp rfl _ _ _) rfl ⟨w.heap.size+1,w.heap.size,rfl,by omega,Nat.le_refl _,hx.lt,hi.lt,⟨a,cap,hx,Ha.out.below hb,hi,λb o e=>?_,by omega⟩,hb⟩;have:=hab b o e;exact⟨by omega,by omega,.inl this⟩
theorem QX {Y:Nat->Prop}{w W:World}(h:Chg Y w W)(b i:Nat)(v:Value)(hy:Y b):Chg Y w (W.setCell ⟨b,i,none⟩ v):=
 ⟨h.os,h.tape,h.output,by show w.heap.size<=(W.setCell _ _).heap.size;rw[show(W.setCell ⟨b,i,none⟩ v).heap.size=W.heap.size from by unfold World.setCell;simp];exact h.size,λk hk hn=>(Below.heap_setCell W ⟨b,i,none⟩ v k (λe=>hn (by rw[e];exact hy))).trans (h.block k hk hn)⟩
theorem At.chgS {Y:Nat->Prop}{w w':World}{a:Option Addr}{cs:List Value}(h:At w a cs)(hc:Chg Y w w')(hy:∀b o,a=some ⟨b,o,none⟩->¬Y b):At w' a cs:=by
 rcases h with h|⟨b,o,ha,hcs⟩
 . exact .inl h
 . refine .inr ⟨b,o,ha,λj hj=>?_⟩;have h1:=hcs j hj;rw[List.getElem?_eq_getElem hj]at h1⊢;exact hc.cell h1 (hy b o ha)
theorem At.so {w:World}{a:Option Addr}{cs:List Value}(h:At w a cs)(p i:Nat)(hne:∀b o,a=some ⟨b,o,none⟩->p≠b)(v:Value):At (w.setCell ⟨p,i,none⟩ v) a cs:=by
 rcases h with h|⟨b,o,ha,hcs⟩
 . exact .inl h
 . refine .inr ⟨b,o,ha,λj hj=>?_⟩;have h1:=hcs j hj;rw[List.getElem?_eq_getElem hj]at h1⊢;exact eW (by have:=hne b o ha;dsimp only;omega) h1
theorem akx (top xb ib L B:Nat)(bx:List (Raw×Raw))(t:Nat->Nat)(w:World)(hL:bx.length=L)(h1:1<=L)(hl:L<=1000)(hf:gG B bx)(hB:B<=1000000)(ht:∀i,t i<=1000000)(hS:kv w top xb ib L bx t)(hT:au w):
 Calls Tryz.prog 34 #[.pointer (some ⟨xb,0,none⟩)] w λe w'=>e=.returned (.int .i64 (qR (bx.map bu):Int))/\kv w' top xb ib L ((nz (bx.map bu) (qR (bx.map bu)) false).map dK) (λi=>t i+if i=qR (bx.map bu)then 1 else 0)/\Chg (λb=>b=xb\/b=ib) w w':=by
 obtain⟨a,c,Mr,hat,hib,hab,hne⟩:=hS;obtain⟨ax,pW⟩:=az (qR (bx.map bu));have Le:ax<L:=by rw[<-pW];unfold qR;have h9:=(QK (λi=>wT ((bx.map bu).getD i (0,0))) (bx.map bu).length (by rw[List.length_map,hL];exact h1)).1;rw[List.length_map,hL]at h9⊢;exact h9
 have rZ:=λW (hW:Bw w W)=>adv a L c B bx W hL h1 hl hf hB (hat.below hW) (hT.below hW);have tW:=λW (hW:Bw w W)=>adt a L c B bx ax W hL Le hl hf hB (hat.below hW) (hT.below hW);rw[pW]at rZ⊢;have hst:=alk t L ax ((t ax:Int)+1) zo;have Mf:=ht ax;have hxl:=Mr.lt;have hil:=hib.lt;obtain⟨G,hG⟩:=az ((nz (bx.map bu) ax false).map dK);rw[hG]at tW⊢;obtain⟨Qg,CR,bR,Hx,Hi⟩:=iA rZ tW hst Mr hib;clear rZ tW hst Mr hat hib hab pW hG hf hL ht hT;have Hb:Hid (Bw w w):=Below.refl _ _;go_enter Tryz.func34,Tryz.ntmps34;obtain⟨x0,x1⟩:=Hx.out.c2;go_wp2_with fail;refine(Qg.out _ Hb.out).mono ?_;rintro e w1 ⟨rfl,ae⟩;clear x0 x1;replace Hx:=kB Hx ae;replace Hi:=kB Hi ae;obtain⟨x0,x1⟩:=Hx.out.c2;replace Hb:=ak Hb ae;clear ae;have bZ:=Hb;have sN:=Hb.out.size;have hwx:w.heap.size<=w1.heap.size:=sN;go_upto_region 2 with fail
 go_cut[] (λwx=>∃g1:Nat,w.heap.size<=g1/\ag wx xb 75 [.slice (some ⟨g1,0,none⟩) L L,.slice (some ⟨ib,0,none⟩) L L]/\ag wx ib 3 (iT t L)/\ag wx g1 61 (G.flatMap bX)/\Chg (λb=>b=xb\/b=ib) w wx);case first=>go_wp2_with fail;refine(CR.out _ Hb.out).mono ?_;rintro e w2 ⟨g1,g2,rfl,hg1,hg2,ht1,ht2,ae⟩;clear x0 x1;replace Hx:=kB Hx ae;replace Hi:=kB Hi ae;obtain⟨x0,x1⟩:=Hx.out.c2;replace Hb:=ak Hb ae;clear ae;have xu:=af ht1;have f0:=Hx.out.free 0;clear ht1 ht2;go_wp2_with fail;go_meet;exact⟨g1,by omega,Hx.out.set 0 _,Hi.out.so xb 0 hne _,xu.out.so xb 0 zo _,QX (Chg.of_below Hb.out) xb 0 _ (.inl rfl)⟩
 case rest=>
  obtain⟨g1,hg1,qx,qi,qt,qb⟩:=hcut;obtain⟨Hx,Hi,xu,Hb⟩:=dt qx qi qt qb;obtain⟨i0,fi0⟩:=vp qi ax (by rw[NJ];exact Le);rw[Yg]at i0;clear qx qi qt qb bZ Qg CR x0 x1;have aX:=sf L L ax (ax:Int) (rfl:(some ⟨ib,0,none⟩:Option Addr)=_) Le rfl;rw[Nat.mul_one,Nat.zero_add]at aX;have hwr:IntKind.i64.wrap ((t ax:Int)+1)=(t ax:Int)+1:=by rw[IntKind.wrap_i64];omega
  obtain⟨x0,x1⟩:=Hx.out.c2;go_wp2;refine eK (λw9=>ag w9 xb 75 [.slice (some ⟨g1,0,none⟩) L L,.slice (some ⟨ib,0,none⟩) L L]/\ag w9 ib 3 ((iT t L).set ax (.int .i64 ((t ax:Int)+1)))/\ag w9 g1 61 (G.flatMap bX)/\Chg (λb=>b=xb\/b=ib) w w9) ⟨Hx.out.so ib ax hne.symm _,Hi.out.set ax _,xu.out.so ib ax zo _,QX Hb.out ib ax _ (.inr rfl)⟩ ?_;rintro w9 ⟨hx9,Ui,ES,jx⟩;rw[bR.out]at Ui;refine bodyPost_ret (results_tmp rfl _ _ _) rfl ⟨rfl,⟨_,_,hx9,At.aqF ES,Ui,λb o e=>?_,hne⟩,jx⟩;simp only[Option.some.injEq,Addr.mk.injEq,and_true]at e;obtain⟨rfl,_⟩:=e;exact⟨by omega,by omega,.inr ⟨_,ES⟩⟩
theorem Tryz.aqP :(Tryz.prog.info? 93).map (λi=>(i.zero,i.size,i.bytes))=some (some (.agg #[.string (bs []),.bool false,.string (bs []),.int .i64 0]),4,48):=by kernel_rfl
theorem yG (ts:List aI):(ts.flatMap aM).length=ts.length*4:=lu aM 4 (λ_=>rfl) ts
theorem NI (ts:List aI):∀u∈ts.flatMap aM,u.oneCell'=true:=by intro u hu;obtain⟨r,_,hr⟩:=List.mem_flatMap.1 hu;simp only[aM,List.mem_cons,List.not_mem_nil,or_false]at hr;rcases hr with rfl|rfl|rfl|rfl<;>rfl
theorem NH (t:aI)(ts:List aI):(t::ts).flatMap aM=aM t++ts.flatMap aM:=List.flatMap_cons
theorem At.tail {w:World}{b o c:Nat}{x:aI}{ts:List aI}(h:At w (some ⟨b,o,none⟩) ((x::ts).flatMap aM))(hc:ts.length+1<=c):At w (if c=1 then some ⟨b,o,none⟩else some ⟨b,o+4,none⟩) (ts.flatMap aM):=by
 have hk:=At.cut (k:=1) (size:=4) (n:=ts.length+1) (cap:=c) h (by rw[yG];rfl) zo hc;have e:((x::ts).flatMap aM).drop (1*4)=ts.flatMap aM:=by rw[NH];rfl
 rw[e]at hk;exact hk
theorem Sl.tail {b o c n:Nat}(h:Sl (Option.some ⟨b,o,none⟩) (n+1) c):Sl (if c=1 then Option.some (⟨b,o,none⟩:Addr)else Option.some ⟨b,o+4,none⟩) n (c-1):=by refine⟨by have:=h.1;omega,λe=>?_⟩;split at e<;>cases e
theorem akB (l l':List UInt8):(sK l l'= -1/\Op.bytesLess l l'=true)\/(sK l l'=1/\Op.bytesLess l l'=false/\Op.bytesLess l' l=true)\/(sK l l'=0/\Op.bytesLess l l'=false/\Op.bytesLess l' l=false):=by
 unfold sK;cases h1:Op.bytesLess l l' with
 |true=>exact .inl ⟨by simp,rfl⟩
 | false=>
   cases h2:Op.bytesLess l' l with
   |true=>exact .inr (.inl ⟨by simp,rfl,rfl⟩)
   |false=>exact .inr (.inr ⟨by simp,rfl,rfl⟩)
theorem WA (a:Option Addr)(n cap:Nat)(ta:List aI)(a':Option Addr)(n' cap':Nat)(tb:List aI)(B:Nat)(w:World)(hn:ta.length=n)(hn':tb.length=n')(hs:Sl a n cap)(hs':Sl a' n' cap')(hl:n<=65536)(hl':n'<=65536)(ha:At w a (ta.flatMap aM))(ha':At w a' (tb.flatMap aM))
 (oU:∀t∈ta,Fit B t.2) (tT:∀t∈tb,Fit B t.2) (hB:B+2<=268435456) (hT:au w):
 Calls Tryz.prog 154 #[.slice a n cap,.slice a' n' cap',.func (.func 155) #[] #[],.func (.func 156) #[] #[]] w λe w'=>∃v',e=.returned v'/\w'.ownsRow w.heap.size 93 4 v' (fx ta tb).length ((fx ta tb).flatMap aM)/\Bw w w':=by
 obtain⟨i0,hi,hz0,hz1,hz2⟩:=info_parts Tryz.aqP;obtain⟨M,hM⟩:=az (fx ta tb);have Aq:=enters_of Tryz.func155 zk rfl;have Ap:=enters_of Tryz.func156 zk rfl;rw[hM];obtain⟨Hi,fC,fJ,eF,HM,Ie,Ic,Hs,PX,Ha,sP,zz⟩:=iR hi hz0 hz1 hz2 hM Aq Ap hs hs' ha ha' oU;obtain⟨zD,HT,Hn,PM⟩:=dt tT hT hn hn';obtain⟨N,hN⟩:=az (n+n');have SH:(n:Int)+(n':Int)=(N:Int):=by omega
 have HN:=af hN;clear hi hz0 hz1 hz2 hM Aq Ap hs hs' ha ha' oU tT hT hn hn' hN;have hN1:N<=131072:=by have:=HN.out;omega
 go_enter Tryz.func154,Tryz.ntmps154;go_wp2_with (at_make;refine wpList_make_own _ rfl _ _ 89 rfl w.heap.size 93 i0 _ 4 Tryz.underlying89 Hi.out fC.out fJ.out _ _ _ N rfl rfl (by first|exact SH|rfl) (by rw[eF.out];omega) zx (Nat.le_refl _) ?_;intro w1 hown hgrow);obtain⟨hb1,lU⟩:=aJ ((Below.refl w.heap.size w).grown hgrow (Nat.le_refl _) (by intro k hk;cases hk)) hown;clear hown hgrow SH
 go_loopw[0,1,9] (λva vb vo wr=>∃(ra rb acc:List aI) (p q ca cb:Nat) (aa ab:Option Addr) (v:Value),v=vo/\va=.slice aa p ca/\vb=.slice ab q cb/\ra.length=p/\rb.length=q/\Sl aa p ca/\Sl ab q cb/\At w aa (ra.flatMap aM)/\At w ab (rb.flatMap aM)/\
  (∀t∈ra,Fit B t.2)/\(∀t∈rb,Fit B t.2)/\wr.ownsRow w.heap.size 93 4 v acc.length (acc.flatMap aM)/\acc.length+p+q<=N/\acc++fx ra rb=M/\Bw w wr) (λva vb _ _=>(uj va+uj vb).toNat)
 case atStart=>exact⟨ta,tb,[],n,n',cap,cap',a,a',_,rfl,rfl,rfl,Hn.out,PM.out,Hs.out,PX.out,Ha.out,sP.out,zz.out,zD.out,lU.out,by rw[<-HN.out];simp,by simpa using HM.out,hb1.out⟩
 case round=>
  clear hb1 lU Ha sP Hs PX zz zD Hn PM HM;obtain⟨ra,rb,acc,p,q,ca,cb,aa,ab,v,rfl,rfl,rfl,rW,pj,hsa,vV,hat,hat',oU,tT,hov,hlen,hM,pb⟩:=hrel;by_cases hpq:0<p/\0<q
  . obtain ⟨hp,hq⟩:=hpq;obtain⟨x,ra,rfl⟩:∃x l,ra=x::l:=by cases ra with
     |nil=>simp at rW;omega
     |cons x l=>exact⟨x,l,rfl⟩
    obtain⟨y,rb,rfl⟩:∃x l,rb=x::l:=by cases rb with
     |nil=>simp at pj;omega
     |cons x l=>exact⟨x,l,rfl⟩
    obtain⟨l,s,m,e⟩:=x;obtain⟨l',s',m',e'⟩:=y;obtain⟨p,rfl⟩:∃p',p=p'+1:=⟨p-1,by omega⟩;obtain⟨q,rfl⟩:∃q',q=q'+1:=⟨q-1,by omega⟩;have pY:=oU (l,s,m,e) zm;have TW:=tT (l',s',m',e') zm;have TS:∀t∈ra,Fit B t.2:=λt ht=>oU t (by simp[ht]);have TT:∀t∈rb,Fit B t.2:=λt ht=>tT t (by simp[ht]);obtain⟨b1,o1,rfl,hw1⟩:=(hat.below pb).term 0 zm rfl;obtain⟨b2,o2,rfl,hw2⟩:=(hat'.below pb).term 0 zm rfl;simp only[Nat.zero_mul,Nat.add_zero]at hw1 hw2;have nM:b1<w.heap.size:=hat.lt (by rw[NH];simp[aM]);have kG:b2<w.heap.size:=hat'.lt (by rw[NH];simp[aM]);have Mf:=hat.tail (c:=ca) (by have:=hsa.1;simp at rW;omega);have pk:=hat'.tail (c:=cb) (by have:=vV.1;simp at pj;omega);have Vo:=hsa.tail;have Vp:=vV.tail;have EY:=qj (p+1) ca 0 0 (rfl:(some ⟨b1,o1,none⟩:Option Addr)=_) zo rfl;have EZ:=qj (q+1) cb 0 0 (rfl:(some ⟨b2,o2,none⟩:Option Addr)=_) zo rfl;rw[Nat.zero_mul,Nat.add_zero]at EY EZ;have hca:p+1<=ca:=hsa.1;have hcb:q+1<=cb:=vV.1;have IR:Hid (ra.length=p):=by show _=_;simpa using rW
    have IU:Hid (rb.length=q):=by show _=_;simpa using pj
    obtain⟨IV,IW,Qa,Qb,Qc,xw,ej,ZK,zG,Io,zz,zD⟩:=iR hsa vV Vo Vp Mf pk hat hat' pY TW TS TT;obtain⟨aan,aao,dL,HM,aR,uO⟩:=iB oU tT hov hM pb (HT.out.below pb);have Hx:Hid (bg wr b1 o1 [.string (bs l),.bool s,.string (bs m),.int .i64 e]):=hw1;have Hy:Hid (bg wr b2 o2 [.string (bs l'),.bool s',.string (bs m'),.int .i64 e']):=hw2;have Ve:=rW;have Vf:=pj;simp only[List.length_cons]at Ve Vf;clear rW pj hsa vV hat hat' oU tT hov hM pb pY TW TS TT hw1 hw2 Mf pk Vo Vp Ve Vf;have Hb:Hid (Bw wr wr):=Below.refl _ _;have Kg:=Ie.out;have lM:=aR.out.size;obtain⟨gs,rS⟩:∃g,sK l l'=g:=⟨_,rfl⟩;have Mb:=λW=>akC l s m e l' s' m' e' W;have hcs:=akB l l';rw[rS]at Mb hcs;obtain⟨PZ,CL⟩:=aJ Mb hcs;clear Mb hcs rS;go_wp2_with fail;obtain⟨x0,x1,x2,x3⟩:=Hx.out.w4;obtain⟨y0,y1,y2,y3⟩:=Hy.out.w4;have HU:Hid (au wr):=uO.out;refine cf (λw'=>w'.cell? ⟨b1,o1,none⟩=some (.string (bs l))/\w'.cell? ⟨b1,o1+1,none⟩=some (.bool s)/\w'.cell? ⟨b1,o1+2,none⟩=some (.string (bs m))/\w'.cell? ⟨b1,o1+3,none⟩=some (.int .i64 e)/\w'.cell? ⟨b2,o2,none⟩=some (.string (bs l'))/\w'.cell? ⟨b2,o2+1,none⟩=some (.bool s')/\w'.cell? ⟨b2,o2+2,none⟩=some (.string (bs m'))/\w'.cell? ⟨b2,o2+3,none⟩=some (.int .i64 e')) (λi=>Nat.blt i 100000) [(0,true),(1,true),(2,true),(3,true),(4,true),(5,true),(6,true),(7,false),(8,true)] zk zk rfl zk zc ⟨x0,x1,x2,x3,y0,y1,y2,y3⟩ ?_;iterate 7 (refine pT rfl rfl ?_ (by intro w' ⟨q0,q1,q2,q3,q4,q5,q6,q7⟩;go_simp;try with_reducible rfl);try simp only[UU])
    refine aF rfl rfl (λK hK=>?_);go_simp;with_reducible refine(PZ.out _).mono ?_
    rintro e w2 ⟨rfl,hq⟩;have ae:Bw wr w2:=by first|exact hq|exact aK hq
    clear x0 x1 x2 x3 y0 y1 y2 y3;replace Hx:=kW Hx ae;replace Hy:=kW Hy ae;replace HU:=kT HU ae;obtain⟨x0,x1,x2,x3⟩:=Hx.out.w4;obtain⟨y0,y1,y2,y3⟩:=Hy.out.w4;replace Hb:=ak Hb ae;clear ae;refine hK _ _ (λ_=>⟨x0,x1,x2,x3,y0,y1,y2,y3⟩) ?_;clear hK K;try simp only[UU]
    refine pT rfl rfl ?_;try simp only[UU]
    simp only[aN];have hcs:=CL.out;have hp1:(1:Int)<=(p:Int)+1:=by omega
    have hq1:(1:Int)<=(q:Int)+1:=by omega
    clear CL PZ Kg;rcases hcs with⟨rfl,h1⟩ |⟨rfl,h1,h2⟩ |⟨rfl,h1,h2⟩
    . have uN:Hid ((acc++[(l,s,m,e)])++fx ra ((l',s',m',e')::rb)=M):=by
       show _=_
       rw[<-HM.out,uv,if_pos h1];simp
      have uL:Hid ((acc++[(l,s,m,e)]).flatMap aM=acc.flatMap aM++[.string (bs l),.bool s,.string (bs m),.int .i64 e]):=by
       show _=_
       rw[List.flatMap_append];rfl
      clear h1;go_wp2_with fail;refine cf (λw'=>w'.cell? ⟨b1,o1,none⟩=some (.string (bs l))/\w'.cell? ⟨b1,o1+1,none⟩=some (.bool s)/\w'.cell? ⟨b1,o1+2,none⟩=some (.string (bs m))/\w'.cell? ⟨b1,o1+3,none⟩=some (.int .i64 e)) (λi=>Nat.blt i 100000) [(0,true),(1,true),(2,true),(3,true),(6,true),(7,true),(4,false),(5,false),(8,true),(9,true)] zk zk rfl zk zc ⟨x0,x1,x2,x3⟩ ?_;iterate 6 (refine pT rfl rfl ?_ (by intro w' ⟨q0,q1,q2,q3⟩;go_simp;try with_reducible rfl);try simp only[UU])
      refine aF rfl rfl (λK hK=>?_);go_simp;refine hK _ _ (λ_=>⟨aH x0,aH x1,aH x2,aH x3⟩) ?_;clear hK K;try simp only[UU]
      refine cj (λW3=>ag W3 (w2.heap.size) 93 [.string (bs l),.bool s,.string (bs m),.int .i64 e]/\Bw w2 W3) (by first|exact fy|exact fA) ?_;rintro W3 ⟨qc,ae⟩;clear x0 x1 x2 x3 y0 y1 y2 y3;replace Hx:=kW Hx ae;replace Hy:=kW Hy ae;replace HU:=kT HU ae;have Hc:=af qc;clear qc;obtain⟨x0,x1,x2,x3⟩:=Hx.out.w4;obtain⟨y0,y1,y2,y3⟩:=Hy.out.w4;obtain⟨c0,c1,c2,c3⟩:=Hc.out.c4;replace Hb:=ak Hb ae;clear ae;refine aF rfl rfl (λK hK=>?_);have lG:=ownsRow_below dL.out Hb.out;have hs3:=Hb.out.size;refine wp_append_own _ _ _ 89 rfl w.heap.size 93 i0 _ 4 48 Tryz.underlying89 Hi.out fC.out fJ.out eF.out rfl zd v acc.length (acc.flatMap aM) rfl lG ⟨w2.heap.size,0,none⟩ 1 1 [.string (bs l),.bool s,.string (bs m),.int .i64 e] rfl rfl (jL Hc.out) zy zx zo zo ?_;intro v' w8 jT dw _;have nb:∀b,b<w.heap.size->some b≠v.ownBlock:=λb hb e=>by have:=eJ lG b e.symm;omega
      refine hK _ _ (λ_=>⟨eX dw x0 (nb _ nM),eX dw x1 (nb _ nM),eX dw x2 (nb _ nM),eX dw x3 (nb _ nM)⟩) ?_;clear hK K;try simp only[UU]
      iterate 2 (refine pT rfl rfl ?_;try simp only[UU])
      simp only[aN];have zh:=af ((aG aR.out Hb.out).grown dw zo (λj e=>eJ lG j e));have uV:Hid (w8.ownsRow w.heap.size 93 4 v' (acc++[(l,s,m,e)]).length ((acc++[(l,s,m,e)]).flatMap aM)):=by
       show w8.ownsRow _ _ _ _ _ _
       rw[uL.out,List.length_append];exact jT
      clear nb lG jT dw x0 x1 x2 x3 y0 y1 y2 y3 c0 c1 c2 c3 EY EZ;go_wp2;go_roundw;case rel=>exact⟨ra,((l',s',m',e')::rb),acc++[(l,s,m,e)],p,(q+1),_,_,_,_,v',rfl,rfl,rfl,IR.out,(by have:=IU.out;simp;exact this),Qa.out,IW.out,Qc.out,ZK.out,zz.out,aao.out,uV.out,by simp;omega,uN.out,zh.out⟩
      case measure=>simp[uj];omega
    ·
     have uN:Hid ((acc++[(l',s',m',e')])++fx ((l,s,m,e)::ra) rb=M):=by
      show _=_
      rw[<-HM.out,uv,if_neg (by rw[h1];decide),if_pos h2];simp
     have uL:Hid ((acc++[(l',s',m',e')]).flatMap aM=acc.flatMap aM++[.string (bs l'),.bool s',.string (bs m'),.int .i64 e']):=by
      show _=_
      rw[List.flatMap_append];rfl
     clear h1 h2
     go_wp2_with fail
     refine cf (λw'=>w'.cell? ⟨b2,o2,none⟩=some (.string (bs l'))/\w'.cell? ⟨b2,o2+1,none⟩=some (.bool s')/\w'.cell? ⟨b2,o2+2,none⟩=some (.string (bs m'))/\w'.cell? ⟨b2,o2+3,none⟩=some (.int .i64 e')) (λi=>Nat.blt i 100000) [(0,true),(1,true),(2,true),(3,true),(6,true),(7,true),(4,false),(5,false),(8,true),(9,true)] zk zk rfl zk zc ⟨y0,y1,y2,y3⟩ ?_
     iterate 6 (refine pT rfl rfl ?_ (by intro w' ⟨q0,q1,q2,q3⟩;go_simp;try with_reducible rfl);try simp only[UU])
     refine aF rfl rfl (λK hK=>?_)
     go_simp
     refine hK _ _ (λ_=>⟨aH y0,aH y1,aH y2,aH y3⟩) ?_;clear hK K
     try simp only[UU]
     refine cj (λW3=>ag W3 (w2.heap.size) 93 [.string (bs l'),.bool s',.string (bs m'),.int .i64 e']/\Bw w2 W3) (by first|exact fy|exact fA) ?_
     rintro W3 ⟨qc,ae⟩
     clear x0 x1 x2 x3
     clear y0 y1 y2 y3
     replace Hx:=kW Hx ae
     replace Hy:=kW Hy ae
     replace HU:=kT HU ae
     have Hc:=af qc;clear qc
     obtain⟨x0,x1,x2,x3⟩:=Hx.out.w4
     obtain⟨y0,y1,y2,y3⟩:=Hy.out.w4
     obtain⟨c0,c1,c2,c3⟩:=Hc.out.c4
     replace Hb:=ak Hb ae;clear ae
     refine aF rfl rfl (λK hK=>?_)
     have lG:=ownsRow_below dL.out Hb.out
     have hs3:=Hb.out.size
     refine wp_append_own _ _ _ 89 rfl w.heap.size 93 i0 _ 4 48 Tryz.underlying89 Hi.out fC.out fJ.out eF.out rfl zd v acc.length (acc.flatMap aM) rfl lG ⟨w2.heap.size,0,none⟩ 1 1 [.string (bs l'),.bool s',.string (bs m'),.int .i64 e'] rfl rfl (jL Hc.out) zy zx zo zo ?_
     intro v' w8 jT dw _
     have nb:∀b,b<w.heap.size->some b≠v.ownBlock:=λb hb e=>by have:=eJ lG b e.symm;omega
     refine hK _ _ (λ_=>⟨eX dw y0 (nb _ kG),eX dw y1 (nb _ kG),eX dw y2 (nb _ kG),eX dw y3 (nb _ kG)⟩) ?_;clear hK K
     try simp only[UU]
     iterate 2 (refine pT rfl rfl ?_;try simp only[UU])
     simp only[aN]
     have zh:=af ((aG aR.out Hb.out).grown dw zo (λj e=>eJ lG j e))
     have uV:Hid (w8.ownsRow w.heap.size 93 4 v' (acc++[(l',s',m',e')]).length ((acc++[(l',s',m',e')]).flatMap aM)):=by
      show w8.ownsRow _ _ _ _ _ _
      rw[uL.out,List.length_append];exact jT
     clear nb lG jT dw x0 x1 x2 x3 y0 y1 y2 y3 c0 c1 c2 c3 EY EZ
     go_wp2
     go_roundw
     case rel=>exact⟨((l,s,m,e)::ra),rb,acc++[(l',s',m',e')],(p+1),q,_,_,_,_,v',rfl,rfl,rfl,(by have:=IR.out;simp;exact this),IU.out,IV.out,Qb.out,ej.out,xw.out,aan.out,zD.out,uV.out,by simp;omega,uN.out,zh.out⟩
     case measure=>simp[uj];omega
    ·
     obtain⟨S,hS⟩:=az (ar (s,m,e)+ar (s',m',e'))
     have HS:=af hS
     have uN:Hid ((acc++[(l,canon S)])++fx ra rb=M):=by
      show _=_
      rw[<-HM.out,uv,if_neg (by rw[h1];decide),if_neg (by rw[h2];decide)];simp;rw[<-hS];rfl
     have uL:Hid ((acc++[(l,canon S)]).flatMap aM=acc.flatMap aM++[.string (bs l),.bool (aj (dN S)),.string (bs (nt (dN S).natAbs)),.int .i64 (dE S)]):=by
      show _=_
      rw[List.flatMap_append];rfl
     clear h1 h2 hS
     have DN:=Ic.out
     go_wp2_with fail
     refine cf (λw'=>w'.cell? ⟨b1,o1,none⟩=some (.string (bs l))/\w'.cell? ⟨b1,o1+1,none⟩=some (.bool s)/\w'.cell? ⟨b1,o1+2,none⟩=some (.string (bs m))/\w'.cell? ⟨b1,o1+3,none⟩=some (.int .i64 e)/\w'.cell? ⟨b2,o2,none⟩=some (.string (bs l'))/\w'.cell? ⟨b2,o2+1,none⟩=some (.bool s')/\w'.cell? ⟨b2,o2+2,none⟩=some (.string (bs m'))/\w'.cell? ⟨b2,o2+3,none⟩=some (.int .i64 e')) (λi=>Nat.blt i 100000) [(0,true),(1,true),(2,true),(3,true),(4,true),(5,true),(6,true),(7,true),(11,true),(12,true),(13,true),(14,true),(8,false),(9,false),(10,false),(15,true),(16,true),(17,true)] zk zk rfl zk zc ⟨x0,x1,x2,x3,y0,y1,y2,y3⟩ ?_
     iterate 12 (refine pT rfl rfl ?_ (by intro w' ⟨q0,q1,q2,q3,q4,q5,q6,q7⟩;go_simp;try with_reducible rfl);try simp only[UU])
     refine aF rfl rfl (λK hK=>?_)
     go_simp
     with_reducible refine(ak1 l s m e l' s' m' e' S B HS.out _ zG.out Io.out hB (by first|exact HU.out|exact au.drew HU.out|exact au.alloc HU.out _|exact au.drew (au.alloc HU.out _) |exact au.alloc (au.drew HU.out) _)).mono ?_
     rintro e w4 ⟨rfl,hq⟩
     have ae:Bw w2 w4:=by first|exact hq|exact aK hq
     clear x0 x1 x2 x3
     clear y0 y1 y2 y3
     replace Hx:=kW Hx ae
     replace Hy:=kW Hy ae
     replace HU:=kT HU ae
     obtain⟨x0,x1,x2,x3⟩:=Hx.out.w4
     obtain⟨y0,y1,y2,y3⟩:=Hy.out.w4
     replace Hb:=ak Hb ae;clear ae
     refine hK _ _ (λ_=>⟨x0,x1,x2,x3,y0,y1,y2,y3⟩) ?_;clear hK K
     try simp only[UU]
     refine aF rfl rfl (λK hK=>?_)
     go_simp
     refine hK _ _ (λ_=>⟨aH x0,aH x1,aH x2,aH x3,aH y0,aH y1,aH y2,aH y3⟩) ?_;clear hK K
     try simp only[UU]
     refine cj (λW5=>ag W5 (w4.heap.size) 93 [.string (bs l),.bool (aj (dN S)),.string (bs (nt (dN S).natAbs)),.int .i64 (dE S)]/\Bw w4 W5) (by first|exact fy|exact fA) ?_
     rintro W5 ⟨qc,ae⟩
     clear x0 x1 x2 x3
     clear y0 y1 y2 y3
     replace Hx:=kW Hx ae
     replace Hy:=kW Hy ae
     replace HU:=kT HU ae
     have Hc:=af qc;clear qc
     obtain⟨x0,x1,x2,x3⟩:=Hx.out.w4
     obtain⟨y0,y1,y2,y3⟩:=Hy.out.w4
     obtain⟨c0,c1,c2,c3⟩:=Hc.out.c4
     replace Hb:=ak Hb ae;clear ae
     refine aF rfl rfl (λK hK=>?_)
     have lG:=ownsRow_below dL.out Hb.out
     have hs3:=Hb.out.size
     refine wp_append_own _ _ _ 89 rfl w.heap.size 93 i0 _ 4 48 Tryz.underlying89 Hi.out fC.out fJ.out eF.out rfl zd v acc.length (acc.flatMap aM) rfl lG ⟨w4.heap.size,0,none⟩ 1 1 [.string (bs l),.bool (aj (dN S)),.string (bs (nt (dN S).natAbs)),.int .i64 (dE S)] rfl rfl (jL Hc.out) zy zx zo zo ?_
     intro v' w8 jT dw _
     have nb:∀b,b<w.heap.size->some b≠v.ownBlock:=λb hb e=>by have:=eJ lG b e.symm;omega
     refine hK _ _ (λ_=>⟨eX dw x0 (nb _ nM),eX dw x1 (nb _ nM),eX dw x2 (nb _ nM),eX dw x3 (nb _ nM),eX dw y0 (nb _ kG),eX dw y1 (nb _ kG),eX dw y2 (nb _ kG),eX dw y3 (nb _ kG)⟩) ?_;clear hK K
     try simp only[UU]
     iterate 3 (refine pT rfl rfl ?_;try simp only[UU])
     simp only[aN]
     have zh:=af ((aG aR.out Hb.out).grown dw zo (λj e=>eJ lG j e))
     have uV:Hid (w8.ownsRow w.heap.size 93 4 v' (acc++[(l,canon S)]).length ((acc++[(l,canon S)]).flatMap aM)):=by
      show w8.ownsRow _ _ _ _ _ _
      rw[uL.out,List.length_append];exact jT
     clear nb lG jT dw x0 x1 x2 x3 y0 y1 y2 y3 c0 c1 c2 c3 EY EZ
     go_wp2
     go_roundw
     case rel=>exact⟨ra,rb,acc++[(l,canon S)],p,q,_,_,_,_,v',rfl,rfl,rfl,IR.out,IU.out,Qa.out,Qb.out,Qc.out,xw.out,zz.out,zD.out,uV.out,by simp;omega,uN.out,zh.out⟩
     case measure=>simp[uj];omega
  . have hmr:fx ra rb=ra++rb:=by
     have:p=0\/q=0:=by omega
     rcases this with rfl|rfl
     . rw[List.eq_nil_of_length_eq_zero rW,yq];rfl
     . rw[List.eq_nil_of_length_eq_zero pj,yr];simp
    have SF:M.length=acc.length+p+q:=by rw[<-hM,hmr];simp[rW,pj];omega
    have uL:Hid (M.flatMap aM=(acc.flatMap aM++ra.flatMap aM)++rb.flatMap aM):=by
     show _=_
     rw[<-hM,hmr,<-List.append_assoc,List.flatMap_append,List.flatMap_append]
    have hlr:(ra.flatMap aM).length=p*4:=by rw[yG,rW]
    have Uu:(rb.flatMap aM).length=q*4:=by rw[yG,pj]
    have mg:=hat.below pb;have anS:=hlen;obtain⟨CS,aaN,nV,ej,dL,aR,IV,IW,Zg⟩:=Fa hlr Uu mg hat' hov pb hsa vV SF;clear rW pj hmr hlr Uu hat hat' mg hov pb hsa vV hM oU tT SF;have hsz:=aR.out.size;by_cases h0:0<p
    all_goals
     go_wp2_with (first| (at_builtin;refine NV rfl (.tmp 70) (.tmp 71) 89 rfl w.heap.size 93 i0 _ 4 48 Tryz.underlying89 Hi.out fC.out fJ.out eF.out rfl zd v acc.length (acc.flatMap aM) rfl dL.out aa p ca (ra.flatMap aM) rfl IV.out CS.out nV.out (NI ra) zx zo hsz ?_;intro v1 w2 fu hg1 hb1) | (at_builtin;refine NV rfl (.tmp 72) (.tmp 73) 89 rfl w.heap.size 93 i0 _ 4 48 Tryz.underlying89 Hi.out fC.out fJ.out eF.out rfl zd v1 (acc.length+p) (acc.flatMap aM++ra.flatMap aM) rfl fu ab q cb (rb.flatMap aM) rfl IW.out aaN.out (ej.out.below (aR.out.grown hg1 hsz (λj e=>eJ dL.out j e))) (NI rb) zx zo (Nat.le_trans hsz hg1.size) ?_;intro v2 w3 fw hg2 hb2))
     go_ret
     refine⟨v2,rfl,?_,(aR.out.grown hg1 hsz (λj e=>eJ dL.out j e)).grown hg2 (Nat.le_trans hsz hg1.size) (λj e=>eJ fu j e)⟩
     rw[Zg.out,uL.out];exact fw
end Go.Proofs.YtoopepmmepmfnaaGreatDoor
namespace Go.Proofs.YtoopepmmepmfnaaGreatDoor
open Go.RowKit
theorem ali (ts:List aI)(i:Nat)(hi:i<ts.length)(t:aI):(((((ts.flatMap aM).set (i*4) (.string (bs t.1))).set (i*4+1) (.bool t.2.1)).set (i*4+2) (.string (bs t.2.2.1))).set (i*4+3) (.int .i64 t.2.2.2))=(ts.set i t).flatMap aM:=by
 induction ts generalizing i with
 |nil=>simp at hi
 | cons x ts ih=>
   have e:∀(y:aI) zs,(y::zs).flatMap aM=.string (bs y.1)::.bool y.2.1::.string (bs y.2.2.1)::.int .i64 y.2.2.2::zs.flatMap aM:=λy zs=>rfl;cases i with
   |zero=>rw[e];rfl
   |succ i=>rw[List.set_cons_succ,e,e,<-ih i (by simpa using hi),show(i+1) *4=i*4+1+1+1+1 by omega];rfl
theorem alh (ts:List aI)(i:Nat)(hi:i<ts.length)(r:Raw):((((ts.flatMap aM).set (i*4+1) (.bool r.1)).set (i*4+2) (.string (bs r.2.1))).set (i*4+3) (.int .i64 r.2.2))=(ts.set i (ts[i].1,r)).flatMap aM:=by
 induction ts generalizing i with
 |nil=>simp at hi
 | cons x ts ih=>
   have e:∀(y:aI) zs,(y::zs).flatMap aM=.string (bs y.1)::.bool y.2.1::.string (bs y.2.2.1)::.int .i64 y.2.2.2::zs.flatMap aM:=λy zs=>rfl;cases i with
   |zero=>rw[e];rfl
   |succ i=>rw[List.set_cons_succ,e,e,List.getElem_cons_succ,<-ih i (by simpa using hi),show(i+1) *4=i*4+1+1+1+1 by omega];rfl
theorem nP {w:World}{base:Nat}{e:TypeId}{size n cap g:Nat}{xs:List Value}(h:w.ownsRow base e size (.slice (some ⟨g,0,none⟩) n cap) n xs)(o:Nat):w.frozen? ⟨g,o,none⟩=false:=by
 rcases h.2 with⟨h1,_⟩ |⟨g',cap',cur,h1,hb,hg,_⟩
 . simp at h1
 . simp only[Value.slice.injEq,Option.some.injEq,Addr.mk.injEq,and_true,true_and]at h1;obtain⟨rfl,rfl⟩:=h1;have h4:ag w g e cur.toList:=by unfold ag;simpa using hg
   exact h4.free o
theorem yA {w:World}{base:Nat}{e:TypeId}{size n cap g:Nat}{xs:List Value}(h:w.ownsRow base e size (.slice (some ⟨g,0,none⟩) n cap) n xs):base<=g/\g<w.heap.size:=by
 rcases h.2 with⟨h1,_⟩ |⟨g',cap',cur,h1,hb,hg,_⟩
 . simp at h1
 . simp only[Value.slice.injEq,Option.some.injEq,Addr.mk.injEq,and_true,true_and]at h1;obtain⟨rfl,rfl⟩:=h1;exact⟨hb,(Array.getElem?_eq_some_iff.1 hg).1⟩
theorem FH {w:World}{base n cap g:Nat}{e:TypeId}{ts:List aI}(h:w.ownsRow base e 4 (.slice (some ⟨g,0,none⟩) n cap) n (ts.flatMap aM))(k:Nat)(hk:k<ts.length){l:List UInt8}{s:Bool}{m:List UInt8}{ex:Int}(hx:ts[k]=(l,s,m,ex)):
 bg w g (k*4) [.string (bs l),.bool s,.string (bs m),.int .i64 ex]:=by
 obtain⟨a,c,hv,hat,_⟩:=eI h;simp only[Value.slice.injEq,true_and]at hv;obtain⟨rfl,rfl⟩:=hv;obtain⟨b,o,hab,hw⟩:=hat.term k hk hx;simp only[Option.some.injEq,Addr.mk.injEq,and_true]at hab;obtain⟨rfl,rfl⟩:=hab;rwa [Nat.zero_add]at hw
theorem ajq {w:World}{base n cap g:Nat}{e:TypeId}{ts:List aI}(h:w.ownsRow base e 4 (.slice (some ⟨g,0,none⟩) n cap) n (ts.flatMap aM))(i:Nat)(hi:i<ts.length)(l:List UInt8)(s:Bool)(m:List UInt8)(ex:Int):
 ((((w.setCell ⟨g,i*4,none⟩ (.string (bs l))).setCell ⟨g,i*4+1,none⟩ (.bool s)).setCell ⟨g,i*4+2,none⟩ (.string (bs m))).setCell ⟨g,i*4+3,none⟩ (.int .i64 ex)).ownsRow base e 4 (.slice (some ⟨g,0,none⟩) n cap) n ((ts.set i (l,s,m,ex)).flatMap aM):=by
 rw[<-ali ts i hi (l,s,m,ex)];exact ke (ke (ke (ke h _ _) _ _) _ _) _ _
theorem WY {w:World}{base n cap g:Nat}{e:TypeId}{ts:List aI}(h:w.ownsRow base e 4 (.slice (some ⟨g,0,none⟩) n cap) n (ts.flatMap aM))(i:Nat)(hi:i<ts.length)(s:Bool)(m:List UInt8)(ex:Int):
 (((w.setCell ⟨g,i*4+1,none⟩ (.bool s)).setCell ⟨g,i*4+2,none⟩ (.string (bs m))).setCell ⟨g,i*4+3,none⟩ (.int .i64 ex)).ownsRow base e 4 (.slice (some ⟨g,0,none⟩) n cap) n ((ts.set i (ts[i].1,s,m,ex)).flatMap aM):=by
 rw[<-alh ts i hi (s,m,ex)];exact ke (ke (ke h _ _) _ _) _ _
theorem DY {w w':World}(r:Option Nat)(h:Bw w w'):w.grownBy w' r:=⟨h.os,h.tape,h.output,h.size,λk hk _=>h.block k hk⟩
theorem DZ {w w':World}{g:Nat}(h:w.grownBy w' (some g))(a:Nat)(v:Value):w.grownBy (w'.setCell ⟨g,a,none⟩ v) (some g):=grownBy_trans h (grownBy_set g rfl v)
theorem adg {n:Nat}{w w':World}{r:Option Nat}(h:w.grownBy w' r)(hn:n<=w.heap.size)(hr:∀g,r=some g->n<=g):Below n w w':=((Below.refl _ _).mono hn).grown h hn hr
theorem WF {B:Nat}(a b:List aI)(ha:∀t∈a,Fit B t.2)(hb:∀t∈b,Fit B t.2)(hB:B+1<=268435456):∀t∈fx a b,Fit (B+1) t.2:=by
 obtain⟨n,hn⟩:=az (a.length+b.length);induction n using Nat.strongRecOn generalizing a b with
 | _ n ih=>
   cases a with
   |nil=>rw[yq];exact λt ht=>(hb t ht).mono zo
   | cons x a=>cases b with
     |nil=>rw[yr];exact λt ht=>(ha t ht).mono zo
     | cons y b=>
       rw[uv];simp only[List.length_cons]at hn;have ha2:∀t∈a,Fit B t.2:=λt ht=>ha t (by simp[ht]);have hb2:∀t∈b,Fit B t.2:=λt ht=>hb t (by simp[ht]);split
       . intro t ht;rcases List.mem_cons.1 ht with rfl|ht
         . exact(ha _ zm).mono zo
         . exact ih _ (by simp only[List.length_cons];omega) a (y::b) ha2 hb rfl t ht
       . split
         . intro t ht;rcases List.mem_cons.1 ht with rfl|ht
           . exact(hb _ zm).mono zo
           . exact ih _ (by simp only[List.length_cons];omega) (x::a) b ha hb2 rfl t ht
         . intro t ht;rcases List.mem_cons.1 ht with rfl|ht
           . exact((ha x zm).2.add (hb y zm).2).fit hB
           . exact ih _ zo a b ha2 hb2 rfl t ht
theorem NA {B:Nat}(l:List aI)(h:∀t∈l,Fit B t.2)(hB:B+l.length<=268435456):∀t∈fB l,Fit (B+l.length) t.2:=by
 obtain⟨n,hn⟩:=az l.length;induction n using Nat.strongRecOn generalizing l with
 | _ n ih=>
   by_cases h2:l.length<2
   . rw[FU l h2];exact λt ht=>(h t ht).mono zo
   . rw[NB l zo];have l1:(l.take (l.length/2)).length=l.length/2:=by rw[List.length_take];omega
     have l2:(l.drop (l.length/2)).length=l.length-l.length/2:=List.length_drop;have h3:=ih _ (by rw[<-hn,l1];omega) (l.take (l.length/2)) (λt ht=>h t (List.mem_of_mem_take ht)) (by rw[l1];omega) rfl;have h4:=ih _ (by rw[<-hn,l2];omega) (l.drop (l.length/2)) (λt ht=>h t (List.mem_of_mem_drop ht)) (by rw[l2];omega) rfl;have:=WF (B:=B+(l.length-1)) _ _ (λt ht=>(h3 t ht).mono (by rw[l1];omega)) (λt ht=>(h4 t ht).mono (by rw[l2];omega)) zo;rwa [show B+(l.length-1)+1=B+l.length by omega]at this
end Go.Proofs.YtoopepmmepmfnaaGreatDoor
namespace Go.Proofs.YtoopepmmepmfnaaGreatDoor
open Go.RowKit
attribute [local go_sem ↓] Go.wp_at_zero Go.wp_at_succ
theorem afi {α:Type}(p:α->Bool)(l:List α)(i:Nat)(hi:i<=l.length)(h:∀j (hj:j<i),p (l[j]'zo)=false):(l.take i).filter (λx=>!p x)=l.take i:=by
 rw[List.filter_eq_self];intro x hx;obtain⟨j,hj,rfl⟩:=List.mem_iff_getElem.1 hx;rw[List.getElem_take];have mr:j<i:=by rw[List.length_take]at hj;omega
 simp[h j mr]
theorem take_set {α:Type}(l:List α)(a:Nat)(x:α)(h:a<l.length):(l.set a x).take (a+1)=l.take a++[x]:=by rw[List.take_succ_eq_append_getElem (by simpa using h),List.getElem_set_self,List.take_set_of_le (Nat.le_refl _)]
theorem JZ {α:Type}(l:List α)(a b:Nat)(x:α)(h:a<b):(l.set a x).drop b=l.drop b:=by rw[List.drop_set];rw[if_pos h]
theorem Tryz.aq0 (w:World):(zeroValue 93).run Tryz.prog w=.ok (.agg #[.string ⟨#[]⟩,.bool false,.string ⟨#[]⟩,.int .i64 0]) w:=by kernel_rfl
theorem RP (ts:List aI)(k:Nat)(hk:k<=ts.length):(ts.flatMap aM).take (k*4)=(ts.take k).flatMap aM:=by
 have e:ts=ts.take k++ts.drop k:=(List.take_append_drop _ _).symm;conv=>lhs;rw[e]
 rw[List.flatMap_append,List.take_left' (by rw[yG,List.length_take,Nat.min_eq_left hk])]
theorem aey (a:Option Addr)(n cap:Nat)(ts:List aI)(gf:Nat)(p:aI->Bool)(w:World)(hn:ts.length=n)(hl:n<=65536)(ha:At w a (ts.flatMap aM))
 (eg:∀args w,(callFunc gf args).run Tryz.prog w=.ok (.enter gf args) w) (h2:∀x∈ts,p x=false)
 (hcl:∀x∈ts,∀W,Calls Tryz.prog gf #[.agg #[.string (bs x.1),.bool x.2.1,.string (bs x.2.2.1),.int .i64 x.2.2.2]] W λe w'=>e=.returned (.bool (p x))/\Bw W w'):
 Calls Tryz.prog 188 #[.slice a n cap,.func (.func gf) #[] #[]] w λe w'=>e=.returned (.slice a n cap)/\Bw w w':=by
 have aX:=Mx a n cap ts gf #[] p w hn zo ha eg (λx hx W _=>by simpa using hcl x hx W);rcases VM p ts 0 with⟨h1,_⟩ |⟨i,hi,_,h3,_⟩
 . rw[h1]at aX;have zI:=af aX;clear aX h1 h2 hn hcl eg ha;have Hb:Hid (Bw w w):=Below.refl _ _;go_enter Tryz.func188,Tryz.ntmps188;go_wp2_with fail;refine(zI.out).mono ?_;rintro e w1 ⟨rfl,ae⟩;replace Hb:=ak Hb ae;clear ae;go_wp2;go_ret;exact⟨rfl,Hb.out⟩
 . rw[h2 _ (List.getElem_mem hi)]at h3;cases h3
theorem aex (g n cap base:Nat)(ts:List aI)(gf:Nat)(p:aI->Bool)(w:World)(hn:ts.length=n)(hl:n<=65536)(hn0:0<n)(ho:w.ownsRow base 93 4 (.slice (some ⟨g,0,none⟩) n cap) n (ts.flatMap aM))
 (eg:∀args w,(callFunc gf args).run Tryz.prog w=.ok (.enter gf args) w)
 (hcl:∀x∈ts,∀W,Calls Tryz.prog gf #[.agg #[.string (bs x.1),.bool x.2.1,.string (bs x.2.2.1),.int .i64 x.2.2.2]] W λe w'=>e=.returned (.bool (p x))/\Bw W w'):
 Calls Tryz.prog 188 #[.slice (some ⟨g,0,none⟩) n cap,.func (.func gf) #[] #[]] w λe w'=>∃k,k=(ts.filter λx=>!p x).length/\e=.returned (.slice (some ⟨g,0,none⟩) k cap)/\
  w'.ownsRow base 93 4 (.slice (some ⟨g,0,none⟩) k cap) k ((ts.filter λx=>!p x).flatMap aM)/\w.grownBy w' (some g):=by
 have hat:At w (some ⟨g,0,none⟩) (ts.flatMap aM):=by obtain⟨a,c,hv,hat,_⟩:=eI ho;simp only[Value.slice.injEq,true_and]at hv;rw[hv.1];exact hat
 have hcap:=(wD ho).1;have aX:=Mx (some ⟨g,0,none⟩) n cap ts gf #[] p w hn zo hat eg (λx hx W _=>by simpa using hcl x hx W);have hcm:cap<=9223372036854775807:=by
  rcases ho.2 with⟨h1,_⟩ |⟨g',cap',cur,h1,hb,hg,h4,h5,_⟩
  . simp at h1
  . simp only[Value.slice.injEq]at h1;obtain⟨_,_,rfl⟩:=h1;unfold maxLen at h5;omega
 obtain⟨Ho,fR,Hn,kq,ej⟩:=iA ho hcl hn eg hat;clear ho hcl hn eg hat;rcases VM p ts 0 with⟨h1,h2⟩ |⟨i,hi,h1,h2,h3⟩
 . rw[h1]at aX;have hK:(ts.filter λx=>!p x)=ts:=List.filter_eq_self.2 (λx hx=>by simp[h2 x hx]);rw[hK,Hn.out];have zI:=af aX;clear aX h1 h2 hK;have Hb:Hid (Bw w w):=Below.refl _ _;go_enter Tryz.func188,Tryz.ntmps188;go_wp2_with fail;refine(zI.out).mono ?_;rintro e w1 ⟨rfl,ae⟩;replace Hb:=ak Hb ae;clear ae;go_wp2;go_ret;exact⟨n,rfl,rfl,ownsRow_below Ho.out Hb.out,DY _ Hb.out⟩
 . rw[h1,Nat.zero_add]at aX;have hin:i<n:=by rw[<-Hn.out];exact hi
   obtain⟨K,hK⟩:=az (ts.filter λx=>!p x);rw[hK];have hst:(ts.take (i+1)).filter (λx=>!p x)=ts.take i:=by rw[List.take_succ_eq_append_getElem hi,List.filter_append,afi p ts i zo h3];simp[h2]
   have nD:((i:Int)== -1)=false:=by simp
   obtain⟨zI,HK,bR⟩:=cP aX hK hst;clear aX h1 h2 h3 hK hst;have Hb:Hid (Bw w w):=Below.refl _ _;go_enter Tryz.func188,Tryz.ntmps188;go_wp2_with fail;refine(zI.out).mono ?_;rintro e w1 ⟨rfl,ae⟩;replace Hb:=ak Hb ae;clear ae;go_wp2_with fail;go_loopw[5,6] (λs5 s6 wr=>∃(x y:Nat) (C:List aI),s5=.int .i64 (x:Int)/\s6=.int .i64 (y:Int)/\x<y/\y<=n/\C.length=n/\C.take x=(ts.take y).filter (λx=>!p x)/\C.drop y=ts.drop y/\wr.ownsRow base 93 4 (.slice (some ⟨g,0,none⟩) n cap) n (C.flatMap aM)/\w.grownBy wr (some g)) (λ_ s6 _=>n-(intOf s6).toNat);case atStart=>exact⟨i,i+1,ts,rfl,by go_num,by omega,by omega,Hn.out,bR.out.symm,rfl,ownsRow_below Ho.out Hb.out,DY _ Hb.out⟩
   case round=>
    clear Hb nD;obtain⟨x,y,C,rfl,rfl,hxy,BK,hC,htk,hdr,hov,hg⟩:=hrel;by_cases hlt:y<n
    . have Mu:y<ts.length:=by rw[Hn.out];exact hlt
      have VF:y<C.length:=by omega
      have hel:C[y]=ts[y]:=by
       have e1:C[y]?=ts[y]?:=by rw[<-Nat.add_zero y,<-List.getElem?_drop,<-List.getElem?_drop,hdr]
       rw[List.getElem?_eq_getElem VF,List.getElem?_eq_getElem Mu]at e1;exact Option.some.inj e1
      obtain⟨l,s,m,e,hx⟩:∃l s m e,ts[y]=(l,s,m,e):=⟨_,_,_,_,rfl⟩;have hw:=FH hov y VF (hel.trans hx);have hcl:=fR.out _ (List.getElem_mem Mu);rw[hx]at hcl;have hnx:(ts.take (y+1)).filter (λx=>!p x)=(ts.take y).filter (λx=>!p x)++if p (l,s,m,e)then[]else[(l,s,m,e)]:=by rw[List.take_succ_eq_append_getElem Mu,List.filter_append,hx];by_cases hp:p (l,s,m,e)=true<;>simp[hp]
      have hd2:C.drop (y+1)=ts.drop (y+1):=by rw[<-List.drop_drop,<-List.drop_drop,hdr]
      have aX:=qj n cap y (y:Int) (rfl:(some ⟨g,0,none⟩:Option Addr)=_) hlt rfl;rw[Nat.zero_add]at aX;obtain⟨hgb,rS⟩:=yA hov;obtain⟨dL,Hg,Qd,xf,nY,HC,Pb⟩:=jC hov hg htk hd2 hnx hC hcl;have Hz:Hid (bg wr g (y*4) [.string (bs l),.bool s,.string (bs m),.int .i64 e]):=hw;clear hov hg htk hd2 hnx hC hcl hw hdr hel hx;have Hb:Hid (Bw wr wr):=Below.refl _ _;obtain⟨z0,z1,z2,z3⟩:=Hz.out.w4;have P0:=z0;have P1:=z1;have P2:=z2;have P3:=z3;have DN:=kq.out;obtain⟨W4,jP,ae,Hv⟩:=bH wr 93 [.string (bs l),.bool s,.string (bs m),.int .i64 e];clear z0 z1 z2 z3;replace Hz:=kW Hz ae;obtain⟨z0,z1,z2,z3⟩:=Hz.out.w4;obtain⟨v0,v1,v2,v3⟩:=Hv.out.c4;replace Hb:=ak Hb ae;clear ae;obtain⟨t,ht⟩:=az (p (l,s,m,e));rw[ht]at Pb nY;clear ht;go_wp2_with fail;refine(Pb.out _).mono ?_;rintro e w5 ⟨rfl,ae⟩;clear z0 z1 z2 z3 v0 v1 v2 v3;replace Hz:=kW Hz ae;replace Hv:=kB Hv ae;obtain⟨z0,z1,z2,z3⟩:=Hz.out.w4;obtain⟨v0,v1,v2,v3⟩:=Hv.out.c4;replace Hb:=ak Hb ae;clear ae;have gD:=ownsRow_below dL.out Hb.out;have Ez:=grownBy_trans Hg.out (DY _ Hb.out);clear DN;cases t with
      | true=>
        obtain⟨uW,Ip⟩:=aJ gD Ez;clear gD Ez;go_wp2;go_roundw;case rel=>exact⟨x,y+1,C,rfl,by go_num,by omega,by omega,HC.out,by rw[nY.out,Qd.out];simp,xf.out,uW.out,Ip.out⟩
        case measure=>simp[intOf];omega
      | false=>
        have Mq:x<C.length:=by have:=HC.out;omega
        obtain⟨lx,sx,mx,ex,Vz⟩:∃l s m e,C[x]=(l,s,m,e):=⟨_,_,_,_,rfl⟩;obtain⟨u0,u1,u2,u3⟩:=(FH gD x Mq Vz).w4;have oI:=nP gD (x*4);have lW:=nP gD (x*4+1);have Kp:=nP gD (x*4+2);have RS:=nP gD (x*4+3);have lD:=qj n cap x (x:Int) (rfl:(some ⟨g,0,none⟩:Option Addr)=_) zo rfl;rw[Nat.zero_add]at lD;obtain⟨uW,Ip,Qi⟩:=cP gD Ez Mq;clear gD Ez Vz Mq;go_wp2;refine⟨⟨x+1,y+1,C.set x (l,s,m,e),by go_num,by go_num,by omega,by omega,by rw[List.length_set];exact HC.out,?_,?_,ajq uW.out x Qi.out l s m e,?_⟩,by simp[intOf];omega⟩
        . rw[take_set _ _ _ Qi.out,Qd.out,nY.out];simp
        . rw[JZ _ _ _ _ zo];exact xf.out
        . exact DZ (DZ (DZ (DZ Ip.out _ _) _ _) _ _) _ _
    . obtain rfl:y=n:=by omega
      have hK:C.take x=K:=by rw[htk,<-HK.out,List.take_of_length_le (by rw[Hn.out];exact Nat.le_refl _)]
      have Ef:K.length=x:=by rw[<-hK,List.length_take,hC];omega
      have yf:=WZ hov x zo;rw[RP C x zo,hK]at yf;obtain⟨w6,anI,Bt,TX⟩:=Xt wr 89 93 _ 4 Tryz.underlying89 Tryz.aq0 rfl (by intro v hv;simp[Value.cells]at hv;rcases hv with rfl|rfl|rfl|rfl<;>rfl) g x (y-x) cap (cap-x) base (K.flatMap aM) yf zo;have jb:¬cap=x:=by omega
      obtain⟨Ho6,rz,Zf⟩:=cP Bt (grownBy_trans hg TX) Ef;clear htk hdr hC hK Ef yf hov hg Bt TX;go_wp2;go_ret;exact⟨x,Zf.out.symm,rfl,Ho6.out,rz.out⟩
theorem At.first {w:World}{a:Option Addr}{xs:List Value}(h:At w a xs)(k:Nat):At w a (xs.take k):=by
 rcases h with rfl|⟨b,o,rfl,hc⟩
 . exact .inl zm
 . refine .inr ⟨b,o,rfl,λj hj=>?_⟩;rw[List.length_take]at hj;rw[hc j zo,List.getElem?_take_of_lt zo]
def Js (w:World)(a:Option Addr)(n cap:Nat)(ts:List aI)(e:Ending)(w':World):Prop:=
 ∃v',e=.returned v'/\((n<2/\v'=.slice a n cap)\/(2<=n/\w'.ownsRow w.heap.size 93 4 v' (fB ts).length ((fB ts).flatMap aM)))/\Bw w w'
theorem Js.at {w:World}{a:Option Addr}{n cap:Nat}{ts:List aI}{e:Ending}{w':World}(h:Js w a n cap ts e w')(hn:ts.length=n)(hs:Sl a n cap)(ha:At w a (ts.flatMap aM)):
 ∃a' c',e=.returned (.slice a' (fB ts).length c')/\At w' a' ((fB ts).flatMap aM)/\Sl a' (fB ts).length c'/\Bw w w':=by
 obtain⟨v',rfl,h1,hb⟩:=h;rcases h1 with⟨h2,rfl⟩ |⟨h2,ho⟩
 . rw[FU ts zo,hn];exact⟨a,cap,rfl,ha.below hb,hs,hb⟩
 . obtain⟨a',c',rfl,hat,_⟩:=eI ho;exact⟨a',c',rfl,hat,wD ho,hb⟩
theorem akG (n:Nat):∀(a:Option Addr) (cap:Nat) (ts:List aI) (B:Nat) (w:World),ts.length=n->Sl a n cap->n<=65536->At w a (ts.flatMap aM)->(∀t∈ts,Fit B t.2)->B+n+2<=268435456->au w->
 Calls Tryz.prog 189 #[.slice a n cap,.func (.func 155) #[] #[],.func (.func 156) #[] #[]] w (Js w a n cap ts):=by
 induction n using Nat.strongRecOn with
 | _ n ih=>
   intro a cap ts B w hn hs hl ha hf hB hT;by_cases h2:n<2
   . have h2i:(n:Int)<2:=by omega
     clear ih hn hs ha hf hT;have Hb:Hid (Bw w w):=Below.refl _ _;go_enter Tryz.func189,Tryz.ntmps189;go_wp2;go_ret;exact⟨_,rfl,.inl ⟨h2,rfl⟩,Hb.out⟩
   . obtain⟨k,hk⟩:=az (n/2);have hk1:1<=k:=by omega
     have hk2:k<n:=by omega
     have EC:(n:Int)/2=(k:Int):=by omega
     have l1:(ts.take k).length=k:=by rw[List.length_take];omega
     have l2:(ts.drop k).length=n-k:=by rw[List.length_drop];omega
     have hcn:=hs.1;have s1:Sl a k cap:=⟨by omega,hs.2⟩;have s2:Sl (if cap=k then a else a.map (·.add (k*4))) (n-k) (cap-k):=hs.cut zo;have a1:=ha.first (k*4);rw[RP ts k zo]at a1;have a2:=ha.cut (k:=k) (size:=4) (by rw[yG,hn]) zo hcn;have ed:(ts.flatMap aM).drop (k*4)=(ts.drop k).flatMap aM:=by
      have e:ts=ts.take k++ts.drop k:=(List.take_append_drop _ _).symm;conv=>lhs;rw[e]
      rw[List.flatMap_append,List.drop_left' (by rw[yG,l1])]
     rw[ed]at a2;obtain⟨a',ha'⟩:=az (if cap=k then a else a.map (·.add (k*4)));rw[ha']at s2 a2;have f1:∀t∈ts.take k,Fit B t.2:=λt ht=>hf t (List.mem_of_mem_take ht);have f2:∀t∈ts.drop k,Fit B t.2:=λt ht=>hf t (List.mem_of_mem_drop ht);have c1:=λW (hW:Bw w W) (AP:au W)=>(ih k hk2 a cap (ts.take k) B W l1 s1 zo (a1.below hW) f1 zo AP).mono (λe w' h=>h.at l1 s1 (a1.below hW));have c2:=λW (hW:Bw w W) (AP:au W)=>(ih (n-k) zo a' (cap-k) (ts.drop k) B W l2 s2 zo (a2.below hW) f2 zo AP).mono (λe w' h=>by obtain⟨x1,x2,x3,x4,x5,x6⟩:=h.at l2 s2 (a2.below hW);exact(⟨x1,x2,x3,x4,x5,Nat.le_trans hW.size x6.size,x6,x6⟩:∃a1 c1,e=.returned (.slice a1 (fB (ts.drop k)).length c1)/\At w' a1 ((fB (ts.drop k)).flatMap aM)/\Sl a1 (fB (ts.drop k)).length c1/\w.heap.size<=w'.heap.size/\Bw W w'/\Bw W w'));have g1:=NA (B:=B) (ts.take k) f1 zo;have g2:=NA (B:=B) (ts.drop k) f2 zo;have e1:=Cl (ts.take k);have e2:=Cl (ts.drop k);have hst:fB ts=fx (fB (ts.take k)) (fB (ts.drop k)):=by rw[NB ts zo,hn,hk]
     obtain⟨L,hL⟩:=az (fB (ts.take k));obtain⟨R,hR⟩:=az (fB (ts.drop k));rw[hL]at c1 g1 e1 hst;rw[hR]at c2 g2 e2 hst;have h2i:¬(n:Int)<2:=by omega
     have h2n:2<=n:=by omega
     obtain⟨C1,C2,G1,G2,bR,HT⟩:=iB c1 c2 (λt ht=>(g1 t ht).mono (show B+(ts.take k).length<=B+n by omega)) (λt ht=>(g2 t ht).mono (show B+(ts.drop k).length<=B+n by omega)) hst hT;have CS:Hid (L.length<=65536/\R.length<=65536):=⟨by omega,by omega⟩;have IY:=ha';clear ih hn hs ha hf hT a1 a2 s1 s2 f1 f2 c1 c2 g1 g2 e1 e2 hst ed l1 l2 hL hR hk ha';have Hb:Hid (Bw w w):=Below.refl _ _;go_enter Tryz.func189,Tryz.ntmps189;go_wp2_with fail;have hkn:k<=n:=by omega
     have hkc:k<=cap:=by omega
     refine cf (λw'=>True) (λi=>Nat.blt i 100000) [(0,true),(1,true),(2,true),(3,true),(4,true),(6,true),(7,true),(8,true),(9,true),(10,true),(12,true),(13,true),(5,false),(11,false),(14,false),(15,true)] zk zk rfl zk zc True.intro ?_;iterate 12 (refine pT rfl rfl ?_;try simp only[UU])
     refine aF rfl rfl (λK hK=>?_);go_simp;with_reducible refine(C1.out _ (by first|exact Hb.out|exact Hb.out.drew) (by first|exact(HT.out.below Hb.out) |exact au.drew (HT.out.below Hb.out) |exact au.alloc (HT.out.below Hb.out) _|exact au.drew (au.alloc (HT.out.below Hb.out) _) |exact au.alloc (au.drew (HT.out.below Hb.out)) _)).mono ?_
     rintro e w1 ⟨b1,d1,rfl,mg,hs1,hq⟩;have ae:Bw w w1:=by first|exact hq|exact aK hq
     replace Hb:=ak Hb ae;clear ae;refine hK _ _ (λ_=>True.intro) ?_;clear hK K;try simp only[UU]
     refine aF rfl rfl (λK hK=>?_);go_simp;with_reducible refine(C2.out _ (by first|exact Hb.out|exact Hb.out.drew) (by first|exact(HT.out.below Hb.out) |exact au.drew (HT.out.below Hb.out) |exact au.alloc (HT.out.below Hb.out) _|exact au.drew (au.alloc (HT.out.below Hb.out) _) |exact au.alloc (au.drew (HT.out.below Hb.out)) _)).mono ?_
     rintro e w2 ⟨b2,d2,rfl,oQ,hs2,agZ,tO,hq⟩;have ae:Bw w1 w2:=by first|exact hq|exact aK hq
     replace Hb:=ak Hb ae;clear ae;refine hK _ _ (λ_=>True.intro) ?_;clear hK K;try simp only[UU]
     refine aF rfl rfl (λK hK=>?_);go_simp;with_reducible refine(WA b1 L.length d1 L b2 R.length d2 R (B+n) _ rfl rfl hs1 hs2 CS.out.1 CS.out.2 (by first|exact mg.below tO|exact(mg.below tO).drew) (by first|exact oQ|exact oQ.drew) G1.out G2.out zo (by first|exact(HT.out.below Hb.out) |exact au.drew (HT.out.below Hb.out) |exact au.alloc (HT.out.below Hb.out) _|exact au.drew (au.alloc (HT.out.below Hb.out) _) |exact au.alloc (au.drew (HT.out.below Hb.out)) _)).mono ?_
     rintro e w3 ⟨v',rfl,ho,hq⟩;have ae:Bw w2 w3:=by first|exact hq|exact aK hq
     replace Hb:=ak Hb ae;clear ae;refine hK _ _ (λ_=>True.intro) ?_;clear hK K;try simp only[UU]
     refine pT rfl rfl ?_;try simp only[UU]
     simp only[aN];go_wp2;go_ret;exact⟨v',rfl,.inr ⟨h2n,by rw[bR.out];exact wE ho agZ⟩,Hb.out⟩
def xH (x:aI):aI:=(x.1,canon (ar x.2))
theorem Wy (f:aI->aI)(K C:List aI)(k:Nat)(hk:k<C.length)(hl:C.length=K.length)(ht:C.take k=(K.map f).take k)(hx:C[k]=K[k]'zo):(C.set k (f C[k])).take (k+1)=(K.map f).take (k+1):=by rw[take_set _ _ _ hk,ht,List.take_succ_eq_append_getElem zi,List.getElem_map,hx]
theorem Ry {K C:List aI}{k:Nat}(hd:C.drop k=K.drop k)(h1:k<C.length)(h2:k<K.length):C[k]=K[k]:=by
 have e1:C[k]?=K[k]?:=by rw[<-Nat.add_zero k,<-List.getElem?_drop,<-List.getElem?_drop,hd]
 rw[List.getElem?_eq_getElem h1,List.getElem?_eq_getElem h2]at e1;exact Option.some.inj e1
theorem adU (V:Int)(v:Value)(n:Nat)(ts:List aI)(B:Nat)(w0 w:World)(hb0:Bw w0 w)(hn:ts.length=n)(hl:n<=4096)(ho:w.ownsRow w0.heap.size 93 4 v n (ts.flatMap aM))(hf:∀t∈ts,Fit B t.2)(hB:B+n+2<=268435456)(hT:au w0):
 Calls Tryz.prog 152 #[.int .i64 V,v] w λe w'=>∃v',e=.returned (.tuple #[.agg #[.int .i64 V,v'],.int .i64 0])/\w'.ownsRow w0.heap.size 93 4 v' (bT ts).length ((bT ts).flatMap aM)/\Bw w0 w':=by
 obtain⟨a,cap,rfl,hat,_⟩:=eI ho;have hs:=wD ho;have EA:=NA ts hf zo;have hsl:=Cl ts;have eg:∀args w,(callFunc 190 args).run Tryz.prog w=.ok (.enter 190 args) w:=enters_of Tryz.func190 zk rfl;obtain⟨S,hS⟩:=az (fB ts);have c1:∀W,Bw w W->Calls Tryz.prog 189 #[.slice a n cap,.func (.func 155) #[] #[],.func (.func 156) #[] #[]] W λe w'=>∃v1,e=.returned v1/\w'.ownsRow w0.heap.size 93 4 v1 S.length (S.flatMap aM)/\Bw W w':=by
  intro W hW;refine(akG n a cap ts B W hn hs zo (hat.below hW) hf hB (hT.below (aG hb0 hW))).mono ?_;rintro e w' ⟨v1,rfl,h1,hb⟩;refine⟨v1,rfl,?_,hb⟩;rcases h1 with⟨h2,rfl⟩ |⟨h2,fu⟩
  . rw[<-hS,FU ts zo,hn];exact ownsRow_below ho (aG hW hb)
  . rw[<-hS];exact wE fu (by have:=hW.size;have:=hb0.size;omega)
 obtain⟨K,hK⟩:=az (S.filter mE);have Ef:K.length<=4096:=by have:=List.length_filter_le mE S;rw[hK]at this;rw[hS]at hsl;omega
 rw[hS]at EA hsl;have c2:∀W v1,Bw w0 W->W.ownsRow w0.heap.size 93 4 v1 S.length (S.flatMap aM)->Calls Tryz.prog 188 #[v1,.func (.func 190) #[] #[]] W λe w'=>∃v2,e=.returned v2/\w'.ownsRow w0.heap.size 93 4 v2 K.length (K.flatMap aM)/\W.grownBy w' v1.ownBlock:=by
  intro W v1 hW fu;have hcl:∀x∈S,∀W,Calls Tryz.prog 190 #[.agg #[.string (bs x.1),.bool x.2.1,.string (bs x.2.2.1),.int .i64 x.2.2.2]] W λe w'=>e=.returned (.bool (!mE x))/\Bw W w':=λx hx W=>adT x.1 x.2.1 x.2.2.1 x.2.2.2 W (EA x hx).1;by_cases h0:0<S.length
  . obtain⟨g,c,rfl,_,_,_⟩:=yC fu h0;refine(aex g S.length c w0.heap.size S _ (λx=>!mE x) W rfl zo h0 fu eg hcl).mono ?_;rintro e w' ⟨k,hk,rfl,fw,hg2⟩;simp only[Bool.not_not]at hk fw;rw[hK]at hk fw;subst hk;exact⟨_,rfl,fw,hg2⟩
  . have ma:S=[]:=List.eq_nil_of_length_eq_zero zo;obtain⟨a1,c,rfl,mg,_⟩:=eI fu;refine(aey a1 S.length c S _ (λx=>!mE x) W rfl zo mg eg (λx hx=>by rw[ma]at hx;cases hx) hcl).mono ?_;rintro e w' ⟨rfl,hb⟩;have rL:K=S:=by rw[<-hK,ma];rfl
    rw[rL];exact⟨_,rfl,ownsRow_below fu hb,DY _ hb⟩
 have SD:∀t∈K,Fit (B+ts.length) t.2:=λt ht=>by rw[<-hK]at ht;exact EA t (List.mem_filter.1 ht).1
 have hcl:bT ts=K.map xH:=by unfold bT;rw[hS,hK];rfl
 rw[hcl,List.length_map];have hz:=hb0.size;obtain⟨m,hm⟩:=az K.length;rw[hm]at Ef c2⊢;obtain⟨Hm,C1,C2,Ze,Hw0,HT⟩:=iB hm c1 c2 SD hb0 hT;clear c1 c2 hm SD hcl hb0 hT EA hS hK ho hat hs hf eg hsl;have Hb:Hid (Bw w w):=Below.refl _ _;go_enter Tryz.func152,Tryz.ntmps152;go_wp2_with fail;obtain⟨R,hR⟩:∃R:World->Prop,(λW=>ag W (w.heap.size) 91 [.int .i64 0,.slice none 0 0]/\Bw w W)=R:=⟨_,rfl⟩;first|refine bB R ?hR ?_|refine bz R ?hR ?_
 case hR=>subst hR;exact⟨(ag.newAt w _ _ (b:=w.heap.size) rfl),zl⟩
 subst hR;rintro W ⟨qr,ae⟩;have Hr:=af qr;clear qr;obtain⟨r0,ah,r1,ai⟩:=Hr.out.g2;replace Hb:=ak Hb ae;clear ae;go_wp2_with fail;refine(C1.out _ Hb.out).mono ?_;rintro e w1 ⟨v1,rfl,fu,ae⟩;clear r0 ah r1 ai;replace Hr:=kB Hr ae;obtain⟨r0,ah,r1,ai⟩:=Hr.out.g2;replace Hb:=ak Hb ae;clear ae;have hw1:=aG Hw0.out Hb.out;go_wp2_with fail;refine(C2.out _ v1 hw1 fu).mono ?_;rintro e w2 ⟨v2,rfl,fw,hg2⟩;have hr2:=Hr.out.row zd fu hg2;have hw2:=adg (hg2) (Nat.le_trans hz Hb.out.size) (λg e=>eJ fu g e);obtain⟨Qf,zO⟩:=aJ (hw1.trans hw2) fw;replace Hr:=af hr2;clear C1 C2 fu hg2 hw1 hw2 hr2 fw r0 ah r1 ai Hb;have hKi:¬(4096:Int)<(m:Int):=by omega
 obtain⟨a2,cap2,rfl,_,_⟩:=eI zO.out;go_wp2_with fail;go_loopw[16] (λx wr=>∃(k:Nat) (C:List aI),k<=m/\x=.int .i64 (k:Int)/\C.length=m/\C.take k=(K.map xH).take k/\C.drop k=K.drop k/\wr.ownsRow w0.heap.size 93 4 (.slice a2 m cap2) m (C.flatMap aM)/\ag wr w.heap.size 91 [.int .i64 0,.slice none 0 0]/\Bw w0 wr) (λx _=>m-(intOf x).toNat);case atStart=>exact⟨0,K,Nat.zero_le _,rfl,Hm.out,rfl,rfl,zO.out,Hr.out,Qf.out⟩
 case round=>
  clear Hr zO Qf;obtain⟨k,C,hk,rfl,hC,htk,hdr,hov,hr,pb⟩:=hrel;by_cases hlt:k<m
  . obtain⟨g,cc,he,hg1,hg2,hg3⟩:=yC hov zo;simp only[Value.slice.injEq,true_and]at he;obtain⟨rfl,rfl⟩:=he;have rU:k<C.length:=by omega
    have vL:k<K.length:=by have:=Hm.out;omega
    have hel:=Ry hdr rU vL;obtain⟨l,s,q,e,hx⟩:∃l s m e,C[k]=(l,s,m,e):=⟨_,_,_,_,rfl⟩;have pY:=Ze.out _ (List.getElem_mem vL);rw[<-hel,hx]at pY;obtain⟨D,hD⟩:=az (ar (s,q,e));have jV:=Wy xH K C k rU (by rw[hC,Hm.out]) htk hel;have AV:xH C[k]=(l,canon D):=by rw[hx,<-hD];rfl
    rw[AV]at jV;have jb:C[k].1=l:=by rw[hx]
    have hw:=FH hov k rU hx;have hd2:C.drop (k+1)=K.drop (k+1):=by rw[<-List.drop_drop,<-List.drop_drop,hdr]
    have aX:=qj m cap2 k (k:Int) (rfl:(some ⟨g,0,none⟩:Option Addr)=_) hlt rfl;rw[Nat.zero_add]at aX;have Hfm:Hid (∀W,au W->Calls Tryz.prog 111 #[.agg #[.bool s,.string (bs q),.int .i64 e]] W λex w'=>ex=.returned (bQ D)/\Bw W w'):=λW AP=>oH s q e D hD W pY.1 AP;obtain⟨dL,aR,zU,xf,HC,GW,uO⟩:=jC hov pb jV hd2 hC jb (HT.out.below pb);have Hr:Hid (ag wr w.heap.size 91 [.int .i64 0,.slice none 0 0]):=hr;have Hz:Hid (bg wr g (k*4) [.string (bs l),.bool s,.string (bs q),.int .i64 e]):=hw;clear hov pb jV hd2 hC hr hw htk hdr hel hx pY hD AV jb vL;have Hb:Hid (Bw wr wr):=Below.refl _ _;obtain⟨z0,z1,z2,z3⟩:=Hz.out.w4;have y2:wr.cell? ⟨g,k*4+1+1,none⟩=some (.string (bs q)):=z2;have y3:wr.cell? ⟨g,k*4+1+2,none⟩=some (.int .i64 e):=z3;go_wp2_with fail;refine(Hfm.out _ uO.out).mono ?_;rintro e w5 ⟨rfl,ae⟩;clear z0 z1 z2 z3;replace Hz:=kW Hz ae;obtain⟨z0,z1,z2,z3⟩:=Hz.out.w4;replace Hb:=ak Hb ae;clear ae;have gD:=ownsRow_below dL.out Hb.out;clear y2 y3;have y2:w5.cell? ⟨g,k*4+1+1,none⟩=some (.string (bs q)):=z2;have y3:w5.cell? ⟨g,k*4+1+2,none⟩=some (.int .i64 e):=z3;have lW:=nP gD (k*4+1);have Kp:=nP gD (k*4+1+1);have RS:=nP gD (k*4+1+2);have hgb:=(yA gD).2;have Ma:=Hr.out.below Hb.out;have cW:=aG aR.out Hb.out;have Lv:g≠w.heap.size:=λe=>Ma.not_row zd gD (by rw[e];rfl);obtain⟨uW,Hr5,fQ⟩:=cP gD Ma cW;clear gD Ma cW;go_wp2;refine⟨⟨k+1,C.set k (l,canon D),by omega,by go_num,by rw[List.length_set];exact HC.out,zU.out,by rw[JZ _ _ _ _ zo];exact xf.out,?_,?_,?_⟩,by simp[intOf];omega⟩
    . have h:=WY uW.out k rU (aj (dN D)) (nt (dN D).natAbs) (dE D);rw[GW.out]at h;exact h
    . exact((Hr5.out.aqG _ Lv _).aqG _ Lv _).aqG _ Lv _
    . exact((fQ.out.setCell zp _).setCell zp _).setCell zp _
  . obtain rfl:k=m:=by omega
    have Av:C=K.map xH:=by rw[List.take_of_length_le zo,List.take_of_length_le (by rw[List.length_map];have:=Hm.out;omega)]at htk;exact htk
    rw[Av]at hov;obtain⟨dL,aR⟩:=aJ hov pb;have Hr:Hid (ag wr w.heap.size 91 [.int .i64 0,.slice none 0 0]):=hr;clear hov pb hr htk hdr hC Av;obtain⟨r0,ah,r1,ai⟩:=Hr.out.g2;go_wp2;have hne:=(Hr.out.not_row zd dL.out).symm;have hrs:=Hr.out.lt;refine eK (λw9=>ag w9 w.heap.size 91 [.int .i64 V,.slice a2 k cap2]/\w9.ownsRow w0.heap.size 93 4 (.slice a2 k cap2) k ((K.map xH).flatMap aM)/\Bw w0 w9) ⟨(Hr.out.set 0 _).set 1 _,ownsRow_setCell_other (ownsRow_setCell_other dL.out hne _) hne _,(aR.out.setCell hz _).setCell hz _⟩ ?_;rintro w9 ⟨pg,lF,jx⟩;obtain⟨q0,q1⟩:=pg.c2;exact bodyPost_ret (v:=.tuple #[.agg #[.int .i64 V,.slice a2 k cap2],.int .i64 0]) (by simp[results,Tryz.results152,go_sem,q0,q1]) rfl ⟨_,rfl,lF,jx⟩
theorem JK (V:Int)(v:Value)(n:Nat)(ts C:List aI)(B:Nat)(w0 w:World)(hb0:Bw w0 w)(hn:ts.length=n)(hl:n<=4096)(ho:w.ownsRow w0.heap.size 93 4 v n (ts.flatMap aM))(hf:∀t∈ts,Fit B t.2)(hB:B+n+2<=268435456)(hT:au w0)(hC:bT ts=C):
 Calls Tryz.prog 152 #[.int .i64 V,v] w λe w'=>∃a c,e=.returned (.tuple #[.agg #[.int .i64 V,.slice a C.length c],.int .i64 0])/\w'.ownsRow w0.heap.size 93 4 (.slice a C.length c) C.length (C.flatMap aM)/\Bw w0 w':=by
 subst hC;refine(adU V v n ts B w0 w hb0 hn hl ho hf hB hT).mono ?_;rintro e w' ⟨v',rfl,h1,h2⟩;obtain⟨a,c,rfl,_,_⟩:=eI h1;exact⟨a,c,rfl,h1,h2⟩
theorem ajn {w W:World}{b base k:Nat}{v x0 x1:Value}{xs:List Value}(hr:ag W b 91 [x0,x1])(ho:W.ownsRow base 93 4 v k xs)(hb:Bw w W)(hbs:w.heap.size<=b)(y0 y1:Value):
 ag ((W.setCell ⟨b,0,none⟩ y0).setCell ⟨b,1,none⟩ y1) b 91 [y0,y1]/\((W.setCell ⟨b,0,none⟩ y0).setCell ⟨b,1,none⟩ y1).ownsRow base 93 4 v k xs/\Bw w ((W.setCell ⟨b,0,none⟩ y0).setCell ⟨b,1,none⟩ y1):=by
 have hne:=(hr.not_row zd ho).symm;exact⟨(hr.set 0 _).set 1 _,ownsRow_setCell_other (ownsRow_setCell_other ho hne _) hne _,(hb.setCell hbs _).setCell hbs _⟩
theorem Af {P:Program}{fn:Func}{R:Ending->World->Prop}{e:Exit}{a:Act}{w W:World}{b base k:Nat}{v x0 x1 y0 y1:Value}{xs:List Value}(hr:ag W b 91 [x0,x1])(ho:W.ownsRow base 93 4 v k xs)(hb:Bw w W)(hbs:w.heap.size<=b)
 (h:∀W',ag W' b 91 [y0,y1]->W'.ownsRow base 93 4 v k xs->Bw w W'->bodyPost P fn R e a W'):bodyPost P fn R e a ((W.setCell ⟨b,0,none⟩ y0).setCell ⟨b,1,none⟩ y1):=by
 obtain⟨h1,h2,h3⟩:=ajn hr ho hb hbs y0 y1;exact h _ h1 h2 h3
theorem QZ (a:Option Addr)(n cap:Nat)(ts:List aI)(w:World)(hn:ts.length=n)(hl:n<=1048576)(hs:Sl a n cap)(ha:At w a (ts.flatMap aM)):
 Calls Tryz.prog 151 #[.slice a n cap] w λe w'=>∃v',e=.returned v'/\w'.ownsRow w.heap.size 93 4 v' n (ts.flatMap aM)/\Bw w w':=by
 obtain⟨i0,hi,hz0,hz1,hz2⟩:=info_parts Tryz.aqP;have q:=λ(w:World) (a:Option Addr) (n c n' c':Nat)=>Lib.run_eql_slice_nil (P:=Tryz.prog) w 89 93 a n c n' c' Tryz.underlying89;have hlen:(ts.flatMap aM).length=n*4:=by rw[lu aM 4 (λ_=>rfl),hn]
 obtain⟨cs,hcs⟩:=az (ts.flatMap aM);have h1:=NI ts;rw[hcs]at hlen ha h1⊢;obtain⟨lT,Ha,H1,Hs,Hi,fC,fJ,eF⟩:=mB hlen ha h1 hs hi hz0 hz1 hz2;clear hlen ha h1 hs hi hz0 hz1 hz2 hn hcs;cases a with
 | none=>
   have hc:=Hs.out.2 rfl;have hn0:n=0:=by have:=Hs.out.1;omega
   subst hc;subst hn0;go_enter Tryz.func151,Tryz.ntmps151;go_wp2;go_ret;refine⟨_,rfl,?_,Below.refl _ _⟩;have e:cs=[]:=List.eq_nil_of_length_eq_zero (by have:=lT.out;omega);rw[e];exact World.ownsRow_nil _ _ _ _
 |some ad=>go_enter Tryz.func151,Tryz.ntmps151;go_wp2_with (at_builtin;refine NV rfl _ _ 89 rfl w.heap.size 93 i0 _ 4 48 Tryz.underlying89 Hi.out fC.out fJ.out eF.out rfl zd _ 0 [] rfl (World.ownsRow_made w #[] 0 (Nat.le_refl _) (Nat.zero_le _) zm) (some ad) n cap cs rfl Hs.out lT.out (Ha.out.below ((Below.refl _ w).alloc (Nat.le_refl _) _)) H1.out zx zo zm ?_;intro v' w1 hown hgrow jU);go_ret;refine⟨v',rfl,by simpa using hown,?_⟩;exact((Below.refl _ w).alloc (Nat.le_refl _) _).grown hgrow zm (λk hk=>by have h9:w.heap.size=k:=Option.some.inj hk;omega)
theorem ais (V:Int)(ts:List aI)(h:∀t∈ts,fP t.1 V=true):(ts.any λt=>!fP t.1 V)=false:=by rw[List.any_eq_false];intro t ht;rw[h t ht];simp
theorem Wx (V:Nat)(a:Option Addr)(n cap:Nat)(ts:List aI)(B:Nat)(w:World)(hV:V<=12)(hn:ts.length=n)(hl:n<=4096)(hs:Sl a n cap)(ha:At w a (ts.flatMap aM))(hm:∀t∈ts,fP t.1 V=true)(hl2:∀t∈ts,t.1.length<=9223372036854775807)
 (hf:∀t∈ts,Fit B t.2) (hB:B+n+2<=268435456) (hT:au w):
 Calls Tryz.prog 147 #[.int .i64 (V:Int),.slice a n cap] w λe w'=>∃a' c',e=.returned (.tuple #[.agg #[.int .i64 (V:Int),.slice a' (bT ts).length c'],.int .i64 0])/\w'.ownsRow w.heap.size 93 4 (.slice a' (bT ts).length c') (bT ts).length ((bT ts).flatMap aM)/\Bw w w':=by
 have eg:∀args w,(callFunc 186 args).run Tryz.prog w=.ok (.enter 186 args) w:=enters_of Tryz.func186 zk rfl;have hct:∀W bv,Bw w W->W.cell? ⟨bv,0,none⟩=some (.int .i64 (V:Int))->Calls Tryz.prog 185 #[.slice a n cap,.func (.func 186) #[] #[.pointer (some ⟨bv,0,none⟩)]] W λe w'=>e=.returned (.bool false)/\Bw W w':=by intro W bv hW hc;have h:=aed a n cap ts 186 #[.pointer (some ⟨bv,0,none⟩)] (λt=>!fP t.1 V) W hn zo (ha.below hW) eg (λx hx W2 hW2=>by simpa using aiq x.1 x.2.1 x.2.2.1 x.2.2.2 V bv W2 (cell_later hW2 hc) (hl2 x hx));rwa [ais V ts hm]at h
 obtain⟨C,hC⟩:=az (bT ts);have hcn:=λW (hW:Bw w W)=>(QZ a n cap ts W hn zo hs (ha.below hW)).mono (λe w' h=>(match h with|⟨v,h1,h2,h3⟩=>⟨v,h1,h2,h3,h3⟩:∃v',e=.returned v'/\w'.ownsRow W.heap.size 93 4 v' n (ts.flatMap aM)/\Bw W w'/\Bw W w'));have hcl:=λw0 W v (hw0:Bw w w0) (hb0:Bw w0 W) (ho:W.ownsRow w0.heap.size 93 4 v n (ts.flatMap aM))=>JK (V:Int) v n ts C B w0 W hb0 hn hl ho hf hB (hT.below hw0) hC;rw[hC];obtain⟨GU,rh,fR⟩:=cP hct hcn hcl;clear hct hcn hcl hC ha hT hf hm hl2 hs hn eg;have oV:=λW=>DU (V:Int) W;have hd:decide (0<=(V:Int)/\(V:Int)<=12)=true:=by simp;omega
 rw[hd]at oV;have zE:=af oV;clear oV hd;have hni:¬(65536:Int)<(n:Int):=by omega
 have Hb:Hid (Bw w w):=Below.refl _ _;go_enter Tryz.func147,Tryz.ntmps147;go_wp2_with fail;obtain⟨R,hR⟩:∃R:World->Prop,(λW=>ag W (w.heap.size) 3 [.int .i64 (V:Int)]/\ag W (w.heap.size+1) 91 [.int .i64 0,.slice none 0 0]/\Bw w W)=R:=⟨_,rfl⟩;first|refine bB R ?hR ?_|refine bz R ?hR ?_
 case hR=>subst hR;exact⟨((ag.newAt w _ _ (b:=w.heap.size) rfl).alloc _),(ag.newAt (w.alloc _) _ _ (b:=w.heap.size+1) zm),(zl.alloc zj _)⟩
 subst hR;rintro W ⟨qv,qr,ae⟩;have Hv:=af qv;clear qv;have Hr:=af qr;clear qr;have v0:=Hv.out.c1;obtain⟨r0,ah,r1,ai⟩:=Hr.out.g2;replace Hb:=ak Hb ae;clear ae;go_wp2_with fail;refine(zE.out _).mono ?_;rintro e w1 ⟨rfl,ae⟩;clear v0 r0 ah r1 ai;replace Hv:=kB Hv ae;replace Hr:=kB Hr ae;have v0:=Hv.out.c1;obtain⟨r0,ah,r1,ai⟩:=Hr.out.g2;replace Hb:=ak Hb ae;clear ae;go_wp2_with fail;refine(GU.out _ _ Hb.out v0).mono ?_;rintro e w2 ⟨rfl,ae⟩;clear v0 r0 ah r1 ai;replace Hv:=kB Hv ae;replace Hr:=kB Hr ae;have v0:=Hv.out.c1;obtain⟨r0,ah,r1,ai⟩:=Hr.out.g2;replace Hb:=ak Hb ae;clear ae;go_wp2_with fail;refine cf (λw'=>w'.cell? ⟨w.heap.size,0,none⟩=some (.int .i64 (V:Int))) (λi=>Nat.blt i 6) [(0,true),(1,true),(2,false),(3,false),(4,true),(5,true),(6,false),(7,false)] zk zk rfl zk zc v0 ?_;iterate 2 (refine pT rfl rfl ?_;try simp only[UU])
 have abN:=Hv;have kX:=Hr;have eu:=Hb;refine aF rfl rfl (λK hK=>?_);go_simp;with_reducible refine(rh.out _ (by first|exact Hb.out|exact Hb.out.drew)).mono ?_
 rintro e w3 ⟨v1,rfl,fu,agf,hq⟩;have ae:Bw w2 w3:=by first|exact hq|exact aK hq
 clear v0 r0 ah r1 ai;replace Hv:=kB Hv ae;replace Hr:=kB Hr ae;have v0:=Hv.out.c1;obtain⟨r0,ah,r1,ai⟩:=Hr.out.g2;replace Hb:=ak Hb ae;clear ae;refine hK _ _ (λ_=>v0) ?_;clear hK K;try simp only[UU]
 refine aF rfl rfl (λK hK=>?_);go_simp;with_reducible refine(fR.out _ _ v1 (by first|exact eu.out|exact eu.out.drew) agf fu).mono ?_
 rintro e w4 ⟨a2,c2,rfl,fw,hq⟩;have ae:Bw w2 w4:=by first|exact hq|exact aK hq
 clear v0 r0 ah r1 ai;replace Hv:=af (abN.out.below ae);replace Hr:=af (kX.out.below ae);have v0:=Hv.out.c1;obtain⟨r0,ah,r1,ai⟩:=Hr.out.g2;replace Hb:=af (aG eu.out ae);clear ae;refine hK _ _ (λ_=>v0) ?_;clear hK K;try simp only[UU]
 iterate 2 (refine pT rfl rfl ?_;try simp only[UU])
 refine aF rfl rfl (λK hK=>?_);go_simp;refine hK _ _ (by first|exact λh=>absurd h zd|exact λ_=>v0|exact λ_=>eW zg v0) ?_;clear hK K;try simp only[UU]
 refine aF rfl rfl (λK hK=>?_);go_simp;refine hK _ _ (λh=>absurd h zd) ?_;clear hK K;try simp only[UU]
 simp only[aN];go_wp2;refine Af (Hr.out) fw Hb.out zo ?_;intro w9 pg lF jx;obtain⟨p0,p1⟩:=pg.c2;exact bodyPost_ret (v:=.tuple #[.agg #[.int .i64 (V:Int),.slice a2 C.length c2],.int .i64 0]) (by simp[results,Tryz.results147,go_sem,p0,p1]) rfl ⟨_,_,rfl,wE lF (by have:=eu.out.size;exact this),jx⟩
def vh (w:World)(a:Option Addr)(C:List aI):Prop:=C=[]\/∃b o cur,a=some ⟨b,o,none⟩/\w.heap[b]?=some (.cells cur 93)
theorem vh.below {w w':World}{a:Option Addr}{C:List aI}(h:vh w a C)(hb:Bw w w'):vh w' a C:=by
 rcases h with h|⟨b,o,cur,h1,h2⟩
 . exact .inl h
 . exact .inr ⟨b,o,cur,h1,by rw[hb.block b (Array.getElem?_eq_some_iff.1 h2).1];exact h2⟩
theorem vh.off {w:World}{a:Option Addr}{C:List aI}{g:Nat}{cur:Array Value}{t:TypeId}(h:vh w a C)(hg:w.heap[g]?=some (.cells cur t))(ht:t≠93)(i:Nat)(u:Value):vh (w.setCell ⟨g,i,none⟩ u) a C:=by
 rcases h with h|⟨b,o,cur',h1,h2⟩
 . exact .inl h
 . refine .inr ⟨b,o,cur',h1,?_⟩;have hne:b≠g:=λe=>by subst e;rw[hg]at h2;simp at h2;exact ht h2.2
   rw[Below.heap_setCell _ _ _ _ hne];exact h2
def cN (w:World)(a:Option Addr)(c:Nat)(C:List aI):Prop:=At w a (C.flatMap aM)/\Sl a C.length c/\vh w a C
theorem cN.below {w w':World}{a:Option Addr}{c:Nat}{C:List aI}(h:cN w a c C)(hb:Bw w w'):cN w' a c C:=⟨h.1.below hb,h.2.1,h.2.2.below hb⟩
theorem cN.off {w:World}{a:Option Addr}{c:Nat}{C:List aI}{g:Nat}{cur:Array Value}{t:TypeId}(h:cN w a c C)(hg:w.heap[g]?=some (.cells cur t))(ht:t≠93)(i:Nat)(u:Value):cN (w.setCell ⟨g,i,none⟩ u) a c C:=by
 refine⟨?_,h.2.1,h.2.2.off hg ht i u⟩;rcases h.2.2 with h'|⟨b,o,cur',rfl,h2⟩
 . subst h';exact .inl rfl
 . have hne:b≠g:=λe=>by subst e;rw[hg]at h2;simp at h2;exact ht h2.2
   rcases h.1 with h1|⟨b1,o1,e1,hc⟩
   . exact .inl h1
   . simp only[Option.some.injEq,Addr.mk.injEq,and_true]at e1;obtain⟨rfl,rfl⟩:=e1;refine .inr ⟨b,o,rfl,λj hj=>?_⟩;have h9:=hc j hj;rw[List.getElem?_eq_getElem hj]at h9⊢;exact aC (.inl hne) h9
theorem cN.store {w:World}{a:Option Addr}{c b:Nat}{t:TypeId}{C:List aI}{cs:List Value}(h:cN w a c C)(hb:ag w b t cs)(ht:t≠93)(u v:Value):cN ((w.setCell ⟨b,0,none⟩ u).setCell ⟨b,1,none⟩ v) a c C:=
 (h.off hb ht 0 u).off (hb.set 0 u) ht 1 v
theorem FD {w:World}{base c:Nat}{a:Option Addr}{C:List aI}(h:w.ownsRow base 93 4 (.slice a C.length c) C.length (C.flatMap aM)):cN w a c C:=by
 obtain⟨a',c',hv,hat,_⟩:=eI h;have hs:=wD h;simp only[Value.slice.injEq,true_and]at hv;obtain⟨rfl,rfl⟩:=hv;refine⟨hat,hs,?_⟩;rcases h.2 with⟨_,h2⟩ |⟨g,cap,cur,hv,hb,hg,_⟩
 . exact .inl (List.length_eq_zero_iff.1 h2)
 . simp only[Value.slice.injEq,true_and]at hv;exact .inr ⟨g,0,cur,hv.1,hg⟩
theorem ame (V:Nat):((List.range V).map λ_=>UInt8.ofNat 0)=jH V:=by
 unfold jH;apply List.ext_getElem
 . simp
 . intro i h1 h2;simp
theorem ahK (V:Nat)(D:Dyadic)(x:Raw)(l:Nat->Dyadic)(h:ar x=D):bT [(jH V,x)]=dz V D l 0:=by unfold dz;refine xI (λm=>?_);simp only[gh,List.range_zero,List.map_nil,cd,bC,h]
theorem Rf (V:Nat)(s:Bool)(m:List UInt8)(e:Int)(D:Dyadic)(B:Nat)(l:Nat->Dyadic)(w:World)(hV:V<=12)(hf:Fit B (s,m,e))(hB:B+3<=268435456)(hT:au w)(hD:ar (s,m,e)=D):
 Calls Tryz.prog 97 #[.int .i64 (V:Int),.agg #[.bool s,.string (bs m),.int .i64 e]] w λex w'=>∃a' c',ex=.returned (.tuple #[.agg #[.int .i64 (V:Int),.slice a' (dz V D l 0).length c'],.int .i64 0])/\cN w' a' c' (dz V D l 0)/\Bw w w':=by
 have hC:=ahK V D (s,m,e) l hD;obtain⟨C,Sd⟩:=az (dz V D l 0);rw[Sd]at hC⊢;have hmk:=λW (hW:Bw w W) b (hb:ag W b 93 [.string (bs (jH V)),.bool s,.string (bs m),.int .i64 e])=>Wx V (some ⟨b,0,none⟩) 1 1 [(jH V,(s,m,e))] B W hV rfl zo (Sl.some _ _ _ (Nat.le_refl _)) (At.aqF hb) (by intro t ht;simp at ht;subst ht;exact YI V) (by intro t ht;simp at ht;subst ht;simp[jH];omega) (by intro t ht;simp at ht;subst ht;exact hf) zo (hT.below hW);rw[hC]at hmk;have oV:=λW=>DU (V:Int) W;have hd:decide (0<=(V:Int)/\(V:Int)<=12)=true:=by simp;omega
 rw[hd]at oV;have hmb:=λW=>ut (V:Int) V rfl zo W;have hcv:∀W b,Hid (ag W b 5 (cG V λ_=>0))->(convert 94 9 (.slice (some ⟨b,0,none⟩) V V)).run Tryz.prog W=.ok (.string (bs (jH V))) W:=λW b h=>by rw[<-ame];exact yI h.out V
 obtain⟨pL,zE⟩:=aJ hmk oV;clear hmk oV hd hC Sd hT hf hD;have Hb:Hid (Bw w w):=Below.refl _ _;go_enter Tryz.func97,Tryz.ntmps97;go_wp2_with fail;obtain⟨R,hR⟩:∃R:World->Prop,(λW=>ag W (w.heap.size) 39 [.bool s,.string (bs m),.int .i64 e]/\ag W (w.heap.size+1) 91 [.int .i64 0,.slice none 0 0]/\Bw w W)=R:=⟨_,rfl⟩;first|refine bB R ?hR ?_|refine bz R ?hR ?_
 case hR=>subst hR;exact⟨((ag.newAt w _ _ (b:=w.heap.size) rfl).alloc _),(ag.newAt (w.alloc _) _ _ (b:=w.heap.size+1) zm),(zl.alloc zj _)⟩
 subst hR;rintro W ⟨qc,qr,ae⟩;have Hc:=af qc;clear qc;have Hr:=af qr;clear qr;obtain⟨c0,c1,c2⟩:=Hc.out.c3;obtain⟨r0,ah,r1,ai⟩:=Hr.out.g2;replace Hb:=ak Hb ae;clear ae;go_wp2_with fail;refine(zE.out _).mono ?_;rintro e w1 ⟨rfl,ae⟩;clear c0 c1 c2 r0 ah r1 ai;replace Hc:=kB Hc ae;replace Hr:=kB Hr ae;obtain⟨c0,c1,c2⟩:=Hc.out.c3;obtain⟨r0,ah,r1,ai⟩:=Hr.out.g2;replace Hb:=ak Hb ae;clear ae;go_wp2_with fail;refine cf (λw'=>w'.cell? ⟨w.heap.size,0,none⟩=some (.bool s)/\w'.cell? ⟨w.heap.size,1,none⟩=some (.string (bs m))/\w'.cell? ⟨w.heap.size,2,none⟩=some (.int .i64 e)) (λi=>Nat.blt i 10) [(0,true),(1,true),(4,true),(2,false),(3,false),(5,true),(6,false),(7,false),(8,true),(9,true),(10,false),(11,false)] zk zk rfl zk zc ⟨c0,c1,c2⟩ ?_;iterate 3 (refine pT rfl rfl ?_ (by intro w' ⟨q0,q1,q2⟩;go_simp;try with_reducible rfl);try simp only[UU])
 refine aF rfl rfl (λK hK=>?_);go_simp;refine hK _ _ (λ_=>⟨aH c0,aH c1,aH c2⟩) ?_;clear hK K;try simp only[UU]
 refine cj (λW3=>ag W3 (w1.heap.size) 5 (cG V (λ_=>0))/\Bw w1 W3) (by first|exact fy|exact fA) ?_;rintro W3 ⟨qq,ae⟩;clear c0 c1 c2 r0 ah r1 ai;have Wo:=Hc.out.lt;have Fi:=Hr.out.lt;replace Hc:=kB Hc ae;replace Hr:=kB Hr ae;have Hq:=af qq;clear qq;obtain⟨c0,c1,c2⟩:=Hc.out.c3;obtain⟨r0,ah,r1,ai⟩:=Hr.out.g2;replace Hb:=ak Hb ae;clear ae;refine aF rfl rfl (λK hK=>?_);go_simp;refine hK _ _ (λ_=>⟨c0,c1,c2⟩) ?_;clear hK K;try simp only[UU]
 refine pT rfl rfl ?_;try simp only[UU]
 refine aF rfl rfl (λK hK=>?_);go_simp;refine hK _ _ (λ_=>⟨aH c0,aH c1,aH c2⟩) ?_;clear hK K;try simp only[UU]
 refine cj (λW4=>ag W4 (W3.heap.size) 93 [.string (bs (jH V)),.bool s,.string (bs m),.int .i64 e]/\Bw W3 W4) (by first|exact fy|exact fA) ?_;rintro W4 ⟨qz,ae⟩;clear c0 c1 c2 r0 ah r1 ai;have ah9:=Hc.out.lt;have Fj:=Hr.out.lt;have apo:=Hq.out.lt;replace Hc:=kB Hc ae;replace Hr:=kB Hr ae;replace Hq:=kB Hq ae;have Hz:=af qz;clear qz;obtain⟨c0,c1,c2⟩:=Hc.out.c3;obtain⟨r0,ah,r1,ai⟩:=Hr.out.g2;obtain⟨z0,z1,z2,z3⟩:=Hz.out.c4;replace Hb:=ak Hb ae;clear ae;refine aF rfl rfl (λK hK=>?_);go_simp;with_reducible refine(pL.out _ Hb.out _ Hz.out).mono ?_
 rintro e w5 ⟨a2,d2,rfl,fw,hq⟩;have ae:Bw W4 w5:=by first|exact hq|exact aK hq
 clear c0 c1 c2 r0 ah r1 ai z0 z1 z2 z3;replace Hc:=kB Hc ae;replace Hr:=kB Hr ae;replace Hq:=kB Hq ae;replace Hz:=kB Hz ae;obtain⟨c0,c1,c2⟩:=Hc.out.c3;obtain⟨r0,ah,r1,ai⟩:=Hr.out.g2;obtain⟨z0,z1,z2,z3⟩:=Hz.out.c4;replace Hb:=ak Hb ae;clear ae;refine hK _ _ (λ_=>⟨c0,c1,c2⟩) ?_;clear hK K;try simp only[UU]
 iterate 2 (refine pT rfl rfl ?_;try simp only[UU])
 refine aF rfl rfl (λK hK=>?_);go_simp;refine hK _ _ (by first|exact λh=>absurd h zd|exact λ_=>⟨c0,c1,c2⟩ |exact λ_=>⟨(by first|exact c0|exact aC zf c0|exact aC zf (aC zf c0) |exact aC zf (aC zf (aC zf c0))),(by first|exact c1|exact aC zf c1|exact aC zf (aC zf c1) |exact aC zf (aC zf (aC zf c1))),(by first|exact c2|exact aC zf c2|exact aC zf (aC zf c2) |exact aC zf (aC zf (aC zf c2)))⟩) ?_;clear hK K;try simp only[UU]
 refine aF rfl rfl (λK hK=>?_);go_simp;refine hK _ _ (λh=>absurd h zd) ?_;clear hK K;try simp only[UU]
 simp only[aN];go_wp2;refine Af (Hr.out) fw Hb.out zo ?_;intro w9 pg lF jx;obtain⟨p0,p1⟩:=pg.c2;exact bodyPost_ret (v:=.tuple #[.agg #[.int .i64 (V:Int),.slice a2 C.length d2],.int .i64 0]) (by simp[results,Tryz.results97,go_sem,p0,p1]) rfl ⟨_,_,rfl,FD lF,jx⟩
theorem alA (V k:Nat):((List.range V).map λj=>UInt8.ofNat (if j=k then 1 else 0))=dF V k:=by
 unfold dF;apply List.ext_getElem
 . simp
 . intro i h1 h2;rw[List.getElem_map,List.getElem_range,List.getElem_set];by_cases h:k=i
   . subst h;simp
   . rw[if_neg (λe=>h e.symm),if_neg h];simp
theorem alB :Fit 1 (canon (1:Dyadic)):=Sm.one.fit zd
theorem alE (V k:Nat)(w:World)(hV:V<=12)(hk:k<V)(hT:au w):
 Calls Tryz.prog 149 #[.int .i64 (V:Int),.int .i64 (k:Int)] w λex w'=>∃a' c',ex=.returned (.tuple #[.agg #[.int .i64 (V:Int),.slice a' (bT [(dF V k,canon 1)]).length c'],.int .i64 0])/\cN w' a' c' (bT [(dF V k,canon 1)])/\Bw w w':=by
 obtain⟨C,hC⟩:=az (bT [(dF V k,canon 1)]);rw[hC];obtain⟨O,hO⟩:∃O:Dyadic,(1:Dyadic)=O:=⟨_,rfl⟩;have hmk:=λW (hW:Bw w W) b (hb:ag W b 93 [.string (bs (dF V k)),.bool (aj (dN O)),.string (bs (nt (dN O).natAbs)),.int .i64 (dE O)])=>Wx V (some ⟨b,0,none⟩) 1 1 [(dF V k,canon 1)] 1 W hV rfl zo (Sl.some _ _ _ (Nat.le_refl _)) (by rw[hO];exact At.aqF hb) (by intro t ht;simp at ht;subst ht;exact NL V k) (by intro t ht;simp at ht;subst ht;simp[dF];omega) (by intro t ht;simp at ht;subst ht;exact alB) zo (hT.below hW);rw[hC]at hmk;have hof:=λW (hW:Bw w W)=>rI 1 O hO W zd (hT.below hW);have oV:=λW=>DU (V:Int) W;have hd:decide (0<=(V:Int)/\(V:Int)<=12)=true:=by simp;omega
 rw[hd]at oV;have hmb:=λW=>ut (V:Int) V rfl zo W;have hcv:∀W b,Hid (ag W b 5 (cG V λj=>if j=k then 1 else 0))->(convert 94 9 (.slice (some ⟨b,0,none⟩) V V)).run Tryz.prog W=.ok (.string (bs (dF V k))) W:=λW b h=>by rw[<-alA V k];exact yI h.out V
 have aX:=λb=>BN V V k (k:Int) (rfl:(some ⟨b,0,none⟩:Option Addr)=_) hk rfl;simp only[Nat.zero_add,Nat.mul_one]at aX;have hget:(cG V λ_=>0)[k]?=some (.int .u8 0):=kM _ _ _ hk;have jV:(cG V λ_=>0).set k (.int .u8 1)=cG V λj=>if j=k then 1 else 0:=Cq V _ k 1
 obtain⟨pL,xo,zE⟩:=cP hmk hof oV;clear hmk hof oV hd hC hT hO;have EC:¬(k:Int)<0:=by omega
 have Hb:Hid (Bw w w):=Below.refl _ _;go_enter Tryz.func149,Tryz.ntmps149;go_wp2_with fail;obtain⟨R,hR⟩:∃R:World->Prop,(λW=>ag W (w.heap.size) 91 [.int .i64 0,.slice none 0 0]/\Bw w W)=R:=⟨_,rfl⟩;first|refine bB R ?hR ?_|refine bz R ?hR ?_
 case hR=>subst hR;exact⟨(ag.newAt w _ _ (b:=w.heap.size) rfl),zl⟩
 subst hR;rintro W ⟨qr,ae⟩;have Hr:=af qr;clear qr;obtain⟨r0,ah,r1,ai⟩:=Hr.out.g2;replace Hb:=ak Hb ae;clear ae;go_wp2_with fail;refine(zE.out _).mono ?_;rintro e w1 ⟨rfl,ae⟩;clear r0 ah r1 ai;replace Hr:=kB Hr ae;obtain⟨r0,ah,r1,ai⟩:=Hr.out.g2;replace Hb:=ak Hb ae;clear ae;go_wp2_with fail;obtain⟨R,hR⟩:∃R:World->Prop,(λW3=>ag W3 w1.heap.size 5 (cG V λj=>if j=k then 1 else 0)/\Bw w1 W3)=R:=⟨_,rfl⟩;first|refine bB R ?hR ?_|refine bz R ?hR ?_
 case hR=>subst hR;exact⟨ag.newAt w1 _ _ (b:=w1.heap.size) rfl,zl⟩
 subst hR;intro W3 ⟨qm,ae⟩;clear r0 ah r1 ai;replace Hr:=kB Hr ae;obtain⟨r0,ah,r1,ai⟩:=Hr.out.g2;replace Hb:=af (aG Hb.out ae);have Hm:=af qm;clear qm ae hget jV aX hmb;have lR:∀w',gQ W3 w'->(convert 94 9 (.slice (some ⟨w1.heap.size,0,none⟩) V V)).run Tryz.prog w'=.ok (.string (bs (dF V k))) w':=λw' h=>hcv w' _ (af (Hm.out.below h));have bP:Hid (gQ W3 W3):=Below.refl _ _;refine cf (λw'=>gQ W3 w') (λi=>Nat.blt i 9) [(0,true),(1,true),(2,true),(3,false),(4,true),(5,false),(6,false),(7,true),(8,true),(9,false),(10,false)] zk zk rfl zk zc bP.out.drew ?_;iterate 3 (refine Xf rfl rfl (v:=?_) (λw' hw'=>?_) ?_;rotate_left;(focus have hw':=lR w' hw';go_simp;try with_reducible rfl);try simp only[UU])
 refine aF rfl rfl (λK hK=>?_);go_simp;with_reducible refine(xo.out _ (by first|exact Hb.out|exact Hb.out.drew)).mono ?_
 rintro e w4 ⟨rfl,hq⟩;have ae:Bw W3 w4:=by first|exact hq|exact aK hq
 clear r0 ah r1 ai;replace bP:=af (bP.out.below ae);replace Hr:=kB Hr ae;obtain⟨r0,ah,r1,ai⟩:=Hr.out.g2;replace Hb:=ak Hb ae;clear ae;refine hK _ _ (λ_=>bP.out) ?_;clear hK K;try simp only[UU]
 refine pT rfl rfl ?_;try simp only[UU]
 refine aF rfl rfl (λK hK=>?_);go_simp;refine hK _ _ (λ_=>by first|exact bP.out.alloc _|exact(bP.out.alloc _).drew|exact(bP.out.drew).alloc _) ?_;clear hK K;try simp only[UU]
 refine cj (λW5=>ag W5 (w4.heap.size) 93 [.string (bs (dF V k)),.bool (aj (dN O)),.string (bs (nt (dN O).natAbs)),.int .i64 (dE O)]/\Bw w4 W5) (by first|exact fy|exact fA) ?_;rintro W5 ⟨qz,ae⟩;clear r0 ah r1 ai;have Fl:=Hr.out.lt;replace bP:=af (bP.out.below ae);replace Hr:=kB Hr ae;have Hz:=af qz;clear qz;obtain⟨r0,ah,r1,ai⟩:=Hr.out.g2;obtain⟨z0,z1,z2,z3⟩:=Hz.out.c4;replace Hb:=ak Hb ae;clear ae;refine aF rfl rfl (λK hK=>?_);go_simp;with_reducible refine(pL.out _ Hb.out _ Hz.out).mono ?_
 rintro e w6 ⟨a2,d2,rfl,fw,hq⟩;have ae:Bw W5 w6:=by first|exact hq|exact aK hq
 clear r0 ah r1 ai z0 z1 z2 z3;replace bP:=af (bP.out.below ae);replace Hr:=kB Hr ae;replace Hz:=kB Hz ae;obtain⟨r0,ah,r1,ai⟩:=Hr.out.g2;obtain⟨z0,z1,z2,z3⟩:=Hz.out.c4;replace Hb:=ak Hb ae;clear ae;refine hK _ _ (λ_=>bP.out) ?_;clear hK K;try simp only[UU]
 iterate 2 (refine pT rfl rfl ?_;try simp only[UU])
 refine aF rfl rfl (λK hK=>?_);go_simp;refine hK _ _ (by first|exact λh=>absurd h zd|exact λ_=>bP.out|exact λ_=>eW zg bP.out) ?_;clear hK K;try simp only[UU]
 refine aF rfl rfl (λK hK=>?_);go_simp;refine hK _ _ (λh=>absurd h zd) ?_;clear hK K;try simp only[UU]
 simp only[aN];go_wp2;refine Af (Hr.out) fw Hb.out zo ?_;intro w9 pg lF jx;obtain⟨p0,p1⟩:=pg.c2;exact bodyPost_ret (v:=.tuple #[.agg #[.int .i64 (V:Int),.slice a2 C.length d2],.int .i64 0]) (by simp[results,Tryz.results149,go_sem,p0,p1]) rfl ⟨_,_,rfl,FD lF,jx⟩
end Go.Proofs.YtoopepmmepmfnaaGreatDoor
