/- Package bound: begin,halve,may,Order. -/
import Derived.Test.YtoopepmmepmfnaaGreatDoorZ13
import Derived.Test.YtoopepmmepmfnaaGreatDoorZ11
import Derived.Test.YtoopepmmepmfnaaGreatDoorZ12
set_option linter.unusedVariables false
set_option linter.unusedSimpArgs false
set_option maxRecDepth 100000
set_option maxHeartbeats 16000000
namespace Go.Proofs.YtoopepmmepmfnaaGreatDoor
open Go.RowKit
attribute [local go_sem ↓] Go.wp_at_zero Go.wp_at_succ
def jc (f:Nat->Nat)(n:Nat):List Value:=(List.range n).map λi=>.int .i64 (f i:Int)
theorem OX (f:Nat->Nat)(n:Nat):(jc f n).length=n:=by simp[jc]
theorem Zr (f:Nat->Nat)(n i:Nat)(h:i<(jc f n).length):(jc f n)[i]=.int .i64 (f i:Int):=by simp[jc]
theorem amy (f:Nat->Nat)(n a:Nat)(v:Int)(hv:v=((f a+1:Nat):Int)):(jc f n).set a (.int .i64 v)=jc (λi=>f i+if i=a then 1 else 0) n:=by
 subst hv;apply List.ext_getElem?;intro j;rw[List.getElem?_set,OX];by_cases h:j<n
 . by_cases e:a=j
   . subst e;simp[jc,h]
   . simp[jc,h,e,Ne.symm e]
 . by_cases e:a=j
   . subst e;simp[jc,h]
   . simp[jc,h,e]
theorem amz (n:Nat):List.replicate n (Value.int .i64 0)=jc (λ_=>0) n:=by
 apply List.ext_getElem?;intro j;by_cases h:j<n
 . simp[jc,h]
 . simp[jc,h]
theorem Tryz.arn :(Tryz.prog.info? 3).map (λi=>(i.zero,i.size,i.bytes))=some (some (.int .i64 0),1,8):=by kernel_rfl
theorem ajN (c:Int)(n:Nat)(hc:c=n)(h:n<=1048576)(w:World):
 (Instr.makeSlice 26 (.int .i64 c) (.int .i64 c)).run Tryz.prog w=.ok (.slice (some ⟨w.heap.size,0,none⟩) n n) (w.alloc (.cells (jc (λ_=>0) n).toArray 3)):=by
 subst hc;obtain⟨i0,hi,hz0,hz1,hz2⟩:=info_parts Tryz.arn;rw[run_make (P:=Tryz.prog) w 26 3 i0 _ Tryz.underlying26 hi hz0 .i64 .i64 n n zo zo (by rw[hz2];omega) zo];simp only[Int.toNat_natCast,hz1,Nat.mul_one];rw[<-amz,<-toList_madeCells_one];simp[Value.cells]
def kG (w:World)(top xb ib L:Nat)(bx:List (Raw×Raw))(t:Nat->Nat):Prop:=
 ∃a c,aj w xb 75 [.slice a L c,.slice (some ⟨ib,0,none⟩) L L]/\At w a (bx.flatMap bg)/\aj w ib 3 (jc t L)/\(∀b o,a=some ⟨b,o,none⟩->b≠xb/\b≠ib/\(b<top\/∃cs,aj w b 61 cs))/\xb≠ib
theorem kG.below {w w':World}{top xb ib L:Nat}{bx:List (Raw×Raw)}{t:Nat->Nat}(h:kG w top xb ib L bx t)(hb:Bw w w'):kG w' top xb ib L bx t:=by
 obtain⟨a,c,h1,h2,h3,h4,h5⟩:=h;refine⟨a,c,h1.below hb,h2.below hb,h3.below hb,λb o e=>⟨(h4 b o e).1,(h4 b o e).2.1,?_⟩,h5⟩;rcases(h4 b o e).2.2 with h|⟨cs,h⟩
 . exact .inl h
 . exact .inr ⟨cs,h.below hb⟩
theorem kG.row {w w':World}{top xb ib L base size k:Nat}{bx:List (Raw×Raw)}{t:Nat->Nat}{v:Value}{xs:List Value}(h:kG w top xb ib L bx t)(hr:w.ownsRow base 3 size v k xs)(h1:top<=base)(h2:xb<base)(h3:ib<base)(hg:w.grownBy w' v.ownBlock):kG w' top xb ib L bx t:=by
 obtain⟨a,c,q1,q2,q3,q4,q5⟩:=h;have hlo:∀b,b<base->some b≠v.ownBlock:=λb hb e=>by have:=eI hr b e.symm;omega
 have hne:∀b o,a=some ⟨b,o,none⟩->some b≠v.ownBlock:=λb o e=>by
  rcases(q4 b o e).2.2 with h|⟨cs,h⟩
  . exact hlo b zo
  . exact h.not_row zd hr
 refine⟨a,c,q1.grown hg (hlo _ h2),q2.grown hg hne,q3.grown hg (hlo _ h3),λb o e=>⟨(q4 b o e).1,(q4 b o e).2.1,?_⟩,q5⟩;rcases(q4 b o e).2.2 with h|⟨cs,h⟩
 . exact .inl h
 . exact .inr ⟨cs,h.grown hg (hne b o e)⟩
theorem RO (a:Option Addr)(L cap:Nat)(bx:List (Raw×Raw))(w:World)(hL:bx.length=L)(h1:1<=L)(hl:L<=1000)(ha:At w a (bx.flatMap bg)):
 Calls Tryz.prog 33 #[.slice a L cap] w λe w'=>∃xb ib,e=.returned (.pointer (some ⟨xb,0,none⟩))/\w.heap.size<=xb/\w.heap.size<=ib/\xb<w'.heap.size/\ib<w'.heap.size/\kG w' w.heap.size xb ib L bx (λ_=>0)/\Bw w w':=by
 have hmk:=ajN (L:Int) L rfl zo;have hab:∀b o,a=some ⟨b,o,none⟩->b<w.heap.size:=λb o e=>by subst e;exact ha.lt (by intro h0;have h9:=congrArg List.length h0;rw[Dl,List.length_nil]at h9;omega)
 have Ha:=af ha;clear ha hL;have Hb:Hid (Bw w w):=Below.refl _ _;go_enter Tryz.func33,Tryz.ntmps33;go_wp2;refine dw (λw9=>aj w9 (w.heap.size+1) 75 [.slice a L cap,.slice (some ⟨w.heap.size,0,none⟩) L L]/\aj w9 w.heap.size 3 (jc (λ_=>0) L)/\Bw w w9) ⟨aj.newAt _ _ _ zm,(aj.newAt _ _ _ rfl).alloc _,((Below.refl _ w).alloc (Nat.le_refl _) _).alloc zm _⟩ ?_;rintro w9 ⟨hx,hi,hb⟩;refine bodyPost_ret (results_tmp rfl _ _ _) rfl ⟨w.heap.size+1,w.heap.size,rfl,by omega,Nat.le_refl _,hx.lt,hi.lt,⟨a,cap,hx,Ha.out.below hb,hi,λb o e=>?_,by omega⟩,hb⟩;have:=hab b o e;exact⟨by omega,by omega,.inl this⟩
theorem Sd {Y:Nat->Prop}{w W:World}(h:Chg Y w W)(b i:Nat)(v:Value)(hy:Y b):Chg Y w (W.setCell ⟨b,i,none⟩ v):=
 ⟨h.os,h.tape,h.output,by show w.heap.size<=(W.setCell _ _).heap.size;rw[show(W.setCell ⟨b,i,none⟩ v).heap.size=W.heap.size from by unfold World.setCell;simp];exact h.size,λk hk hn=>(Below.heap_setCell W ⟨b,i,none⟩ v k (λe=>hn (by rw[e];exact hy))).trans (h.block k hk hn)⟩
theorem At.chgS {Y:Nat->Prop}{w w':World}{a:Option Addr}{cs:List Value}(h:At w a cs)(hc:Chg Y w w')(hy:∀b o,a=some ⟨b,o,none⟩->¬Y b):At w' a cs:=by
 rcases h with h|⟨b,o,ha,hcs⟩
 . exact .inl h
 . refine .inr ⟨b,o,ha,λj hj=>?_⟩;have h1:=hcs j hj;rw[List.getElem?_eq_getElem hj]at h1⊢;exact hc.cell h1 (hy b o ha)
theorem At.so {w:World}{a:Option Addr}{cs:List Value}(h:At w a cs)(p i:Nat)(hne:∀b o,a=some ⟨b,o,none⟩->p≠b)(v:Value):At (w.setCell ⟨p,i,none⟩ v) a cs:=by
 rcases h with h|⟨b,o,ha,hcs⟩
 . exact .inl h
 . refine .inr ⟨b,o,ha,λj hj=>?_⟩;have h1:=hcs j hj;rw[List.getElem?_eq_getElem hj]at h1⊢;exact fq (by have:=hne b o ha;dsimp only;omega) h1
theorem alT (top xb ib L B:Nat)(bx:List (Raw×Raw))(t:Nat->Nat)(w:World)(hL:bx.length=L)(h1:1<=L)(hl:L<=1000)(hf:gN B bx)(hB:B<=1000000)(ht:∀i,t i<=1000000)(hS:kG w top xb ib L bx t)(hT:az w):
 Calls Tryz.prog 34 #[.pointer (some ⟨xb,0,none⟩)] w λe w'=>e=.returned (.int .i64 (mB (bx.map bA):Int))/\kG w' top xb ib L ((mO (bx.map bA) (mB (bx.map bA)) false).map dK) (λi=>t i+if i=mB (bx.map bA)then 1 else 0)/\Chg (λb=>b=xb\/b=ib) w w':=by
 obtain⟨a,c,Nt,hat,hib,hab,hne⟩:=hS;obtain⟨ax,lT⟩:=aB (mB (bx.map bA));have Mi:ax<L:=by rw[<-lT];unfold mB;have h9:=(Bj (λi=>oD ((bx.map bA).getD i (0,0))) (bx.map bA).length (by rw[List.length_map,hL];exact h1)).1;rw[List.length_map,hL]at h9⊢;exact h9
 have ma:=λW (hW:Bw w W)=>aeL a L c B bx W hL h1 hl hf hB (hat.below hW) (hT.below hW);have uC:=λW (hW:Bw w W)=>aeJ a L c B bx ax W hL Mi hl hf hB (hat.below hW) (hT.below hW);rw[lT]at ma⊢;have hst:=amy t L ax ((t ax:Int)+1) zo;have Ng:=ht ax;have hxl:=Nt.lt;have hil:=hib.lt;obtain⟨G,hG⟩:=aB ((mO (bx.map bA) ax false).map dK);rw[hG]at uC⊢;obtain⟨Ek,Ea,cn,Hx,Hi⟩:=gY ma uC hst Nt hib;clear ma uC hst Nt hat hib hab lT hG hf hL ht hT;have Hb:Hid (Bw w w):=Below.refl _ _;go_enter Tryz.func34,Tryz.ntmps34;obtain⟨x0,x1⟩:=Hx.out.c2;go_wp2_with fail;refine(Ek.out _ Hb.out).mono ?_;rintro e w1 ⟨rfl,ae⟩;clear x0 x1;replace Hx:=kB Hx ae;replace Hi:=kB Hi ae;obtain⟨x0,x1⟩:=Hx.out.c2;replace Hb:=ak Hb ae;clear ae;have bU:=Hb;have rU:=Hb.out.size;have hwx:w.heap.size<=w1.heap.size:=rU;go_upto_region 2 with fail
 go_cut[] (λwx=>∃g1:Nat,w.heap.size<=g1/\aj wx xb 75 [.slice (some ⟨g1,0,none⟩) L L,.slice (some ⟨ib,0,none⟩) L L]/\aj wx ib 3 (jc t L)/\aj wx g1 61 (G.flatMap bg)/\Chg (λb=>b=xb\/b=ib) w wx);case first=>go_wp2_with fail;refine(Ea.out _ Hb.out).mono ?_;rintro e w2 ⟨g1,g2,rfl,hg1,hg2,ht1,ht2,ae⟩;clear x0 x1;replace Hx:=kB Hx ae;replace Hi:=kB Hi ae;obtain⟨x0,x1⟩:=Hx.out.c2;replace Hb:=ak Hb ae;clear ae;have yf:=af ht1;have f0:=Hx.out.free 0;clear ht1 ht2;go_wp2_with fail;go_meet;exact⟨g1,by omega,Hx.out.set 0 _,Hi.out.so xb 0 hne _,yf.out.so xb 0 zo _,Sd (Chg.of_below Hb.out) xb 0 _ (.inl rfl)⟩
 case rest=>
  obtain⟨g1,hg1,qx,qi,qt,qb⟩:=hcut;obtain⟨Hx,Hi,yf,Hb⟩:=cX qx qi qt qb;obtain⟨i0,fi0⟩:=vX qi ax (by rw[OX];exact Mi);rw[Zr]at i0;clear qx qi qt qb bU Ek Ea x0 x1;have bD:=uP L L ax (ax:Int) (rfl:(some ⟨ib,0,none⟩:Option Addr)=_) Mi rfl;rw[Nat.mul_one,Nat.zero_add]at bD;have hwr:IntKind.i64.wrap ((t ax:Int)+1)=(t ax:Int)+1:=by rw[IntKind.wrap_i64];omega
  obtain⟨x0,x1⟩:=Hx.out.c2;go_wp2;refine dw (λw9=>aj w9 xb 75 [.slice (some ⟨g1,0,none⟩) L L,.slice (some ⟨ib,0,none⟩) L L]/\aj w9 ib 3 ((jc t L).set ax (.int .i64 ((t ax:Int)+1)))/\aj w9 g1 61 (G.flatMap bg)/\Chg (λb=>b=xb\/b=ib) w w9) ⟨Hx.out.so ib ax hne.symm _,Hi.out.set ax _,yf.out.so ib ax zo _,Sd Hb.out ib ax _ (.inr rfl)⟩ ?_;rintro w9 ⟨hx9,Ve,Gp,jG⟩;rw[cn.out]at Ve;refine bodyPost_ret (results_tmp rfl _ _ _) rfl ⟨rfl,⟨_,_,hx9,At.arc Gp,Ve,λb o e=>?_,hne⟩,jG⟩;simp only[Option.some.injEq,Addr.mk.injEq,and_true]at e;obtain⟨rfl,_⟩:=e;exact⟨by omega,by omega,.inr ⟨_,Gp⟩⟩
theorem Tryz.arq :(Tryz.prog.info? 93).map (λi=>(i.zero,i.size,i.bytes))=some (some (.agg #[.string (bs []),.bool false,.string (bs []),.int .i64 0]),4,48):=by kernel_rfl
theorem zT (ts:List aN):(ts.flatMap aX).length=ts.length*4:=lM aX 4 (λ_=>rfl) ts
theorem OW (ts:List aN):∀u∈ts.flatMap aX,u.oneCell'=true:=by intro u hu;obtain⟨r,_,hr⟩:=List.mem_flatMap.1 hu;simp only[aX,List.mem_cons,List.not_mem_nil,or_false]at hr;rcases hr with rfl|rfl|rfl|rfl<;>rfl
theorem OV (t:aN)(ts:List aN):(t::ts).flatMap aX=aX t++ts.flatMap aX:=List.flatMap_cons
theorem At.tail {w:World}{b o c:Nat}{x:aN}{ts:List aN}(h:At w (some ⟨b,o,none⟩) ((x::ts).flatMap aX))(hc:ts.length+1<=c):At w (if c=1 then some ⟨b,o,none⟩else some ⟨b,o+4,none⟩) (ts.flatMap aX):=by
 have hk:=At.cut (k:=1) (size:=4) (n:=ts.length+1) (cap:=c) h (by rw[zT];rfl) zo hc;have e:((x::ts).flatMap aX).drop (1*4)=ts.flatMap aX:=by rw[OV];rfl
 rw[e]at hk;exact hk
theorem Sl.tail {b o c n:Nat}(h:Sl (Option.some ⟨b,o,none⟩) (n+1) c):Sl (if c=1 then Option.some (⟨b,o,none⟩:Addr)else Option.some ⟨b,o+4,none⟩) n (c-1):=by refine⟨by have:=h.1;omega,λe=>?_⟩;split at e<;>cases e
theorem alV (l l':List UInt8):(tK l l'= -1/\Op.bytesLess l l'=true)\/(tK l l'=1/\Op.bytesLess l l'=false/\Op.bytesLess l' l=true)\/(tK l l'=0/\Op.bytesLess l l'=false/\Op.bytesLess l' l=false):=by
 unfold tK;cases h1:Op.bytesLess l l' with
 |true=>exact .inl ⟨by simp,rfl⟩
 | false=>
   cases h2:Op.bytesLess l' l with
   |true=>exact .inr (.inl ⟨by simp,rfl,rfl⟩)
   |false=>exact .inr (.inr ⟨by simp,rfl,rfl⟩)
theorem Xv (a:Option Addr)(n cap:Nat)(ta:List aN)(a':Option Addr)(n' cap':Nat)(tb:List aN)(B:Nat)(w:World)(hn:ta.length=n)(hn':tb.length=n')(hs:Sl a n cap)(hs':Sl a' n' cap')(hl:n<=65536)(hl':n'<=65536)(ha:At w a (ta.flatMap aX))(ha':At w a' (tb.flatMap aX))
 (pI:∀t∈ta,Fit B t.2) (uA:∀t∈tb,Fit B t.2) (hB:B+2<=268435456) (hT:az w):
 Calls Tryz.prog 154 #[.slice a n cap,.slice a' n' cap',.func (.func 155) #[] #[],.func (.func 156) #[] #[]] w λe w'=>∃v',e=.returned v'/\w'.ownsRow w.heap.size 93 4 v' (fQ ta tb).length ((fQ ta tb).flatMap aX)/\Bw w w':=by
 obtain⟨i0,hi,hz0,hz1,hz2⟩:=info_parts Tryz.arq;obtain⟨M,hM⟩:=aB (fQ ta tb);have BI:=enters_of Tryz.func155 zk rfl;have BH:=enters_of Tryz.func156 zk rfl;rw[hM];obtain⟨Hi,eF,eG,dL,HM,Js,Jr,Hs,QW,Ha,qJ,Ay⟩:=iJ hi hz0 hz1 hz2 hM BI BH hs hs' ha ha' pI;obtain⟨Az,HT,Hn,QM⟩:=cX uA hT hn hn';obtain⟨N,hN⟩:=aB (n+n');have TH:(n:Int)+(n':Int)=(N:Int):=by omega
 have HN:=af hN;clear hi hz0 hz1 hz2 hM BI BH hs hs' ha ha' pI uA hT hn hn' hN;have hN1:N<=131072:=by have:=HN.out;omega
 go_enter Tryz.func154,Tryz.ntmps154;go_wp2_with (at_make;refine wpList_make_own _ rfl _ _ 89 rfl w.heap.size 93 i0 _ 4 Tryz.underlying89 Hi.out eF.out eG.out _ _ _ N rfl rfl (by first|exact TH|rfl) (by rw[dL.out];omega) zx (Nat.le_refl _) ?_;intro w1 hown hgrow);obtain⟨hb1,mI⟩:=aI ((Below.refl w.heap.size w).grown hgrow (Nat.le_refl _) (by intro k hk;cases hk)) hown;clear hown hgrow TH
 go_loopw[0,1,9] (λva vb vo wr=>∃(ra rb acc:List aN) (p q ca cb:Nat) (aa ab:Option Addr) (v:Value),v=vo/\va=.slice aa p ca/\vb=.slice ab q cb/\ra.length=p/\rb.length=q/\Sl aa p ca/\Sl ab q cb/\At w aa (ra.flatMap aX)/\At w ab (rb.flatMap aX)/\
  (∀t∈ra,Fit B t.2)/\(∀t∈rb,Fit B t.2)/\wr.ownsRow w.heap.size 93 4 v acc.length (acc.flatMap aX)/\acc.length+p+q<=N/\acc++fQ ra rb=M/\Bw w wr) (λva vb _ _=>(uS va+uS vb).toNat)
 case atStart=>exact⟨ta,tb,[],n,n',cap,cap',a,a',_,rfl,rfl,rfl,Hn.out,QM.out,Hs.out,QW.out,Ha.out,qJ.out,Ay.out,Az.out,mI.out,by rw[<-HN.out];simp,by simpa using HM.out,hb1.out⟩
 case round=>
  clear hb1 mI Ha qJ Hs QW Ay Az Hn QM HM;obtain⟨ra,rb,acc,p,q,ca,cb,aa,ab,v,rfl,rfl,rfl,sW,pR,hsa,wV,hat,hat',pI,uA,hov,hlen,hM,pb⟩:=hrel;by_cases hpq:0<p/\0<q
  . obtain ⟨hp,hq⟩:=hpq;obtain⟨x,ra,rfl⟩:∃x l,ra=x::l:=by cases ra with
     |nil=>simp at sW;omega
     |cons x l=>exact⟨x,l,rfl⟩
    obtain⟨y,rb,rfl⟩:∃x l,rb=x::l:=by cases rb with
     |nil=>simp at pR;omega
     |cons x l=>exact⟨x,l,rfl⟩
    obtain⟨l,s,m,e⟩:=x;obtain⟨l',s',m',e'⟩:=y;obtain⟨p,rfl⟩:∃p',p=p'+1:=⟨p-1,by omega⟩;obtain⟨q,rfl⟩:∃q',q=q'+1:=⟨q-1,by omega⟩;have iW:=pI (l,s,m,e) zm;have pL:=uA (l',s',m',e') zm;have UL:∀t∈ra,Fit B t.2:=λt ht=>pI t (by simp[ht]);have UM:∀t∈rb,Fit B t.2:=λt ht=>uA t (by simp[ht]);obtain⟨b1,o1,rfl,hw1⟩:=(hat.below pb).term 0 zm rfl;obtain⟨b2,o2,rfl,hw2⟩:=(hat'.below pb).term 0 zm rfl;simp only[Nat.zero_mul,Nat.add_zero]at hw1 hw2;have ou:b1<w.heap.size:=hat.lt (by rw[OV];simp[aX]);have kV:b2<w.heap.size:=hat'.lt (by rw[OV];simp[aX]);have Ng:=hat.tail (c:=ca) (by have:=hsa.1;simp at sW;omega);have pS:=hat'.tail (c:=cb) (by have:=wV.1;simp at pR;omega);have Wh:=hsa.tail;have Wi:=wV.tail;have Gu:=rH (p+1) ca 0 0 (rfl:(some ⟨b1,o1,none⟩:Option Addr)=_) zo rfl;have Gv:=rH (q+1) cb 0 0 (rfl:(some ⟨b2,o2,none⟩:Option Addr)=_) zo rfl;rw[Nat.zero_mul,Nat.add_zero]at Gu Gv;have hca:p+1<=ca:=hsa.1;have hcb:q+1<=cb:=wV.1;have Ka:Hid (ra.length=p):=by show _=_;simpa using sW
    have Kb:Hid (rb.length=q):=by show _=_;simpa using pR
    obtain⟨Kc,Ke,QZ,Ra,Rb,yg,eD,aa5,mG,oH,Ay,Az⟩:=iJ hsa wV Wh Wi Ng pS hat hat' iW pL UL UM;obtain⟨abD,abE,dW,HM,aY,vE⟩:=iK pI uA hov hM pb (HT.out.below pb);have Hx:Hid (bN wr b1 o1 [.string (bs l),.bool s,.string (bs m),.int .i64 e]):=hw1;have Hy:Hid (bN wr b2 o2 [.string (bs l'),.bool s',.string (bs m'),.int .i64 e']):=hw2;have VX:=sW;have VY:=pR;simp only[List.length_cons]at VX VY;clear sW pR hsa wV hat hat' pI uA hov hM pb iW pL UL UM hw1 hw2 Ng pS Wh Wi VX VY;have Hb:Hid (Bw wr wr):=Below.refl _ _;have Le:=Js.out;have lh:=aY.out.size;obtain⟨gs,rE⟩:∃g,tK l l'=g:=⟨_,rfl⟩;have MX:=λW=>alW l s m e l' s' m' e' W;have hcs:=alV l l';rw[rE]at MX hcs;obtain⟨QY,DU⟩:=aI MX hcs;clear MX hcs rE;go_wp2_with fail;obtain⟨x0,x1,x2,x3⟩:=Hx.out.w4;obtain⟨y0,y1,y2,y3⟩:=Hy.out.w4;have HU:Hid (az wr):=vE.out;refine cd (λw'=>w'.cell? ⟨b1,o1,none⟩=some (.string (bs l))/\w'.cell? ⟨b1,o1+1,none⟩=some (.bool s)/\w'.cell? ⟨b1,o1+2,none⟩=some (.string (bs m))/\w'.cell? ⟨b1,o1+3,none⟩=some (.int .i64 e)/\w'.cell? ⟨b2,o2,none⟩=some (.string (bs l'))/\w'.cell? ⟨b2,o2+1,none⟩=some (.bool s')/\w'.cell? ⟨b2,o2+2,none⟩=some (.string (bs m'))/\w'.cell? ⟨b2,o2+3,none⟩=some (.int .i64 e')) (λi=>Nat.blt i 100000) [(0,true),(1,true),(2,true),(3,true),(4,true),(5,true),(6,true),(7,false),(8,true)] zk zk rfl zk zc ⟨x0,x1,x2,x3,y0,y1,y2,y3⟩ ?_;iterate 7 (refine pT rfl rfl ?_ (by intro w' ⟨q0,q1,q2,q3,q4,q5,q6,q7⟩;go_simp;try with_reducible rfl);try simp only[UU])
    refine aC rfl rfl (λK hK=>?_);go_simp;with_reducible refine(QY.out _).mono ?_
    rintro e w2 ⟨rfl,hq⟩;have ae:Bw wr w2:=by first|exact hq|exact aO hq
    clear x0 x1 x2 x3 y0 y1 y2 y3;replace Hx:=kW Hx ae;replace Hy:=kW Hy ae;replace HU:=kT HU ae;obtain⟨x0,x1,x2,x3⟩:=Hx.out.w4;obtain⟨y0,y1,y2,y3⟩:=Hy.out.w4;replace Hb:=ak Hb ae;clear ae;refine hK _ _ (λ_=>⟨x0,x1,x2,x3,y0,y1,y2,y3⟩) ?_;clear hK K;try simp only[UU]
    refine pT rfl rfl ?_;try simp only[UU]
    simp only[aV];have hcs:=DU.out;have hp1:(1:Int)<=(p:Int)+1:=by omega
    have hq1:(1:Int)<=(q:Int)+1:=by omega
    clear DU QY Le;rcases hcs with⟨rfl,h1⟩ |⟨rfl,h1,h2⟩ |⟨rfl,h1,h2⟩
    . have vD:Hid ((acc++[(l,s,m,e)])++fQ ra ((l',s',m',e')::rb)=M):=by
       show _=_
       rw[<-HM.out,ve,if_pos h1];simp
      have vA:Hid ((acc++[(l,s,m,e)]).flatMap aX=acc.flatMap aX++[.string (bs l),.bool s,.string (bs m),.int .i64 e]):=by
       show _=_
       rw[List.flatMap_append];rfl
      clear h1;go_wp2_with fail;refine cd (λw'=>w'.cell? ⟨b1,o1,none⟩=some (.string (bs l))/\w'.cell? ⟨b1,o1+1,none⟩=some (.bool s)/\w'.cell? ⟨b1,o1+2,none⟩=some (.string (bs m))/\w'.cell? ⟨b1,o1+3,none⟩=some (.int .i64 e)) (λi=>Nat.blt i 100000) [(0,true),(1,true),(2,true),(3,true),(6,true),(7,true),(4,false),(5,false),(8,true),(9,true)] zk zk rfl zk zc ⟨x0,x1,x2,x3⟩ ?_;iterate 6 (refine pT rfl rfl ?_ (by intro w' ⟨q0,q1,q2,q3⟩;go_simp;try with_reducible rfl);try simp only[UU])
      refine aC rfl rfl (λK hK=>?_);go_simp;refine hK _ _ (λ_=>⟨aJ x0,aJ x1,aJ x2,aJ x3⟩) ?_;clear hK K;try simp only[UU]
      refine bJ (λW3=>aj W3 (w2.heap.size) 93 [.string (bs l),.bool s,.string (bs m),.int .i64 e]/\Bw w2 W3) (by first|exact cZ|exact df) ?_;rintro W3 ⟨qc,ae⟩;clear x0 x1 x2 x3 y0 y1 y2 y3;replace Hx:=kW Hx ae;replace Hy:=kW Hy ae;replace HU:=kT HU ae;have Hc:=af qc;clear qc;obtain⟨x0,x1,x2,x3⟩:=Hx.out.w4;obtain⟨y0,y1,y2,y3⟩:=Hy.out.w4;obtain⟨c0,c1,c2,c3⟩:=Hc.out.c4;replace Hb:=ak Hb ae;clear ae;refine aC rfl rfl (λK hK=>?_);have lW:=ownsRow_below dW.out Hb.out;have hs3:=Hb.out.size;refine wp_append_own _ _ _ 89 rfl w.heap.size 93 i0 _ 4 48 Tryz.underlying89 Hi.out eF.out eG.out dL.out rfl zd v acc.length (acc.flatMap aX) rfl lW ⟨w2.heap.size,0,none⟩ 1 1 [.string (bs l),.bool s,.string (bs m),.int .i64 e] rfl rfl (jh Hc.out) zy zx zo zo ?_;intro v' w8 ke dI _;have nb:∀b,b<w.heap.size->some b≠v.ownBlock:=λb hb e=>by have:=eI lW b e.symm;omega
      refine hK _ _ (λ_=>⟨ft dI x0 (nb _ ou),ft dI x1 (nb _ ou),ft dI x2 (nb _ ou),ft dI x3 (nb _ ou)⟩) ?_;clear hK K;try simp only[UU]
      iterate 2 (refine pT rfl rfl ?_;try simp only[UU])
      simp only[aV];have Am:=af ((aH aY.out Hb.out).grown dI zo (λj e=>eI lW j e));have vM:Hid (w8.ownsRow w.heap.size 93 4 v' (acc++[(l,s,m,e)]).length ((acc++[(l,s,m,e)]).flatMap aX)):=by
       show w8.ownsRow _ _ _ _ _ _
       rw[vA.out,List.length_append];exact ke
      clear nb lW ke dI x0 x1 x2 x3 y0 y1 y2 y3 c0 c1 c2 c3 Gu Gv;go_wp2;go_roundw;case rel=>exact⟨ra,((l',s',m',e')::rb),acc++[(l,s,m,e)],p,(q+1),_,_,_,_,v',rfl,rfl,rfl,Ka.out,(by have:=Kb.out;simp;exact this),QZ.out,Ke.out,Rb.out,aa5.out,Ay.out,abE.out,vM.out,by simp;omega,vD.out,Am.out⟩
      case measure=>simp[uS];omega
    ·
     have vD:Hid ((acc++[(l',s',m',e')])++fQ ((l,s,m,e)::ra) rb=M):=by
      show _=_
      rw[<-HM.out,ve,if_neg (by rw[h1];decide),if_pos h2];simp
     have vA:Hid ((acc++[(l',s',m',e')]).flatMap aX=acc.flatMap aX++[.string (bs l'),.bool s',.string (bs m'),.int .i64 e']):=by
      show _=_
      rw[List.flatMap_append];rfl
     clear h1 h2
     go_wp2_with fail
     refine cd (λw'=>w'.cell? ⟨b2,o2,none⟩=some (.string (bs l'))/\w'.cell? ⟨b2,o2+1,none⟩=some (.bool s')/\w'.cell? ⟨b2,o2+2,none⟩=some (.string (bs m'))/\w'.cell? ⟨b2,o2+3,none⟩=some (.int .i64 e')) (λi=>Nat.blt i 100000) [(0,true),(1,true),(2,true),(3,true),(6,true),(7,true),(4,false),(5,false),(8,true),(9,true)] zk zk rfl zk zc ⟨y0,y1,y2,y3⟩ ?_
     iterate 6 (refine pT rfl rfl ?_ (by intro w' ⟨q0,q1,q2,q3⟩;go_simp;try with_reducible rfl);try simp only[UU])
     refine aC rfl rfl (λK hK=>?_)
     go_simp
     refine hK _ _ (λ_=>⟨aJ y0,aJ y1,aJ y2,aJ y3⟩) ?_;clear hK K
     try simp only[UU]
     refine bJ (λW3=>aj W3 (w2.heap.size) 93 [.string (bs l'),.bool s',.string (bs m'),.int .i64 e']/\Bw w2 W3) (by first|exact cZ|exact df) ?_
     rintro W3 ⟨qc,ae⟩
     clear x0 x1 x2 x3
     clear y0 y1 y2 y3
     replace Hx:=kW Hx ae
     replace Hy:=kW Hy ae
     replace HU:=kT HU ae
     have Hc:=af qc;clear qc
     obtain⟨x0,x1,x2,x3⟩:=Hx.out.w4
     obtain⟨y0,y1,y2,y3⟩:=Hy.out.w4
     obtain⟨c0,c1,c2,c3⟩:=Hc.out.c4
     replace Hb:=ak Hb ae;clear ae
     refine aC rfl rfl (λK hK=>?_)
     have lW:=ownsRow_below dW.out Hb.out
     have hs3:=Hb.out.size
     refine wp_append_own _ _ _ 89 rfl w.heap.size 93 i0 _ 4 48 Tryz.underlying89 Hi.out eF.out eG.out dL.out rfl zd v acc.length (acc.flatMap aX) rfl lW ⟨w2.heap.size,0,none⟩ 1 1 [.string (bs l'),.bool s',.string (bs m'),.int .i64 e'] rfl rfl (jh Hc.out) zy zx zo zo ?_
     intro v' w8 ke dI _
     have nb:∀b,b<w.heap.size->some b≠v.ownBlock:=λb hb e=>by have:=eI lW b e.symm;omega
     refine hK _ _ (λ_=>⟨ft dI y0 (nb _ kV),ft dI y1 (nb _ kV),ft dI y2 (nb _ kV),ft dI y3 (nb _ kV)⟩) ?_;clear hK K
     try simp only[UU]
     iterate 2 (refine pT rfl rfl ?_;try simp only[UU])
     simp only[aV]
     have Am:=af ((aH aY.out Hb.out).grown dI zo (λj e=>eI lW j e))
     have vM:Hid (w8.ownsRow w.heap.size 93 4 v' (acc++[(l',s',m',e')]).length ((acc++[(l',s',m',e')]).flatMap aX)):=by
      show w8.ownsRow _ _ _ _ _ _
      rw[vA.out,List.length_append];exact ke
     clear nb lW ke dI x0 x1 x2 x3 y0 y1 y2 y3 c0 c1 c2 c3 Gu Gv
     go_wp2
     go_roundw
     case rel=>exact⟨((l,s,m,e)::ra),rb,acc++[(l',s',m',e')],(p+1),q,_,_,_,_,v',rfl,rfl,rfl,(by have:=Ka.out;simp;exact this),Kb.out,Kc.out,Ra.out,eD.out,yg.out,abD.out,Az.out,vM.out,by simp;omega,vD.out,Am.out⟩
     case measure=>simp[uS];omega
    ·
     obtain⟨S,hS⟩:=aB (ar (s,m,e)+ar (s',m',e'))
     have HS:=af hS
     have vD:Hid ((acc++[(l,canon S)])++fQ ra rb=M):=by
      show _=_
      rw[<-HM.out,ve,if_neg (by rw[h1];decide),if_neg (by rw[h2];decide)];simp;rw[<-hS];rfl
     have vA:Hid ((acc++[(l,canon S)]).flatMap aX=acc.flatMap aX++[.string (bs l),.bool (ai (dN S)),.string (bs (nt (dN S).natAbs)),.int .i64 (dE S)]):=by
      show _=_
      rw[List.flatMap_append];rfl
     clear h1 h2 hS
     have EP:=Jr.out
     go_wp2_with fail
     refine cd (λw'=>w'.cell? ⟨b1,o1,none⟩=some (.string (bs l))/\w'.cell? ⟨b1,o1+1,none⟩=some (.bool s)/\w'.cell? ⟨b1,o1+2,none⟩=some (.string (bs m))/\w'.cell? ⟨b1,o1+3,none⟩=some (.int .i64 e)/\w'.cell? ⟨b2,o2,none⟩=some (.string (bs l'))/\w'.cell? ⟨b2,o2+1,none⟩=some (.bool s')/\w'.cell? ⟨b2,o2+2,none⟩=some (.string (bs m'))/\w'.cell? ⟨b2,o2+3,none⟩=some (.int .i64 e')) (λi=>Nat.blt i 100000) [(0,true),(1,true),(2,true),(3,true),(4,true),(5,true),(6,true),(7,true),(11,true),(12,true),(13,true),(14,true),(8,false),(9,false),(10,false),(15,true),(16,true),(17,true)] zk zk rfl zk zc ⟨x0,x1,x2,x3,y0,y1,y2,y3⟩ ?_
     iterate 12 (refine pT rfl rfl ?_ (by intro w' ⟨q0,q1,q2,q3,q4,q5,q6,q7⟩;go_simp;try with_reducible rfl);try simp only[UU])
     refine aC rfl rfl (λK hK=>?_)
     go_simp
     with_reducible refine(amf l s m e l' s' m' e' S B HS.out _ mG.out oH.out hB (by first|exact HU.out|exact az.drew HU.out|exact az.alloc HU.out _|exact az.drew (az.alloc HU.out _) |exact az.alloc (az.drew HU.out) _)).mono ?_
     rintro e w4 ⟨rfl,hq⟩
     have ae:Bw w2 w4:=by first|exact hq|exact aO hq
     clear x0 x1 x2 x3
     clear y0 y1 y2 y3
     replace Hx:=kW Hx ae
     replace Hy:=kW Hy ae
     replace HU:=kT HU ae
     obtain⟨x0,x1,x2,x3⟩:=Hx.out.w4
     obtain⟨y0,y1,y2,y3⟩:=Hy.out.w4
     replace Hb:=ak Hb ae;clear ae
     refine hK _ _ (λ_=>⟨x0,x1,x2,x3,y0,y1,y2,y3⟩) ?_;clear hK K
     try simp only[UU]
     refine aC rfl rfl (λK hK=>?_)
     go_simp
     refine hK _ _ (λ_=>⟨aJ x0,aJ x1,aJ x2,aJ x3,aJ y0,aJ y1,aJ y2,aJ y3⟩) ?_;clear hK K
     try simp only[UU]
     refine bJ (λW5=>aj W5 (w4.heap.size) 93 [.string (bs l),.bool (ai (dN S)),.string (bs (nt (dN S).natAbs)),.int .i64 (dE S)]/\Bw w4 W5) (by first|exact cZ|exact df) ?_
     rintro W5 ⟨qc,ae⟩
     clear x0 x1 x2 x3
     clear y0 y1 y2 y3
     replace Hx:=kW Hx ae
     replace Hy:=kW Hy ae
     replace HU:=kT HU ae
     have Hc:=af qc;clear qc
     obtain⟨x0,x1,x2,x3⟩:=Hx.out.w4
     obtain⟨y0,y1,y2,y3⟩:=Hy.out.w4
     obtain⟨c0,c1,c2,c3⟩:=Hc.out.c4
     replace Hb:=ak Hb ae;clear ae
     refine aC rfl rfl (λK hK=>?_)
     have lW:=ownsRow_below dW.out Hb.out
     have hs3:=Hb.out.size
     refine wp_append_own _ _ _ 89 rfl w.heap.size 93 i0 _ 4 48 Tryz.underlying89 Hi.out eF.out eG.out dL.out rfl zd v acc.length (acc.flatMap aX) rfl lW ⟨w4.heap.size,0,none⟩ 1 1 [.string (bs l),.bool (ai (dN S)),.string (bs (nt (dN S).natAbs)),.int .i64 (dE S)] rfl rfl (jh Hc.out) zy zx zo zo ?_
     intro v' w8 ke dI _
     have nb:∀b,b<w.heap.size->some b≠v.ownBlock:=λb hb e=>by have:=eI lW b e.symm;omega
     refine hK _ _ (λ_=>⟨ft dI x0 (nb _ ou),ft dI x1 (nb _ ou),ft dI x2 (nb _ ou),ft dI x3 (nb _ ou),ft dI y0 (nb _ kV),ft dI y1 (nb _ kV),ft dI y2 (nb _ kV),ft dI y3 (nb _ kV)⟩) ?_;clear hK K
     try simp only[UU]
     iterate 3 (refine pT rfl rfl ?_;try simp only[UU])
     simp only[aV]
     have Am:=af ((aH aY.out Hb.out).grown dI zo (λj e=>eI lW j e))
     have vM:Hid (w8.ownsRow w.heap.size 93 4 v' (acc++[(l,canon S)]).length ((acc++[(l,canon S)]).flatMap aX)):=by
      show w8.ownsRow _ _ _ _ _ _
      rw[vA.out,List.length_append];exact ke
     clear nb lW ke dI x0 x1 x2 x3 y0 y1 y2 y3 c0 c1 c2 c3 Gu Gv
     go_wp2
     go_roundw
     case rel=>exact⟨ra,rb,acc++[(l,canon S)],p,q,_,_,_,_,v',rfl,rfl,rfl,Ka.out,Kb.out,QZ.out,Ra.out,Rb.out,yg.out,Ay.out,Az.out,vM.out,by simp;omega,vD.out,Am.out⟩
     case measure=>simp[uS];omega
  . have hmr:fQ ra rb=ra++rb:=by
     have:p=0\/q=0:=by omega
     rcases this with rfl|rfl
     . rw[List.eq_nil_of_length_eq_zero sW,zG];rfl
     . rw[List.eq_nil_of_length_eq_zero pR,zH];simp
    have TF:M.length=acc.length+p+q:=by rw[<-hM,hmr];simp[sW,pR];omega
    have vA:Hid (M.flatMap aX=(acc.flatMap aX++ra.flatMap aX)++rb.flatMap aX):=by
     show _=_
     rw[<-hM,hmr,<-List.append_assoc,List.flatMap_append,List.flatMap_append]
    have hlr:(ra.flatMap aX).length=p*4:=by rw[zT,sW]
    have Vs:(rb.flatMap aX).length=q*4:=by rw[zT,pR]
    have mQ:=hat.below pb;have aoF:=hlen;obtain⟨Eb,ab6,oG,eD,dW,aY,Kc,Ke,HML⟩:=CO hlr Vs mQ hat' hov pb hsa wV TF;clear sW pR hmr hlr Vs hat hat' mQ hov pb hsa wV hM pI uA TF;have hsz:=aY.out.size;by_cases h0:0<p
    all_goals
     go_wp2_with (first| (at_builtin;refine Pk rfl (.tmp 70) (.tmp 71) 89 rfl w.heap.size 93 i0 _ 4 48 Tryz.underlying89 Hi.out eF.out eG.out dL.out rfl zd v acc.length (acc.flatMap aX) rfl dW.out aa p ca (ra.flatMap aX) rfl Kc.out Eb.out oG.out (OW ra) zx zo hsz ?_;intro v1 w2 fO hg1 hb1) | (at_builtin;refine Pk rfl (.tmp 72) (.tmp 73) 89 rfl w.heap.size 93 i0 _ 4 48 Tryz.underlying89 Hi.out eF.out eG.out dL.out rfl zd v1 (acc.length+p) (acc.flatMap aX++ra.flatMap aX) rfl fO ab q cb (rb.flatMap aX) rfl Ke.out ab6.out (eD.out.below (aY.out.grown hg1 hsz (λj e=>eI dW.out j e))) (OW rb) zx zo (Nat.le_trans hsz hg1.size) ?_;intro v2 w3 dZ hg2 hb2))
     go_ret
     refine⟨v2,rfl,?_,(aY.out.grown hg1 hsz (λj e=>eI dW.out j e)).grown hg2 (Nat.le_trans hsz hg1.size) (λj e=>eI fO j e)⟩
     rw[HML.out,vA.out];exact dZ
end Go.Proofs.YtoopepmmepmfnaaGreatDoor
namespace Go.Proofs.YtoopepmmepmfnaaGreatDoor
open Go.RowKit
theorem amw (ts:List aN)(i:Nat)(hi:i<ts.length)(t:aN):(((((ts.flatMap aX).set (i*4) (.string (bs t.1))).set (i*4+1) (.bool t.2.1)).set (i*4+2) (.string (bs t.2.2.1))).set (i*4+3) (.int .i64 t.2.2.2))=(ts.set i t).flatMap aX:=by
 induction ts generalizing i with
 |nil=>simp at hi
 | cons x ts ih=>
   have e:∀(y:aN) zs,(y::zs).flatMap aX=.string (bs y.1)::.bool y.2.1::.string (bs y.2.2.1)::.int .i64 y.2.2.2::zs.flatMap aX:=λy zs=>rfl;cases i with
   |zero=>rw[e];rfl
   |succ i=>rw[List.set_cons_succ,e,e,<-ih i (by simpa using hi),show(i+1) *4=i*4+1+1+1+1 by omega];rfl
theorem amv (ts:List aN)(i:Nat)(hi:i<ts.length)(r:Raw):((((ts.flatMap aX).set (i*4+1) (.bool r.1)).set (i*4+2) (.string (bs r.2.1))).set (i*4+3) (.int .i64 r.2.2))=(ts.set i (ts[i].1,r)).flatMap aX:=by
 induction ts generalizing i with
 |nil=>simp at hi
 | cons x ts ih=>
   have e:∀(y:aN) zs,(y::zs).flatMap aX=.string (bs y.1)::.bool y.2.1::.string (bs y.2.2.1)::.int .i64 y.2.2.2::zs.flatMap aX:=λy zs=>rfl;cases i with
   |zero=>rw[e];rfl
   |succ i=>rw[List.set_cons_succ,e,e,List.getElem_cons_succ,<-ih i (by simpa using hi),show(i+1) *4=i*4+1+1+1+1 by omega];rfl
theorem kY {w:World}{base:Nat}{e:TypeId}{size n cap g:Nat}{xs:List Value}(h:w.ownsRow base e size (.slice (some ⟨g,0,none⟩) n cap) n xs)(o:Nat):w.frozen? ⟨g,o,none⟩=false:=by
 rcases h.2 with⟨h1,_⟩ |⟨g',cap',cur,h1,hb,hg,_⟩
 . simp at h1
 . simp only[Value.slice.injEq,Option.some.injEq,Addr.mk.injEq,and_true,true_and]at h1;obtain⟨rfl,rfl⟩:=h1;have h4:aj w g e cur.toList:=by unfold aj;simpa using hg
   exact h4.free o
theorem zM {w:World}{base:Nat}{e:TypeId}{size n cap g:Nat}{xs:List Value}(h:w.ownsRow base e size (.slice (some ⟨g,0,none⟩) n cap) n xs):base<=g/\g<w.heap.size:=by
 rcases h.2 with⟨h1,_⟩ |⟨g',cap',cur,h1,hb,hg,_⟩
 . simp at h1
 . simp only[Value.slice.injEq,Option.some.injEq,Addr.mk.injEq,and_true,true_and]at h1;obtain⟨rfl,rfl⟩:=h1;exact⟨hb,(Array.getElem?_eq_some_iff.1 hg).1⟩
theorem GW {w:World}{base n cap g:Nat}{e:TypeId}{ts:List aN}(h:w.ownsRow base e 4 (.slice (some ⟨g,0,none⟩) n cap) n (ts.flatMap aX))(k:Nat)(hk:k<ts.length){l:List UInt8}{s:Bool}{m:List UInt8}{ex:Int}(hx:ts[k]=(l,s,m,ex)):
 bN w g (k*4) [.string (bs l),.bool s,.string (bs m),.int .i64 ex]:=by
 obtain⟨a,c,hv,hat,_⟩:=ej h;simp only[Value.slice.injEq,true_and]at hv;obtain⟨rfl,rfl⟩:=hv;obtain⟨b,o,hab,hw⟩:=hat.term k hk hx;simp only[Option.some.injEq,Addr.mk.injEq,and_true]at hab;obtain⟨rfl,rfl⟩:=hab;rwa [Nat.zero_add]at hw
theorem akx {w:World}{base n cap g:Nat}{e:TypeId}{ts:List aN}(h:w.ownsRow base e 4 (.slice (some ⟨g,0,none⟩) n cap) n (ts.flatMap aX))(i:Nat)(hi:i<ts.length)(l:List UInt8)(s:Bool)(m:List UInt8)(ex:Int):
 ((((w.setCell ⟨g,i*4,none⟩ (.string (bs l))).setCell ⟨g,i*4+1,none⟩ (.bool s)).setCell ⟨g,i*4+2,none⟩ (.string (bs m))).setCell ⟨g,i*4+3,none⟩ (.int .i64 ex)).ownsRow base e 4 (.slice (some ⟨g,0,none⟩) n cap) n ((ts.set i (l,s,m,ex)).flatMap aX):=by
 rw[<-amw ts i hi (l,s,m,ex)];exact ja (ja (ja (ja h _ _) _ _) _ _) _ _
theorem XX {w:World}{base n cap g:Nat}{e:TypeId}{ts:List aN}(h:w.ownsRow base e 4 (.slice (some ⟨g,0,none⟩) n cap) n (ts.flatMap aX))(i:Nat)(hi:i<ts.length)(s:Bool)(m:List UInt8)(ex:Int):
 (((w.setCell ⟨g,i*4+1,none⟩ (.bool s)).setCell ⟨g,i*4+2,none⟩ (.string (bs m))).setCell ⟨g,i*4+3,none⟩ (.int .i64 ex)).ownsRow base e 4 (.slice (some ⟨g,0,none⟩) n cap) n ((ts.set i (ts[i].1,s,m,ex)).flatMap aX):=by
 rw[<-amv ts i hi (s,m,ex)];exact ja (ja (ja h _ _) _ _) _ _
theorem EY {w w':World}(r:Option Nat)(h:Bw w w'):w.grownBy w' r:=⟨h.os,h.tape,h.output,h.size,λk hk _=>h.block k hk⟩
theorem EZ {w w':World}{g:Nat}(h:w.grownBy w' (some g))(a:Nat)(v:Value):w.grownBy (w'.setCell ⟨g,a,none⟩ v) (some g):=grownBy_trans h (grownBy_set g rfl v)
theorem aew {n:Nat}{w w':World}{r:Option Nat}(h:w.grownBy w' r)(hn:n<=w.heap.size)(hr:∀g,r=some g->n<=g):Below n w w':=((Below.refl _ _).mono hn).grown h hn hr
theorem XA {B:Nat}(a b:List aN)(ha:∀t∈a,Fit B t.2)(hb:∀t∈b,Fit B t.2)(hB:B+1<=268435456):∀t∈fQ a b,Fit (B+1) t.2:=by
 obtain⟨n,hn⟩:=aB (a.length+b.length);induction n using Nat.strongRecOn generalizing a b with
 | _ n ih=>
   cases a with
   |nil=>rw[zG];exact λt ht=>(hb t ht).mono zo
   | cons x a=>cases b with
     |nil=>rw[zH];exact λt ht=>(ha t ht).mono zo
     | cons y b=>
       rw[ve];simp only[List.length_cons]at hn;have ha2:∀t∈a,Fit B t.2:=λt ht=>ha t (by simp[ht]);have hb2:∀t∈b,Fit B t.2:=λt ht=>hb t (by simp[ht]);split
       . intro t ht;rcases List.mem_cons.1 ht with rfl|ht
         . exact(ha _ zm).mono zo
         . exact ih _ (by simp only[List.length_cons];omega) a (y::b) ha2 hb rfl t ht
       . split
         . intro t ht;rcases List.mem_cons.1 ht with rfl|ht
           . exact(hb _ zm).mono zo
           . exact ih _ (by simp only[List.length_cons];omega) (x::a) b ha hb2 rfl t ht
         . intro t ht;rcases List.mem_cons.1 ht with rfl|ht
           . exact((ha x zm).2.add (hb y zm).2).fit hB
           . exact ih _ zo a b ha2 hb2 rfl t ht
theorem OJ {B:Nat}(l:List aN)(h:∀t∈l,Fit B t.2)(hB:B+l.length<=268435456):∀t∈fU l,Fit (B+l.length) t.2:=by
 obtain⟨n,hn⟩:=aB l.length;induction n using Nat.strongRecOn generalizing l with
 | _ n ih=>
   by_cases h2:l.length<2
   . rw[Ie l h2];exact λt ht=>(h t ht).mono zo
   . rw[OL l zo];have l1:(l.take (l.length/2)).length=l.length/2:=by rw[List.length_take];omega
     have l2:(l.drop (l.length/2)).length=l.length-l.length/2:=List.length_drop;have h3:=ih _ (by rw[<-hn,l1];omega) (l.take (l.length/2)) (λt ht=>h t (List.mem_of_mem_take ht)) (by rw[l1];omega) rfl;have h4:=ih _ (by rw[<-hn,l2];omega) (l.drop (l.length/2)) (λt ht=>h t (List.mem_of_mem_drop ht)) (by rw[l2];omega) rfl;have:=XA (B:=B+(l.length-1)) _ _ (λt ht=>(h3 t ht).mono (by rw[l1];omega)) (λt ht=>(h4 t ht).mono (by rw[l2];omega)) zo;rwa [show B+(l.length-1)+1=B+l.length by omega]at this
end Go.Proofs.YtoopepmmepmfnaaGreatDoor
namespace Go.Proofs.YtoopepmmepmfnaaGreatDoor
open Go.RowKit
attribute [local go_sem ↓] Go.wp_at_zero Go.wp_at_succ
theorem agx {α:Type}(p:α->Bool)(l:List α)(i:Nat)(hi:i<=l.length)(h:∀j (hj:j<i),p (l[j]'zo)=false):(l.take i).filter (λx=>!p x)=l.take i:=by
 rw[List.filter_eq_self];intro x hx;obtain⟨j,hj,rfl⟩:=List.mem_iff_getElem.1 hx;rw[List.getElem_take];have mU:j<i:=by rw[List.length_take]at hj;omega
 simp[h j mU]
theorem take_set {α:Type}(l:List α)(a:Nat)(x:α)(h:a<l.length):(l.set a x).take (a+1)=l.take a++[x]:=by rw[List.take_succ_eq_append_getElem (by simpa using h),List.getElem_set_self,List.take_set_of_le (Nat.le_refl _)]
theorem KX {α:Type}(l:List α)(a b:Nat)(x:α)(h:a<b):(l.set a x).drop b=l.drop b:=by rw[List.drop_set];rw[if_pos h]
theorem Tryz.arD (w:World):(zeroValue 93).run Tryz.prog w=.ok (.agg #[.string ⟨#[]⟩,.bool false,.string ⟨#[]⟩,.int .i64 0]) w:=by kernel_rfl
theorem Tc (ts:List aN)(k:Nat)(hk:k<=ts.length):(ts.flatMap aX).take (k*4)=(ts.take k).flatMap aX:=by
 have e:ts=ts.take k++ts.drop k:=(List.take_append_drop _ _).symm;conv=>lhs;rw[e]
 rw[List.flatMap_append,List.take_left' (by rw[zT,List.length_take,Nat.min_eq_left hk])]
theorem afM (a:Option Addr)(n cap:Nat)(ts:List aN)(gf:Nat)(p:aN->Bool)(w:World)(hn:ts.length=n)(hl:n<=65536)(ha:At w a (ts.flatMap aX))
 (eg:∀args w,(callFunc gf args).run Tryz.prog w=.ok (.enter gf args) w) (h2:∀x∈ts,p x=false)
 (hcl:∀x∈ts,∀W,Calls Tryz.prog gf #[.agg #[.string (bs x.1),.bool x.2.1,.string (bs x.2.2.1),.int .i64 x.2.2.2]] W λe w'=>e=.returned (.bool (p x))/\Bw W w'):
 Calls Tryz.prog 188 #[.slice a n cap,.func (.func gf) #[] #[]] w λe w'=>e=.returned (.slice a n cap)/\Bw w w':=by
 have bD:=Ny a n cap ts gf #[] p w hn zo ha eg (λx hx W _=>by simpa using hcl x hx W);rcases WH p ts 0 with⟨h1,_⟩ |⟨i,hi,_,h3,_⟩
 . rw[h1]at bD;have AG:=af bD;clear bD h1 h2 hn hcl eg ha;have Hb:Hid (Bw w w):=Below.refl _ _;go_enter Tryz.func188,Tryz.ntmps188;go_wp2_with fail;refine(AG.out).mono ?_;rintro e w1 ⟨rfl,ae⟩;replace Hb:=ak Hb ae;clear ae;go_wp2;go_ret;exact⟨rfl,Hb.out⟩
 . rw[h2 _ (List.getElem_mem hi)]at h3;cases h3
theorem afL (g n cap base:Nat)(ts:List aN)(gf:Nat)(p:aN->Bool)(w:World)(hn:ts.length=n)(hl:n<=65536)(hn0:0<n)(ho:w.ownsRow base 93 4 (.slice (some ⟨g,0,none⟩) n cap) n (ts.flatMap aX))
 (eg:∀args w,(callFunc gf args).run Tryz.prog w=.ok (.enter gf args) w)
 (hcl:∀x∈ts,∀W,Calls Tryz.prog gf #[.agg #[.string (bs x.1),.bool x.2.1,.string (bs x.2.2.1),.int .i64 x.2.2.2]] W λe w'=>e=.returned (.bool (p x))/\Bw W w'):
 Calls Tryz.prog 188 #[.slice (some ⟨g,0,none⟩) n cap,.func (.func gf) #[] #[]] w λe w'=>∃k,k=(ts.filter λx=>!p x).length/\e=.returned (.slice (some ⟨g,0,none⟩) k cap)/\
  w'.ownsRow base 93 4 (.slice (some ⟨g,0,none⟩) k cap) k ((ts.filter λx=>!p x).flatMap aX)/\w.grownBy w' (some g):=by
 have hat:At w (some ⟨g,0,none⟩) (ts.flatMap aX):=by obtain⟨a,c,hv,hat,_⟩:=ej ho;simp only[Value.slice.injEq,true_and]at hv;rw[hv.1];exact hat
 have hcap:=(xp ho).1;have bD:=Ny (some ⟨g,0,none⟩) n cap ts gf #[] p w hn zo hat eg (λx hx W _=>by simpa using hcl x hx W);have hcm:cap<=9223372036854775807:=by
  rcases ho.2 with⟨h1,_⟩ |⟨g',cap',cur,h1,hb,hg,h4,h5,_⟩
  . simp at h1
  . simp only[Value.slice.injEq]at h1;obtain⟨_,_,rfl⟩:=h1;unfold maxLen at h5;omega
 obtain⟨Ho,gm,Hn,kD,eD⟩:=gY ho hcl hn eg hat;clear ho hcl hn eg hat;rcases WH p ts 0 with⟨h1,h2⟩ |⟨i,hi,h1,h2,h3⟩
 . rw[h1]at bD;have hK:(ts.filter λx=>!p x)=ts:=List.filter_eq_self.2 (λx hx=>by simp[h2 x hx]);rw[hK,Hn.out];have AG:=af bD;clear bD h1 h2 hK;have Hb:Hid (Bw w w):=Below.refl _ _;go_enter Tryz.func188,Tryz.ntmps188;go_wp2_with fail;refine(AG.out).mono ?_;rintro e w1 ⟨rfl,ae⟩;replace Hb:=ak Hb ae;clear ae;go_wp2;go_ret;exact⟨n,rfl,rfl,ownsRow_below Ho.out Hb.out,EY _ Hb.out⟩
 . rw[h1,Nat.zero_add]at bD;have hin:i<n:=by rw[<-Hn.out];exact hi
   obtain⟨K,hK⟩:=aB (ts.filter λx=>!p x);rw[hK];have hst:(ts.take (i+1)).filter (λx=>!p x)=ts.take i:=by rw[List.take_succ_eq_append_getElem hi,List.filter_append,agx p ts i zo h3];simp[h2]
   have jH:((i:Int)== -1)=false:=by simp
   obtain⟨AG,HK,cn⟩:=cC bD hK hst;clear bD h1 h2 h3 hK hst;have Hb:Hid (Bw w w):=Below.refl _ _;go_enter Tryz.func188,Tryz.ntmps188;go_wp2_with fail;refine(AG.out).mono ?_;rintro e w1 ⟨rfl,ae⟩;replace Hb:=ak Hb ae;clear ae;go_wp2_with fail;go_loopw[5,6] (λs5 s6 wr=>∃(x y:Nat) (C:List aN),s5=.int .i64 (x:Int)/\s6=.int .i64 (y:Int)/\x<y/\y<=n/\C.length=n/\C.take x=(ts.take y).filter (λx=>!p x)/\C.drop y=ts.drop y/\wr.ownsRow base 93 4 (.slice (some ⟨g,0,none⟩) n cap) n (C.flatMap aX)/\w.grownBy wr (some g)) (λ_ s6 _=>n-(intOf s6).toNat);case atStart=>exact⟨i,i+1,ts,rfl,by go_num,by omega,by omega,Hn.out,cn.out.symm,rfl,ownsRow_below Ho.out Hb.out,EY _ Hb.out⟩
   case round=>
    clear Hb jH;obtain⟨x,y,C,rfl,rfl,hxy,om,hC,htk,hdr,hov,hg⟩:=hrel;by_cases hlt:y<n
    . have Nv:y<ts.length:=by rw[Hn.out];exact hlt
      have Wz:y<C.length:=by omega
      have hel:C[y]=ts[y]:=by
       have e1:C[y]?=ts[y]?:=by rw[<-Nat.add_zero y,<-List.getElem?_drop,<-List.getElem?_drop,hdr]
       rw[List.getElem?_eq_getElem Wz,List.getElem?_eq_getElem Nv]at e1;exact Option.some.inj e1
      obtain⟨l,s,m,e,hx⟩:∃l s m e,ts[y]=(l,s,m,e):=⟨_,_,_,_,rfl⟩;have hw:=GW hov y Wz (hel.trans hx);have hcl:=gm.out _ (List.getElem_mem Nv);rw[hx]at hcl;have hnx:(ts.take (y+1)).filter (λx=>!p x)=(ts.take y).filter (λx=>!p x)++if p (l,s,m,e)then[]else[(l,s,m,e)]:=by rw[List.take_succ_eq_append_getElem Nv,List.filter_append,hx];by_cases hp:p (l,s,m,e)=true<;>simp[hp]
      have hd2:C.drop (y+1)=ts.drop (y+1):=by rw[<-List.drop_drop,<-List.drop_drop,hdr]
      have bD:=rH n cap y (y:Int) (rfl:(some ⟨g,0,none⟩:Option Addr)=_) hlt rfl;rw[Nat.zero_add]at bD;obtain⟨hgb,rE⟩:=zM hov;obtain⟨dW,Hg,Rc,xQ,mH,HC,Qj⟩:=iL hov hg htk hd2 hnx hC hcl;have Hz:Hid (bN wr g (y*4) [.string (bs l),.bool s,.string (bs m),.int .i64 e]):=hw;clear hov hg htk hd2 hnx hC hcl hw hdr hel hx;have Hb:Hid (Bw wr wr):=Below.refl _ _;obtain⟨z0,z1,z2,z3⟩:=Hz.out.w4;have P0:=z0;have P1:=z1;have P2:=z2;have P3:=z3;have EP:=kD.out;obtain⟨W4,jX,ae,Hv⟩:=cf wr 93 [.string (bs l),.bool s,.string (bs m),.int .i64 e];clear z0 z1 z2 z3;replace Hz:=kW Hz ae;obtain⟨z0,z1,z2,z3⟩:=Hz.out.w4;obtain⟨v0,v1,v2,v3⟩:=Hv.out.c4;replace Hb:=ak Hb ae;clear ae;obtain⟨t,ht⟩:=aB (p (l,s,m,e));rw[ht]at Qj mH;clear ht;go_wp2_with fail;refine(Qj.out _).mono ?_;rintro e w5 ⟨rfl,ae⟩;clear z0 z1 z2 z3 v0 v1 v2 v3;replace Hz:=kW Hz ae;replace Hv:=kB Hv ae;obtain⟨z0,z1,z2,z3⟩:=Hz.out.w4;obtain⟨v0,v1,v2,v3⟩:=Hv.out.c4;replace Hb:=ak Hb ae;clear ae;have gS:=ownsRow_below dW.out Hb.out;have FU:=grownBy_trans Hg.out (EY _ Hb.out);clear EP;cases t with
      | true=>
        obtain⟨vN,JB⟩:=aI gS FU;clear gS FU;go_wp2;go_roundw;case rel=>exact⟨x,y+1,C,rfl,by go_num,by omega,by omega,HC.out,by rw[mH.out,Rc.out];simp,xQ.out,vN.out,JB.out⟩
        case measure=>simp[intOf];omega
      | false=>
        have Ns:x<C.length:=by have:=HC.out;omega
        obtain⟨lx,sx,mx,ex,Wu⟩:∃l s m e,C[x]=(l,s,m,e):=⟨_,_,_,_,rfl⟩;obtain⟨u0,u1,u2,u3⟩:=(GW gS x Ns Wu).w4;have pp:=kY gS (x*4);have lN:=kY gS (x*4+1);have EU:=kY gS (x*4+2);have Lz:=kY gS (x*4+3);have jZ:=rH n cap x (x:Int) (rfl:(some ⟨g,0,none⟩:Option Addr)=_) zo rfl;rw[Nat.zero_add]at jZ;obtain⟨vN,JB,Ri⟩:=cC gS FU Ns;clear gS FU Wu Ns;go_wp2;refine⟨⟨x+1,y+1,C.set x (l,s,m,e),by go_num,by go_num,by omega,by omega,by rw[List.length_set];exact HC.out,?_,?_,akx vN.out x Ri.out l s m e,?_⟩,by simp[intOf];omega⟩
        . rw[take_set _ _ _ Ri.out,Rc.out,mH.out];simp
        . rw[KX _ _ _ _ zo];exact xQ.out
        . exact EZ (EZ (EZ (EZ JB.out _ _) _ _) _ _) _ _
    . obtain rfl:y=n:=by omega
      have hK:C.take x=K:=by rw[htk,<-HK.out,List.take_of_length_le (by rw[Hn.out];exact Nat.le_refl _)]
      have Fp:K.length=x:=by rw[<-hK,List.length_take,hC];omega
      have yY:=XY hov x zo;rw[Tc C x zo,hK]at yY;obtain⟨w6,aow,Cw,UQ⟩:=YD wr 89 93 _ 4 Tryz.underlying89 Tryz.arD rfl (by intro v hv;simp[Value.cells]at hv;rcases hv with rfl|rfl|rfl|rfl<;>rfl) g x (y-x) cap (cap-x) base (K.flatMap aX) yY zo;have jl:¬cap=x:=by omega
      obtain⟨Ho6,rZ,HKl⟩:=cC Cw (grownBy_trans hg UQ) Fp;clear htk hdr hC hK Fp yY hov hg Cw UQ;go_wp2;go_ret;exact⟨x,HKl.out.symm,rfl,Ho6.out,rZ.out⟩
theorem At.first {w:World}{a:Option Addr}{xs:List Value}(h:At w a xs)(k:Nat):At w a (xs.take k):=by
 rcases h with rfl|⟨b,o,rfl,hc⟩
 . exact .inl zm
 . refine .inr ⟨b,o,rfl,λj hj=>?_⟩;rw[List.length_take]at hj;rw[hc j zo,List.getElem?_take_of_lt zo]
def Kr (w:World)(a:Option Addr)(n cap:Nat)(ts:List aN)(e:Ending)(w':World):Prop:=
 ∃v',e=.returned v'/\((n<2/\v'=.slice a n cap)\/(2<=n/\w'.ownsRow w.heap.size 93 4 v' (fU ts).length ((fU ts).flatMap aX)))/\Bw w w'
theorem Kr.at {w:World}{a:Option Addr}{n cap:Nat}{ts:List aN}{e:Ending}{w':World}(h:Kr w a n cap ts e w')(hn:ts.length=n)(hs:Sl a n cap)(ha:At w a (ts.flatMap aX)):
 ∃a' c',e=.returned (.slice a' (fU ts).length c')/\At w' a' ((fU ts).flatMap aX)/\Sl a' (fU ts).length c'/\Bw w w':=by
 obtain⟨v',rfl,h1,hb⟩:=h;rcases h1 with⟨h2,rfl⟩ |⟨h2,ho⟩
 . rw[Ie ts zo,hn];exact⟨a,cap,rfl,ha.below hb,hs,hb⟩
 . obtain⟨a',c',rfl,hat,_⟩:=ej ho;exact⟨a',c',rfl,hat,xp ho,hb⟩
theorem al0 (n:Nat):∀(a:Option Addr) (cap:Nat) (ts:List aN) (B:Nat) (w:World),ts.length=n->Sl a n cap->n<=65536->At w a (ts.flatMap aX)->(∀t∈ts,Fit B t.2)->B+n+2<=268435456->az w->
 Calls Tryz.prog 189 #[.slice a n cap,.func (.func 155) #[] #[],.func (.func 156) #[] #[]] w (Kr w a n cap ts):=by
 induction n using Nat.strongRecOn with
 | _ n ih=>
   intro a cap ts B w hn hs hl ha hf hB hT;by_cases h2:n<2
   . have h2i:(n:Int)<2:=by omega
     clear ih hn hs ha hf hT;have Hb:Hid (Bw w w):=Below.refl _ _;go_enter Tryz.func189,Tryz.ntmps189;go_wp2;go_ret;exact⟨_,rfl,.inl ⟨h2,rfl⟩,Hb.out⟩
   . obtain⟨k,hk⟩:=aB (n/2);have hk1:1<=k:=by omega
     have hk2:k<n:=by omega
     have Ga:(n:Int)/2=(k:Int):=by omega
     have l1:(ts.take k).length=k:=by rw[List.length_take];omega
     have l2:(ts.drop k).length=n-k:=by rw[List.length_drop];omega
     have hcn:=hs.1;have s1:Sl a k cap:=⟨by omega,hs.2⟩;have s2:Sl (if cap=k then a else a.map (·.add (k*4))) (n-k) (cap-k):=hs.cut zo;have a1:=ha.first (k*4);rw[Tc ts k zo]at a1;have a2:=ha.cut (k:=k) (size:=4) (by rw[zT,hn]) zo hcn;have ed:(ts.flatMap aX).drop (k*4)=(ts.drop k).flatMap aX:=by
      have e:ts=ts.take k++ts.drop k:=(List.take_append_drop _ _).symm;conv=>lhs;rw[e]
      rw[List.flatMap_append,List.drop_left' (by rw[zT,l1])]
     rw[ed]at a2;obtain⟨a',ha'⟩:=aB (if cap=k then a else a.map (·.add (k*4)));rw[ha']at s2 a2;have f1:∀t∈ts.take k,Fit B t.2:=λt ht=>hf t (List.mem_of_mem_take ht);have f2:∀t∈ts.drop k,Fit B t.2:=λt ht=>hf t (List.mem_of_mem_drop ht);have c1:=λW (hW:Bw w W) (Ce:az W)=>(ih k hk2 a cap (ts.take k) B W l1 s1 zo (a1.below hW) f1 zo Ce).mono (λe w' h=>h.at l1 s1 (a1.below hW));have c2:=λW (hW:Bw w W) (Ce:az W)=>(ih (n-k) zo a' (cap-k) (ts.drop k) B W l2 s2 zo (a2.below hW) f2 zo Ce).mono (λe w' h=>by obtain⟨x1,x2,x3,x4,x5,x6⟩:=h.at l2 s2 (a2.below hW);exact(⟨x1,x2,x3,x4,x5,Nat.le_trans hW.size x6.size,x6,x6⟩:∃a1 c1,e=.returned (.slice a1 (fU (ts.drop k)).length c1)/\At w' a1 ((fU (ts.drop k)).flatMap aX)/\Sl a1 (fU (ts.drop k)).length c1/\w.heap.size<=w'.heap.size/\Bw W w'/\Bw W w'));have g1:=OJ (B:=B) (ts.take k) f1 zo;have g2:=OJ (B:=B) (ts.drop k) f2 zo;have e1:=Dm (ts.take k);have e2:=Dm (ts.drop k);have hst:fU ts=fQ (fU (ts.take k)) (fU (ts.drop k)):=by rw[OL ts zo,hn,hk]
     obtain⟨L,hL⟩:=aB (fU (ts.take k));obtain⟨R,hR⟩:=aB (fU (ts.drop k));rw[hL]at c1 g1 e1 hst;rw[hR]at c2 g2 e2 hst;have h2i:¬(n:Int)<2:=by omega
     have h2n:2<=n:=by omega
     obtain⟨C1,C2,G1,G2,cn,HT⟩:=iK c1 c2 (λt ht=>(g1 t ht).mono (show B+(ts.take k).length<=B+n by omega)) (λt ht=>(g2 t ht).mono (show B+(ts.drop k).length<=B+n by omega)) hst hT;have Eb:Hid (L.length<=65536/\R.length<=65536):=⟨by omega,by omega⟩;have ye:=ha';clear ih hn hs ha hf hT a1 a2 s1 s2 f1 f2 c1 c2 g1 g2 e1 e2 hst ed l1 l2 hL hR hk ha';have Hb:Hid (Bw w w):=Below.refl _ _;go_enter Tryz.func189,Tryz.ntmps189;go_wp2_with fail;have hkn:k<=n:=by omega
     have hkc:k<=cap:=by omega
     refine cd (λw'=>True) (λi=>Nat.blt i 100000) [(0,true),(1,true),(2,true),(3,true),(4,true),(6,true),(7,true),(8,true),(9,true),(10,true),(12,true),(13,true),(5,false),(11,false),(14,false),(15,true)] zk zk rfl zk zc True.intro ?_;iterate 12 (refine pT rfl rfl ?_;try simp only[UU])
     refine aC rfl rfl (λK hK=>?_);go_simp;with_reducible refine(C1.out _ (by first|exact Hb.out|exact Hb.out.drew) (by first|exact(HT.out.below Hb.out) |exact az.drew (HT.out.below Hb.out) |exact az.alloc (HT.out.below Hb.out) _|exact az.drew (az.alloc (HT.out.below Hb.out) _) |exact az.alloc (az.drew (HT.out.below Hb.out)) _)).mono ?_
     rintro e w1 ⟨b1,d1,rfl,mQ,hs1,hq⟩;have ae:Bw w w1:=by first|exact hq|exact aO hq
     replace Hb:=ak Hb ae;clear ae;refine hK _ _ (λ_=>True.intro) ?_;clear hK K;try simp only[UU]
     refine aC rfl rfl (λK hK=>?_);go_simp;with_reducible refine(C2.out _ (by first|exact Hb.out|exact Hb.out.drew) (by first|exact(HT.out.below Hb.out) |exact az.drew (HT.out.below Hb.out) |exact az.alloc (HT.out.below Hb.out) _|exact az.drew (az.alloc (HT.out.below Hb.out) _) |exact az.alloc (az.drew (HT.out.below Hb.out)) _)).mono ?_
     rintro e w2 ⟨b2,d2,rfl,jF,hs2,ah8,ux,hq⟩;have ae:Bw w1 w2:=by first|exact hq|exact aO hq
     replace Hb:=ak Hb ae;clear ae;refine hK _ _ (λ_=>True.intro) ?_;clear hK K;try simp only[UU]
     refine aC rfl rfl (λK hK=>?_);go_simp;with_reducible refine(Xv b1 L.length d1 L b2 R.length d2 R (B+n) _ rfl rfl hs1 hs2 Eb.out.1 Eb.out.2 (by first|exact mQ.below ux|exact(mQ.below ux).drew) (by first|exact jF|exact jF.drew) G1.out G2.out zo (by first|exact(HT.out.below Hb.out) |exact az.drew (HT.out.below Hb.out) |exact az.alloc (HT.out.below Hb.out) _|exact az.drew (az.alloc (HT.out.below Hb.out) _) |exact az.alloc (az.drew (HT.out.below Hb.out)) _)).mono ?_
     rintro e w3 ⟨v',rfl,ho,hq⟩;have ae:Bw w2 w3:=by first|exact hq|exact aO hq
     replace Hb:=ak Hb ae;clear ae;refine hK _ _ (λ_=>True.intro) ?_;clear hK K;try simp only[UU]
     refine pT rfl rfl ?_;try simp only[UU]
     simp only[aV];go_wp2;go_ret;exact⟨v',rfl,.inr ⟨h2n,by rw[cn.out];exact xq ho ah8⟩,Hb.out⟩
def yu (x:aN):aN:=(x.1,canon (ar x.2))
theorem Xr (f:aN->aN)(K C:List aN)(k:Nat)(hk:k<C.length)(hl:C.length=K.length)(ht:C.take k=(K.map f).take k)(hx:C[k]=K[k]'zo):(C.set k (f C[k])).take (k+1)=(K.map f).take (k+1):=by rw[take_set _ _ _ hk,ht,List.take_succ_eq_append_getElem zi,List.getElem_map,hx]
theorem SK {K C:List aN}{k:Nat}(hd:C.drop k=K.drop k)(h1:k<C.length)(h2:k<K.length):C[k]=K[k]:=by
 have e1:C[k]?=K[k]?:=by rw[<-Nat.add_zero k,<-List.getElem?_drop,<-List.getElem?_drop,hd]
 rw[List.getElem?_eq_getElem h1,List.getElem?_eq_getElem h2]at e1;exact Option.some.inj e1
theorem afa (V:Int)(v:Value)(n:Nat)(ts:List aN)(B:Nat)(w0 w:World)(hb0:Bw w0 w)(hn:ts.length=n)(hl:n<=4096)(ho:w.ownsRow w0.heap.size 93 4 v n (ts.flatMap aX))(hf:∀t∈ts,Fit B t.2)(hB:B+n+2<=268435456)(hT:az w0):
 Calls Tryz.prog 152 #[.int .i64 V,v] w λe w'=>∃v',e=.returned (.tuple #[.agg #[.int .i64 V,v'],.int .i64 0])/\w'.ownsRow w0.heap.size 93 4 v' (cp ts).length ((cp ts).flatMap aX)/\Bw w0 w':=by
 obtain⟨a,cap,rfl,hat,_⟩:=ej ho;have hs:=xp ho;have FV:=OJ ts hf zo;have hsl:=Dm ts;have eg:∀args w,(callFunc 190 args).run Tryz.prog w=.ok (.enter 190 args) w:=enters_of Tryz.func190 zk rfl;obtain⟨S,hS⟩:=aB (fU ts);have c1:∀W,Bw w W->Calls Tryz.prog 189 #[.slice a n cap,.func (.func 155) #[] #[],.func (.func 156) #[] #[]] W λe w'=>∃v1,e=.returned v1/\w'.ownsRow w0.heap.size 93 4 v1 S.length (S.flatMap aX)/\Bw W w':=by
  intro W hW;refine(al0 n a cap ts B W hn hs zo (hat.below hW) hf hB (hT.below (aH hb0 hW))).mono ?_;rintro e w' ⟨v1,rfl,h1,hb⟩;refine⟨v1,rfl,?_,hb⟩;rcases h1 with⟨h2,rfl⟩ |⟨h2,fO⟩
  . rw[<-hS,Ie ts zo,hn];exact ownsRow_below ho (aH hW hb)
  . rw[<-hS];exact xq fO (by have:=hW.size;have:=hb0.size;omega)
 obtain⟨K,hK⟩:=aB (S.filter mY);have Fp:K.length<=4096:=by have:=List.length_filter_le mY S;rw[hK]at this;rw[hS]at hsl;omega
 rw[hS]at FV hsl;have c2:∀W v1,Bw w0 W->W.ownsRow w0.heap.size 93 4 v1 S.length (S.flatMap aX)->Calls Tryz.prog 188 #[v1,.func (.func 190) #[] #[]] W λe w'=>∃v2,e=.returned v2/\w'.ownsRow w0.heap.size 93 4 v2 K.length (K.flatMap aX)/\W.grownBy w' v1.ownBlock:=by
  intro W v1 hW fO;have hcl:∀x∈S,∀W,Calls Tryz.prog 190 #[.agg #[.string (bs x.1),.bool x.2.1,.string (bs x.2.2.1),.int .i64 x.2.2.2]] W λe w'=>e=.returned (.bool (!mY x))/\Bw W w':=λx hx W=>ae9 x.1 x.2.1 x.2.2.1 x.2.2.2 W (FV x hx).1;by_cases h0:0<S.length
  . obtain⟨g,c,rfl,_,_,_⟩:=xo fO h0;refine(afL g S.length c w0.heap.size S _ (λx=>!mY x) W rfl zo h0 fO eg hcl).mono ?_;rintro e w' ⟨k,hk,rfl,dZ,hg2⟩;simp only[Bool.not_not]at hk dZ;rw[hK]at hk dZ;subst hk;exact⟨_,rfl,dZ,hg2⟩
  . have mN:S=[]:=List.eq_nil_of_length_eq_zero zo;obtain⟨a1,c,rfl,mQ,_⟩:=ej fO;refine(afM a1 S.length c S _ (λx=>!mY x) W rfl zo mQ eg (λx hx=>by rw[mN]at hx;cases hx) hcl).mono ?_;rintro e w' ⟨rfl,hb⟩;have sK:K=S:=by rw[<-hK,mN];rfl
    rw[sK];exact⟨_,rfl,ownsRow_below fO hb,EY _ hb⟩
 have TD:∀t∈K,Fit (B+ts.length) t.2:=λt ht=>by rw[<-hK]at ht;exact FV t (List.mem_filter.1 ht).1
 have hcl:cp ts=K.map yu:=by unfold cp;rw[hS,hK];rfl
 rw[hcl,List.length_map];have hz:=hb0.size;obtain⟨m,hm⟩:=aB K.length;rw[hm]at Fp c2⊢;obtain⟨Hm,C1,C2,HKf,Hw0,HT⟩:=iK hm c1 c2 TD hb0 hT;clear c1 c2 hm TD hcl hb0 hT FV hS hK ho hat hs hf eg hsl;have Hb:Hid (Bw w w):=Below.refl _ _;go_enter Tryz.func152,Tryz.ntmps152;go_wp2_with fail;obtain⟨R,hR⟩:∃R:World->Prop,(λW=>aj W (w.heap.size) 91 [.int .i64 0,.slice none 0 0]/\Bw w W)=R:=⟨_,rfl⟩;first|refine bP R ?hR ?_|refine bO R ?hR ?_
 case hR=>subst hR;exact⟨(aj.newAt w _ _ (b:=w.heap.size) rfl),zl⟩
 subst hR;rintro W ⟨qr,ae⟩;have Hr:=af qr;clear qr;obtain⟨r0,ag,r1,ah⟩:=Hr.out.g2;replace Hb:=ak Hb ae;clear ae;go_wp2_with fail;refine(C1.out _ Hb.out).mono ?_;rintro e w1 ⟨v1,rfl,fO,ae⟩;clear r0 ag r1 ah;replace Hr:=kB Hr ae;obtain⟨r0,ag,r1,ah⟩:=Hr.out.g2;replace Hb:=ak Hb ae;clear ae;have hw1:=aH Hw0.out Hb.out;go_wp2_with fail;refine(C2.out _ v1 hw1 fO).mono ?_;rintro e w2 ⟨v2,rfl,dZ,hg2⟩;have hr2:=Hr.out.row zd fO hg2;have hw2:=aew (hg2) (Nat.le_trans hz Hb.out.size) (λg e=>eI fO g e);obtain⟨Rf,AP⟩:=aI (hw1.trans hw2) dZ;replace Hr:=af hr2;clear C1 C2 fO hg2 hw1 hw2 hr2 dZ r0 ag r1 ah Hb;have hKi:¬(4096:Int)<(m:Int):=by omega
 obtain⟨a2,cap2,rfl,_,_⟩:=ej AP.out;go_wp2_with fail;go_loopw[16] (λx wr=>∃(k:Nat) (C:List aN),k<=m/\x=.int .i64 (k:Int)/\C.length=m/\C.take k=(K.map yu).take k/\C.drop k=K.drop k/\wr.ownsRow w0.heap.size 93 4 (.slice a2 m cap2) m (C.flatMap aX)/\aj wr w.heap.size 91 [.int .i64 0,.slice none 0 0]/\Bw w0 wr) (λx _=>m-(intOf x).toNat);case atStart=>exact⟨0,K,Nat.zero_le _,rfl,Hm.out,rfl,rfl,AP.out,Hr.out,Rf.out⟩
 case round=>
  clear Hr AP Rf;obtain⟨k,C,hk,rfl,hC,htk,hdr,hov,hr,pb⟩:=hrel;by_cases hlt:k<m
  . obtain⟨g,cc,he,hg1,hg2,hg3⟩:=xo hov zo;simp only[Value.slice.injEq,true_and]at he;obtain⟨rfl,rfl⟩:=he;have sU:k<C.length:=by omega
    have wG:k<K.length:=by have:=Hm.out;omega
    have hel:=SK hdr sU wG;obtain⟨l,s,q,e,hx⟩:∃l s m e,C[k]=(l,s,m,e):=⟨_,_,_,_,rfl⟩;have iW:=HKf.out _ (List.getElem_mem wG);rw[<-hel,hx]at iW;obtain⟨D,hD⟩:=aB (ar (s,q,e));have iI:=Xr yu K C k sU (by rw[hC,Hm.out]) htk hel;have Ch:yu C[k]=(l,canon D):=by rw[hx,<-hD];rfl
    rw[Ch]at iI;have jl:C[k].1=l:=by rw[hx]
    have hw:=GW hov k sU hx;have hd2:C.drop (k+1)=K.drop (k+1):=by rw[<-List.drop_drop,<-List.drop_drop,hdr]
    have bD:=rH m cap2 k (k:Int) (rfl:(some ⟨g,0,none⟩:Option Addr)=_) hlt rfl;rw[Nat.zero_add]at bD;have Hfm:Hid (∀W,az W->Calls Tryz.prog 111 #[.agg #[.bool s,.string (bs q),.int .i64 e]] W λex w'=>ex=.returned (bK D)/\Bw W w'):=λW Ce=>pn s q e D hD W iW.1 Ce;obtain⟨dW,aY,vQ,xQ,HC,Jj,vE⟩:=iL hov pb iI hd2 hC jl (HT.out.below pb);have Hr:Hid (aj wr w.heap.size 91 [.int .i64 0,.slice none 0 0]):=hr;have Hz:Hid (bN wr g (k*4) [.string (bs l),.bool s,.string (bs q),.int .i64 e]):=hw;clear hov pb iI hd2 hC hr hw htk hdr hel hx iW hD Ch jl wG;have Hb:Hid (Bw wr wr):=Below.refl _ _;obtain⟨z0,z1,z2,z3⟩:=Hz.out.w4;have y2:wr.cell? ⟨g,k*4+1+1,none⟩=some (.string (bs q)):=z2;have y3:wr.cell? ⟨g,k*4+1+2,none⟩=some (.int .i64 e):=z3;go_wp2_with fail;refine(Hfm.out _ vE.out).mono ?_;rintro e w5 ⟨rfl,ae⟩;clear z0 z1 z2 z3;replace Hz:=kW Hz ae;obtain⟨z0,z1,z2,z3⟩:=Hz.out.w4;replace Hb:=ak Hb ae;clear ae;have gS:=ownsRow_below dW.out Hb.out;clear y2 y3;have y2:w5.cell? ⟨g,k*4+1+1,none⟩=some (.string (bs q)):=z2;have y3:w5.cell? ⟨g,k*4+1+2,none⟩=some (.int .i64 e):=z3;have lN:=kY gS (k*4+1);have EU:=kY gS (k*4+1+1);have Lz:=kY gS (k*4+1+2);have hgb:=(zM gS).2;have MV:=Hr.out.below Hb.out;have cP:=aH aY.out Hb.out;have Mu:g≠w.heap.size:=λe=>MV.not_row zd gS (by rw[e];rfl);obtain⟨vN,Hr5,fC⟩:=cC gS MV cP;clear gS MV cP;go_wp2;refine⟨⟨k+1,C.set k (l,canon D),by omega,by go_num,by rw[List.length_set];exact HC.out,vQ.out,by rw[KX _ _ _ _ zo];exact xQ.out,?_,?_,?_⟩,by simp[intOf];omega⟩
    . have h:=XX vN.out k sU (ai (dN D)) (nt (dN D).natAbs) (dE D);rw[Jj.out]at h;exact h
    . exact((Hr5.out.ard _ Mu _).ard _ Mu _).ard _ Mu _
    . exact((fC.out.setCell zp _).setCell zp _).setCell zp _
  . obtain rfl:k=m:=by omega
    have BM:C=K.map yu:=by rw[List.take_of_length_le zo,List.take_of_length_le (by rw[List.length_map];have:=Hm.out;omega)]at htk;exact htk
    rw[BM]at hov;obtain⟨dW,aY⟩:=aI hov pb;have Hr:Hid (aj wr w.heap.size 91 [.int .i64 0,.slice none 0 0]):=hr;clear hov pb hr htk hdr hC BM;obtain⟨r0,ag,r1,ah⟩:=Hr.out.g2;go_wp2;have hne:=(Hr.out.not_row zd dW.out).symm;have hrs:=Hr.out.lt;refine dw (λw9=>aj w9 w.heap.size 91 [.int .i64 V,.slice a2 k cap2]/\w9.ownsRow w0.heap.size 93 4 (.slice a2 k cap2) k ((K.map yu).flatMap aX)/\Bw w0 w9) ⟨(Hr.out.set 0 _).set 1 _,ownsRow_setCell_other (ownsRow_setCell_other dW.out hne _) hne _,(aY.out.setCell hz _).setCell hz _⟩ ?_;rintro w9 ⟨pQ,lV,jG⟩;obtain⟨q0,q1⟩:=pQ.c2;exact bodyPost_ret (v:=.tuple #[.agg #[.int .i64 V,.slice a2 k cap2],.int .i64 0]) (by simp[results,Tryz.results152,go_sem,q0,q1]) rfl ⟨_,rfl,lV,jG⟩
theorem KJ (V:Int)(v:Value)(n:Nat)(ts C:List aN)(B:Nat)(w0 w:World)(hb0:Bw w0 w)(hn:ts.length=n)(hl:n<=4096)(ho:w.ownsRow w0.heap.size 93 4 v n (ts.flatMap aX))(hf:∀t∈ts,Fit B t.2)(hB:B+n+2<=268435456)(hT:az w0)(hC:cp ts=C):
 Calls Tryz.prog 152 #[.int .i64 V,v] w λe w'=>∃a c,e=.returned (.tuple #[.agg #[.int .i64 V,.slice a C.length c],.int .i64 0])/\w'.ownsRow w0.heap.size 93 4 (.slice a C.length c) C.length (C.flatMap aX)/\Bw w0 w':=by
 subst hC;refine(afa V v n ts B w0 w hb0 hn hl ho hf hB hT).mono ?_;rintro e w' ⟨v',rfl,h1,h2⟩;obtain⟨a,c,rfl,_,_⟩:=ej h1;exact⟨a,c,rfl,h1,h2⟩
theorem aku {w W:World}{b base k:Nat}{v x0 x1:Value}{xs:List Value}(hr:aj W b 91 [x0,x1])(ho:W.ownsRow base 93 4 v k xs)(hb:Bw w W)(hbs:w.heap.size<=b)(y0 y1:Value):
 aj ((W.setCell ⟨b,0,none⟩ y0).setCell ⟨b,1,none⟩ y1) b 91 [y0,y1]/\((W.setCell ⟨b,0,none⟩ y0).setCell ⟨b,1,none⟩ y1).ownsRow base 93 4 v k xs/\Bw w ((W.setCell ⟨b,0,none⟩ y0).setCell ⟨b,1,none⟩ y1):=by
 have hne:=(hr.not_row zd ho).symm;exact⟨(hr.set 0 _).set 1 _,ownsRow_setCell_other (ownsRow_setCell_other ho hne _) hne _,(hb.setCell hbs _).setCell hbs _⟩
theorem Br {P:Program}{fn:Func}{R:Ending->World->Prop}{e:Exit}{a:Act}{w W:World}{b base k:Nat}{v x0 x1 y0 y1:Value}{xs:List Value}(hr:aj W b 91 [x0,x1])(ho:W.ownsRow base 93 4 v k xs)(hb:Bw w W)(hbs:w.heap.size<=b)
 (h:∀W',aj W' b 91 [y0,y1]->W'.ownsRow base 93 4 v k xs->Bw w W'->bodyPost P fn R e a W'):bodyPost P fn R e a ((W.setCell ⟨b,0,none⟩ y0).setCell ⟨b,1,none⟩ y1):=by
 obtain⟨h1,h2,h3⟩:=aku hr ho hb hbs y0 y1;exact h _ h1 h2 h3
theorem Sj (a:Option Addr)(n cap:Nat)(ts:List aN)(w:World)(hn:ts.length=n)(hl:n<=1048576)(hs:Sl a n cap)(ha:At w a (ts.flatMap aX)):
 Calls Tryz.prog 151 #[.slice a n cap] w λe w'=>∃v',e=.returned v'/\w'.ownsRow w.heap.size 93 4 v' n (ts.flatMap aX)/\Bw w w':=by
 obtain⟨i0,hi,hz0,hz1,hz2⟩:=info_parts Tryz.arq;have q:=λ(w:World) (a:Option Addr) (n c n' c':Nat)=>Lib.run_eql_slice_nil (P:=Tryz.prog) w 89 93 a n c n' c' Tryz.underlying89;have hlen:(ts.flatMap aX).length=n*4:=by rw[lM aX 4 (λ_=>rfl),hn]
 obtain⟨cs,hcs⟩:=aB (ts.flatMap aX);have h1:=OW ts;rw[hcs]at hlen ha h1⊢;obtain⟨jQ,Ha,H1,Hs,Hi,eF,eG,dL⟩:=mo hlen ha h1 hs hi hz0 hz1 hz2;clear hlen ha h1 hs hi hz0 hz1 hz2 hn hcs;cases a with
 | none=>
   have hc:=Hs.out.2 rfl;have hn0:n=0:=by have:=Hs.out.1;omega
   subst hc;subst hn0;go_enter Tryz.func151,Tryz.ntmps151;go_wp2;go_ret;refine⟨_,rfl,?_,Below.refl _ _⟩;have e:cs=[]:=List.eq_nil_of_length_eq_zero (by have:=jQ.out;omega);rw[e];exact World.ownsRow_nil _ _ _ _
 |some ad=>go_enter Tryz.func151,Tryz.ntmps151;go_wp2_with (at_builtin;refine Pk rfl _ _ 89 rfl w.heap.size 93 i0 _ 4 48 Tryz.underlying89 Hi.out eF.out eG.out dL.out rfl zd _ 0 [] rfl (World.ownsRow_made w #[] 0 (Nat.le_refl _) (Nat.zero_le _) zm) (some ad) n cap cs rfl Hs.out jQ.out (Ha.out.below ((Below.refl _ w).alloc (Nat.le_refl _) _)) H1.out zx zo zm ?_;intro v' w1 hown hgrow kg);go_ret;refine⟨v',rfl,by simpa using hown,?_⟩;exact((Below.refl _ w).alloc (Nat.le_refl _) _).grown hgrow zm (λk hk=>by have h9:w.heap.size=k:=Option.some.inj hk;omega)
theorem ajE (V:Int)(ts:List aN)(h:∀t∈ts,fY t.1 V=true):(ts.any λt=>!fY t.1 V)=false:=by rw[List.any_eq_false];intro t ht;rw[h t ht];simp
theorem Xq (V:Nat)(a:Option Addr)(n cap:Nat)(ts:List aN)(B:Nat)(w:World)(hV:V<=12)(hn:ts.length=n)(hl:n<=4096)(hs:Sl a n cap)(ha:At w a (ts.flatMap aX))(hm:∀t∈ts,fY t.1 V=true)(hl2:∀t∈ts,t.1.length<=9223372036854775807)
 (hf:∀t∈ts,Fit B t.2) (hB:B+n+2<=268435456) (hT:az w):
 Calls Tryz.prog 147 #[.int .i64 (V:Int),.slice a n cap] w λe w'=>∃a' c',e=.returned (.tuple #[.agg #[.int .i64 (V:Int),.slice a' (cp ts).length c'],.int .i64 0])/\w'.ownsRow w.heap.size 93 4 (.slice a' (cp ts).length c') (cp ts).length ((cp ts).flatMap aX)/\Bw w w':=by
 have eg:∀args w,(callFunc 186 args).run Tryz.prog w=.ok (.enter 186 args) w:=enters_of Tryz.func186 zk rfl;have hct:∀W bv,Bw w W->W.cell? ⟨bv,0,none⟩=some (.int .i64 (V:Int))->Calls Tryz.prog 185 #[.slice a n cap,.func (.func 186) #[] #[.pointer (some ⟨bv,0,none⟩)]] W λe w'=>e=.returned (.bool false)/\Bw W w':=by intro W bv hW hc;have h:=afr a n cap ts 186 #[.pointer (some ⟨bv,0,none⟩)] (λt=>!fY t.1 V) W hn zo (ha.below hW) eg (λx hx W2 hW2=>by simpa using ajC x.1 x.2.1 x.2.2.1 x.2.2.2 V bv W2 (cell_later hW2 hc) (hl2 x hx));rwa [ajE V ts hm]at h
 obtain⟨C,hC⟩:=aB (cp ts);have hcn:=λW (hW:Bw w W)=>(Sj a n cap ts W hn zo hs (ha.below hW)).mono (λe w' h=>(match h with|⟨v,h1,h2,h3⟩=>⟨v,h1,h2,h3,h3⟩:∃v',e=.returned v'/\w'.ownsRow W.heap.size 93 4 v' n (ts.flatMap aX)/\Bw W w'/\Bw W w'));have hcl:=λw0 W v (hw0:Bw w w0) (hb0:Bw w0 W) (ho:W.ownsRow w0.heap.size 93 4 v n (ts.flatMap aX))=>KJ (V:Int) v n ts C B w0 W hb0 hn hl ho hf hB (hT.below hw0) hC;rw[hC];obtain⟨Jh,rW,gm⟩:=cC hct hcn hcl;clear hct hcn hcl hC ha hT hf hm hl2 hs hn eg;have pJ:=λW=>ES (V:Int) W;have hd:decide (0<=(V:Int)/\(V:Int)<=12)=true:=by simp;omega
 rw[hd]at pJ;have AA:=af pJ;clear pJ hd;have hni:¬(65536:Int)<(n:Int):=by omega
 have Hb:Hid (Bw w w):=Below.refl _ _;go_enter Tryz.func147,Tryz.ntmps147;go_wp2_with fail;obtain⟨R,hR⟩:∃R:World->Prop,(λW=>aj W (w.heap.size) 3 [.int .i64 (V:Int)]/\aj W (w.heap.size+1) 91 [.int .i64 0,.slice none 0 0]/\Bw w W)=R:=⟨_,rfl⟩;first|refine bP R ?hR ?_|refine bO R ?hR ?_
 case hR=>subst hR;exact⟨((aj.newAt w _ _ (b:=w.heap.size) rfl).alloc _),(aj.newAt (w.alloc _) _ _ (b:=w.heap.size+1) zm),(zl.alloc zj _)⟩
 subst hR;rintro W ⟨qv,qr,ae⟩;have Hv:=af qv;clear qv;have Hr:=af qr;clear qr;have v0:=Hv.out.c1;obtain⟨r0,ag,r1,ah⟩:=Hr.out.g2;replace Hb:=ak Hb ae;clear ae;go_wp2_with fail;refine(AA.out _).mono ?_;rintro e w1 ⟨rfl,ae⟩;clear v0 r0 ag r1 ah;replace Hv:=kB Hv ae;replace Hr:=kB Hr ae;have v0:=Hv.out.c1;obtain⟨r0,ag,r1,ah⟩:=Hr.out.g2;replace Hb:=ak Hb ae;clear ae;go_wp2_with fail;refine(Jh.out _ _ Hb.out v0).mono ?_;rintro e w2 ⟨rfl,ae⟩;clear v0 r0 ag r1 ah;replace Hv:=kB Hv ae;replace Hr:=kB Hr ae;have v0:=Hv.out.c1;obtain⟨r0,ag,r1,ah⟩:=Hr.out.g2;replace Hb:=ak Hb ae;clear ae;go_wp2_with fail;refine cd (λw'=>w'.cell? ⟨w.heap.size,0,none⟩=some (.int .i64 (V:Int))) (λi=>Nat.blt i 6) [(0,true),(1,true),(2,false),(3,false),(4,true),(5,true),(6,false),(7,false)] zk zk rfl zk zc v0 ?_;iterate 2 (refine pT rfl rfl ?_;try simp only[UU])
 have ac9:=Hv;have lG:=Hr;have eQ:=Hb;refine aC rfl rfl (λK hK=>?_);go_simp;with_reducible refine(rW.out _ (by first|exact Hb.out|exact Hb.out.drew)).mono ?_
 rintro e w3 ⟨v1,rfl,fO,ahr,hq⟩;have ae:Bw w2 w3:=by first|exact hq|exact aO hq
 clear v0 r0 ag r1 ah;replace Hv:=kB Hv ae;replace Hr:=kB Hr ae;have v0:=Hv.out.c1;obtain⟨r0,ag,r1,ah⟩:=Hr.out.g2;replace Hb:=ak Hb ae;clear ae;refine hK _ _ (λ_=>v0) ?_;clear hK K;try simp only[UU]
 refine aC rfl rfl (λK hK=>?_);go_simp;with_reducible refine(gm.out _ _ v1 (by first|exact eQ.out|exact eQ.out.drew) ahr fO).mono ?_
 rintro e w4 ⟨a2,c2,rfl,dZ,hq⟩;have ae:Bw w2 w4:=by first|exact hq|exact aO hq
 clear v0 r0 ag r1 ah;replace Hv:=af (ac9.out.below ae);replace Hr:=af (lG.out.below ae);have v0:=Hv.out.c1;obtain⟨r0,ag,r1,ah⟩:=Hr.out.g2;replace Hb:=af (aH eQ.out ae);clear ae;refine hK _ _ (λ_=>v0) ?_;clear hK K;try simp only[UU]
 iterate 2 (refine pT rfl rfl ?_;try simp only[UU])
 refine aC rfl rfl (λK hK=>?_);go_simp;refine hK _ _ (by first|exact λh=>absurd h zd|exact λ_=>v0|exact λ_=>fq zg v0) ?_;clear hK K;try simp only[UU]
 refine aC rfl rfl (λK hK=>?_);go_simp;refine hK _ _ (λh=>absurd h zd) ?_;clear hK K;try simp only[UU]
 simp only[aV];go_wp2;refine Br (Hr.out) dZ Hb.out zo ?_;intro w9 pQ lV jG;obtain⟨p0,p1⟩:=pQ.c2;exact bodyPost_ret (v:=.tuple #[.agg #[.int .i64 (V:Int),.slice a2 C.length c2],.int .i64 0]) (by simp[results,Tryz.results147,go_sem,p0,p1]) rfl ⟨_,_,rfl,xq lV (by have:=eQ.out.size;exact this),jG⟩
def vV (w:World)(a:Option Addr)(C:List aN):Prop:=C=[]\/∃b o cur,a=some ⟨b,o,none⟩/\w.heap[b]?=some (.cells cur 93)
theorem vV.below {w w':World}{a:Option Addr}{C:List aN}(h:vV w a C)(hb:Bw w w'):vV w' a C:=by
 rcases h with h|⟨b,o,cur,h1,h2⟩
 . exact .inl h
 . exact .inr ⟨b,o,cur,h1,by rw[hb.block b (Array.getElem?_eq_some_iff.1 h2).1];exact h2⟩
theorem vV.off {w:World}{a:Option Addr}{C:List aN}{g:Nat}{cur:Array Value}{t:TypeId}(h:vV w a C)(hg:w.heap[g]?=some (.cells cur t))(ht:t≠93)(i:Nat)(u:Value):vV (w.setCell ⟨g,i,none⟩ u) a C:=by
 rcases h with h|⟨b,o,cur',h1,h2⟩
 . exact .inl h
 . refine .inr ⟨b,o,cur',h1,?_⟩;have hne:b≠g:=λe=>by subst e;rw[hg]at h2;simp at h2;exact ht h2.2
   rw[Below.heap_setCell _ _ _ _ hne];exact h2
def di (w:World)(a:Option Addr)(c:Nat)(C:List aN):Prop:=At w a (C.flatMap aX)/\Sl a C.length c/\vV w a C
theorem di.below {w w':World}{a:Option Addr}{c:Nat}{C:List aN}(h:di w a c C)(hb:Bw w w'):di w' a c C:=⟨h.1.below hb,h.2.1,h.2.2.below hb⟩
theorem di.off {w:World}{a:Option Addr}{c:Nat}{C:List aN}{g:Nat}{cur:Array Value}{t:TypeId}(h:di w a c C)(hg:w.heap[g]?=some (.cells cur t))(ht:t≠93)(i:Nat)(u:Value):di (w.setCell ⟨g,i,none⟩ u) a c C:=by
 refine⟨?_,h.2.1,h.2.2.off hg ht i u⟩;rcases h.2.2 with h'|⟨b,o,cur',rfl,h2⟩
 . subst h';exact .inl rfl
 . have hne:b≠g:=λe=>by subst e;rw[hg]at h2;simp at h2;exact ht h2.2
   rcases h.1 with h1|⟨b1,o1,e1,hc⟩
   . exact .inl h1
   . simp only[Option.some.injEq,Addr.mk.injEq,and_true]at e1;obtain⟨rfl,rfl⟩:=e1;refine .inr ⟨b,o,rfl,λj hj=>?_⟩;have h9:=hc j hj;rw[List.getElem?_eq_getElem hj]at h9⊢;exact aG (.inl hne) h9
theorem di.store {w:World}{a:Option Addr}{c b:Nat}{t:TypeId}{C:List aN}{cs:List Value}(h:di w a c C)(hb:aj w b t cs)(ht:t≠93)(u v:Value):di ((w.setCell ⟨b,0,none⟩ u).setCell ⟨b,1,none⟩ v) a c C:=
 (h.off hb ht 0 u).off (hb.set 0 u) ht 1 v
theorem GV {w:World}{base c:Nat}{a:Option Addr}{C:List aN}(h:w.ownsRow base 93 4 (.slice a C.length c) C.length (C.flatMap aX)):di w a c C:=by
 obtain⟨a',c',hv,hat,_⟩:=ej h;have hs:=xp h;simp only[Value.slice.injEq,true_and]at hv;obtain⟨rfl,rfl⟩:=hv;refine⟨hat,hs,?_⟩;rcases h.2 with⟨_,h2⟩ |⟨g,cap,cur,hv,hb,hg,_⟩
 . exact .inl (List.length_eq_zero_iff.1 h2)
 . simp only[Value.slice.injEq,true_and]at hv;exact .inr ⟨g,0,cur,hv.1,hg⟩
theorem ank (V:Nat):((List.range V).map λ_=>UInt8.ofNat 0)=jO V:=by
 unfold jO;apply List.ext_getElem
 . simp
 . intro i h1 h2;simp
theorem aiT (V:Nat)(D:Dyadic)(x:Raw)(l:Nat->Dyadic)(h:ar x=D):cp [(jO V,x)]=dO V D l 0:=by unfold dO;refine yw (λm=>?_);simp only[gB,List.range_zero,List.map_nil,cB,bM,h]
theorem Ss (V:Nat)(s:Bool)(m:List UInt8)(e:Int)(D:Dyadic)(B:Nat)(l:Nat->Dyadic)(w:World)(hV:V<=12)(hf:Fit B (s,m,e))(hB:B+3<=268435456)(hT:az w)(hD:ar (s,m,e)=D):
 Calls Tryz.prog 97 #[.int .i64 (V:Int),.agg #[.bool s,.string (bs m),.int .i64 e]] w λex w'=>∃a' c',ex=.returned (.tuple #[.agg #[.int .i64 (V:Int),.slice a' (dO V D l 0).length c'],.int .i64 0])/\di w' a' c' (dO V D l 0)/\Bw w w':=by
 have hC:=aiT V D (s,m,e) l hD;obtain⟨C,LH⟩:=aB (dO V D l 0);rw[LH]at hC⊢;have hmk:=λW (hW:Bw w W) b (hb:aj W b 93 [.string (bs (jO V)),.bool s,.string (bs m),.int .i64 e])=>Xq V (some ⟨b,0,none⟩) 1 1 [(jO V,(s,m,e))] B W hV rfl zo (Sl.some _ _ _ (Nat.le_refl _)) (At.arc hb) (by intro t ht;simp at ht;subst ht;exact ZV V) (by intro t ht;simp at ht;subst ht;simp[jO];omega) (by intro t ht;simp at ht;subst ht;exact hf) zo (hT.below hW);rw[hC]at hmk;have pJ:=λW=>ES (V:Int) W;have hd:decide (0<=(V:Int)/\(V:Int)<=12)=true:=by simp;omega
 rw[hd]at pJ;have hmb:=λW=>tA (V:Int) V rfl zo W;have hcv:∀W b,Hid (aj W b 5 (cM V λ_=>0))->(convert 94 9 (.slice (some ⟨b,0,none⟩) V V)).run Tryz.prog W=.ok (.string (bs (jO V))) W:=λW b h=>by rw[<-ank];exact zV h.out V
 obtain⟨qT,AA⟩:=aI hmk pJ;clear hmk pJ hd hC LH hT hf hD;have Hb:Hid (Bw w w):=Below.refl _ _;go_enter Tryz.func97,Tryz.ntmps97;go_wp2_with fail;obtain⟨R,hR⟩:∃R:World->Prop,(λW=>aj W (w.heap.size) 39 [.bool s,.string (bs m),.int .i64 e]/\aj W (w.heap.size+1) 91 [.int .i64 0,.slice none 0 0]/\Bw w W)=R:=⟨_,rfl⟩;first|refine bP R ?hR ?_|refine bO R ?hR ?_
 case hR=>subst hR;exact⟨((aj.newAt w _ _ (b:=w.heap.size) rfl).alloc _),(aj.newAt (w.alloc _) _ _ (b:=w.heap.size+1) zm),(zl.alloc zj _)⟩
 subst hR;rintro W ⟨qc,qr,ae⟩;have Hc:=af qc;clear qc;have Hr:=af qr;clear qr;obtain⟨c0,c1,c2⟩:=Hc.out.c3;obtain⟨r0,ag,r1,ah⟩:=Hr.out.g2;replace Hb:=ak Hb ae;clear ae;go_wp2_with fail;refine(AA.out _).mono ?_;rintro e w1 ⟨rfl,ae⟩;clear c0 c1 c2 r0 ag r1 ah;replace Hc:=kB Hc ae;replace Hr:=kB Hr ae;obtain⟨c0,c1,c2⟩:=Hc.out.c3;obtain⟨r0,ag,r1,ah⟩:=Hr.out.g2;replace Hb:=ak Hb ae;clear ae;go_wp2_with fail;refine cd (λw'=>w'.cell? ⟨w.heap.size,0,none⟩=some (.bool s)/\w'.cell? ⟨w.heap.size,1,none⟩=some (.string (bs m))/\w'.cell? ⟨w.heap.size,2,none⟩=some (.int .i64 e)) (λi=>Nat.blt i 10) [(0,true),(1,true),(4,true),(2,false),(3,false),(5,true),(6,false),(7,false),(8,true),(9,true),(10,false),(11,false)] zk zk rfl zk zc ⟨c0,c1,c2⟩ ?_;iterate 3 (refine pT rfl rfl ?_ (by intro w' ⟨q0,q1,q2⟩;go_simp;try with_reducible rfl);try simp only[UU])
 refine aC rfl rfl (λK hK=>?_);go_simp;refine hK _ _ (λ_=>⟨aJ c0,aJ c1,aJ c2⟩) ?_;clear hK K;try simp only[UU]
 refine bJ (λW3=>aj W3 (w1.heap.size) 5 (cM V (λ_=>0))/\Bw w1 W3) (by first|exact cZ|exact df) ?_;rintro W3 ⟨qq,ae⟩;clear c0 c1 c2 r0 ag r1 ah;have Xf:=Hc.out.lt;have CS:=Hr.out.lt;replace Hc:=kB Hc ae;replace Hr:=kB Hr ae;have Hq:=af qq;clear qq;obtain⟨c0,c1,c2⟩:=Hc.out.c3;obtain⟨r0,ag,r1,ah⟩:=Hr.out.g2;replace Hb:=ak Hb ae;clear ae;refine aC rfl rfl (λK hK=>?_);go_simp;refine hK _ _ (λ_=>⟨c0,c1,c2⟩) ?_;clear hK K;try simp only[UU]
 refine pT rfl rfl ?_;try simp only[UU]
 refine aC rfl rfl (λK hK=>?_);go_simp;refine hK _ _ (λ_=>⟨aJ c0,aJ c1,aJ c2⟩) ?_;clear hK K;try simp only[UU]
 refine bJ (λW4=>aj W4 (W3.heap.size) 93 [.string (bs (jO V)),.bool s,.string (bs m),.int .i64 e]/\Bw W3 W4) (by first|exact cZ|exact df) ?_;rintro W4 ⟨qz,ae⟩;clear c0 c1 c2 r0 ag r1 ah;have ajh:=Hc.out.lt;have GD:=Hr.out.lt;have ap5:=Hq.out.lt;replace Hc:=kB Hc ae;replace Hr:=kB Hr ae;replace Hq:=kB Hq ae;have Hz:=af qz;clear qz;obtain⟨c0,c1,c2⟩:=Hc.out.c3;obtain⟨r0,ag,r1,ah⟩:=Hr.out.g2;obtain⟨z0,z1,z2,z3⟩:=Hz.out.c4;replace Hb:=ak Hb ae;clear ae;refine aC rfl rfl (λK hK=>?_);go_simp;with_reducible refine(qT.out _ Hb.out _ Hz.out).mono ?_
 rintro e w5 ⟨a2,d2,rfl,dZ,hq⟩;have ae:Bw W4 w5:=by first|exact hq|exact aO hq
 clear c0 c1 c2 r0 ag r1 ah z0 z1 z2 z3;replace Hc:=kB Hc ae;replace Hr:=kB Hr ae;replace Hq:=kB Hq ae;replace Hz:=kB Hz ae;obtain⟨c0,c1,c2⟩:=Hc.out.c3;obtain⟨r0,ag,r1,ah⟩:=Hr.out.g2;obtain⟨z0,z1,z2,z3⟩:=Hz.out.c4;replace Hb:=ak Hb ae;clear ae;refine hK _ _ (λ_=>⟨c0,c1,c2⟩) ?_;clear hK K;try simp only[UU]
 iterate 2 (refine pT rfl rfl ?_;try simp only[UU])
 refine aC rfl rfl (λK hK=>?_);go_simp;refine hK _ _ (by first|exact λh=>absurd h zd|exact λ_=>⟨c0,c1,c2⟩ |exact λ_=>⟨(by first|exact c0|exact aG zf c0|exact aG zf (aG zf c0) |exact aG zf (aG zf (aG zf c0))),(by first|exact c1|exact aG zf c1|exact aG zf (aG zf c1) |exact aG zf (aG zf (aG zf c1))),(by first|exact c2|exact aG zf c2|exact aG zf (aG zf c2) |exact aG zf (aG zf (aG zf c2)))⟩) ?_;clear hK K;try simp only[UU]
 refine aC rfl rfl (λK hK=>?_);go_simp;refine hK _ _ (λh=>absurd h zd) ?_;clear hK K;try simp only[UU]
 simp only[aV];go_wp2;refine Br (Hr.out) dZ Hb.out zo ?_;intro w9 pQ lV jG;obtain⟨p0,p1⟩:=pQ.c2;exact bodyPost_ret (v:=.tuple #[.agg #[.int .i64 (V:Int),.slice a2 C.length d2],.int .i64 0]) (by simp[results,Tryz.results97,go_sem,p0,p1]) rfl ⟨_,_,rfl,GV lV,jG⟩
theorem amK (V k:Nat):((List.range V).map λj=>UInt8.ofNat (if j=k then 1 else 0))=dR V k:=by
 unfold dR;apply List.ext_getElem
 . simp
 . intro i h1 h2;rw[List.getElem_map,List.getElem_range,List.getElem_set];by_cases h:k=i
   . subst h;simp
   . rw[if_neg (λe=>h e.symm),if_neg h];simp
theorem amL :Fit 1 (canon (1:Dyadic)):=Sm.one.fit zd
theorem amO (V k:Nat)(w:World)(hV:V<=12)(hk:k<V)(hT:az w):
 Calls Tryz.prog 149 #[.int .i64 (V:Int),.int .i64 (k:Int)] w λex w'=>∃a' c',ex=.returned (.tuple #[.agg #[.int .i64 (V:Int),.slice a' (cp [(dR V k,canon 1)]).length c'],.int .i64 0])/\di w' a' c' (cp [(dR V k,canon 1)])/\Bw w w':=by
 obtain⟨C,hC⟩:=aB (cp [(dR V k,canon 1)]);rw[hC];obtain⟨O,hO⟩:∃O:Dyadic,(1:Dyadic)=O:=⟨_,rfl⟩;have hmk:=λW (hW:Bw w W) b (hb:aj W b 93 [.string (bs (dR V k)),.bool (ai (dN O)),.string (bs (nt (dN O).natAbs)),.int .i64 (dE O)])=>Xq V (some ⟨b,0,none⟩) 1 1 [(dR V k,canon 1)] 1 W hV rfl zo (Sl.some _ _ _ (Nat.le_refl _)) (by rw[hO];exact At.arc hb) (by intro t ht;simp at ht;subst ht;exact OZ V k) (by intro t ht;simp at ht;subst ht;simp[dR];omega) (by intro t ht;simp at ht;subst ht;exact amL) zo (hT.below hW);rw[hC]at hmk;have hof:=λW (hW:Bw w W)=>rf 1 O hO W zd (hT.below hW);have pJ:=λW=>ES (V:Int) W;have hd:decide (0<=(V:Int)/\(V:Int)<=12)=true:=by simp;omega
 rw[hd]at pJ;have hmb:=λW=>tA (V:Int) V rfl zo W;have hcv:∀W b,Hid (aj W b 5 (cM V λj=>if j=k then 1 else 0))->(convert 94 9 (.slice (some ⟨b,0,none⟩) V V)).run Tryz.prog W=.ok (.string (bs (dR V k))) W:=λW b h=>by rw[<-amK V k];exact zV h.out V
 have bD:=λb=>zr V V k (k:Int) (rfl:(some ⟨b,0,none⟩:Option Addr)=_) hk rfl;simp only[Nat.zero_add,Nat.mul_one]at bD;have hget:(cM V λ_=>0)[k]?=some (.int .u8 0):=kx _ _ _ hk;have iI:(cM V λ_=>0).set k (.int .u8 1)=cM V λj=>if j=k then 1 else 0:=zW V _ k 1
 obtain⟨qT,ya,AA⟩:=cC hmk hof pJ;clear hmk hof pJ hd hC hT hO;have Ga:¬(k:Int)<0:=by omega
 have Hb:Hid (Bw w w):=Below.refl _ _;go_enter Tryz.func149,Tryz.ntmps149;go_wp2_with fail;obtain⟨R,hR⟩:∃R:World->Prop,(λW=>aj W (w.heap.size) 91 [.int .i64 0,.slice none 0 0]/\Bw w W)=R:=⟨_,rfl⟩;first|refine bP R ?hR ?_|refine bO R ?hR ?_
 case hR=>subst hR;exact⟨(aj.newAt w _ _ (b:=w.heap.size) rfl),zl⟩
 subst hR;rintro W ⟨qr,ae⟩;have Hr:=af qr;clear qr;obtain⟨r0,ag,r1,ah⟩:=Hr.out.g2;replace Hb:=ak Hb ae;clear ae;go_wp2_with fail;refine(AA.out _).mono ?_;rintro e w1 ⟨rfl,ae⟩;clear r0 ag r1 ah;replace Hr:=kB Hr ae;obtain⟨r0,ag,r1,ah⟩:=Hr.out.g2;replace Hb:=ak Hb ae;clear ae;go_wp2_with fail;obtain⟨R,hR⟩:∃R:World->Prop,(λW3=>aj W3 w1.heap.size 5 (cM V λj=>if j=k then 1 else 0)/\Bw w1 W3)=R:=⟨_,rfl⟩;first|refine bP R ?hR ?_|refine bO R ?hR ?_
 case hR=>subst hR;exact⟨aj.newAt w1 _ _ (b:=w1.heap.size) rfl,zl⟩
 subst hR;intro W3 ⟨qm,ae⟩;clear r0 ag r1 ah;replace Hr:=kB Hr ae;obtain⟨r0,ag,r1,ah⟩:=Hr.out.g2;replace Hb:=af (aH Hb.out ae);have Hm:=af qm;clear qm ae hget iI bD hmb;have jP:∀w',gF W3 w'->(convert 94 9 (.slice (some ⟨w1.heap.size,0,none⟩) V V)).run Tryz.prog w'=.ok (.string (bs (dR V k))) w':=λw' h=>hcv w' _ (af (Hm.out.below h));have aF:Hid (gF W3 W3):=Below.refl _ _;refine cd (λw'=>gF W3 w') (λi=>Nat.blt i 9) [(0,true),(1,true),(2,true),(3,false),(4,true),(5,false),(6,false),(7,true),(8,true),(9,false),(10,false)] zk zk rfl zk zc aF.out.drew ?_;iterate 3 (refine Ye rfl rfl (v:=?_) (λw' hw'=>?_) ?_;rotate_left;(focus have hw':=jP w' hw';go_simp;try with_reducible rfl);try simp only[UU])
 refine aC rfl rfl (λK hK=>?_);go_simp;with_reducible refine(ya.out _ (by first|exact Hb.out|exact Hb.out.drew)).mono ?_
 rintro e w4 ⟨rfl,hq⟩;have ae:Bw W3 w4:=by first|exact hq|exact aO hq
 clear r0 ag r1 ah;replace aF:=af (aF.out.below ae);replace Hr:=kB Hr ae;obtain⟨r0,ag,r1,ah⟩:=Hr.out.g2;replace Hb:=ak Hb ae;clear ae;refine hK _ _ (λ_=>aF.out) ?_;clear hK K;try simp only[UU]
 refine pT rfl rfl ?_;try simp only[UU]
 refine aC rfl rfl (λK hK=>?_);go_simp;refine hK _ _ (λ_=>by first|exact aF.out.alloc _|exact(aF.out.alloc _).drew|exact(aF.out.drew).alloc _) ?_;clear hK K;try simp only[UU]
 refine bJ (λW5=>aj W5 (w4.heap.size) 93 [.string (bs (dR V k)),.bool (ai (dN O)),.string (bs (nt (dN O).natAbs)),.int .i64 (dE O)]/\Bw w4 W5) (by first|exact cZ|exact df) ?_;rintro W5 ⟨qz,ae⟩;clear r0 ag r1 ah;have GF:=Hr.out.lt;replace aF:=af (aF.out.below ae);replace Hr:=kB Hr ae;have Hz:=af qz;clear qz;obtain⟨r0,ag,r1,ah⟩:=Hr.out.g2;obtain⟨z0,z1,z2,z3⟩:=Hz.out.c4;replace Hb:=ak Hb ae;clear ae;refine aC rfl rfl (λK hK=>?_);go_simp;with_reducible refine(qT.out _ Hb.out _ Hz.out).mono ?_
 rintro e w6 ⟨a2,d2,rfl,dZ,hq⟩;have ae:Bw W5 w6:=by first|exact hq|exact aO hq
 clear r0 ag r1 ah z0 z1 z2 z3;replace aF:=af (aF.out.below ae);replace Hr:=kB Hr ae;replace Hz:=kB Hz ae;obtain⟨r0,ag,r1,ah⟩:=Hr.out.g2;obtain⟨z0,z1,z2,z3⟩:=Hz.out.c4;replace Hb:=ak Hb ae;clear ae;refine hK _ _ (λ_=>aF.out) ?_;clear hK K;try simp only[UU]
 iterate 2 (refine pT rfl rfl ?_;try simp only[UU])
 refine aC rfl rfl (λK hK=>?_);go_simp;refine hK _ _ (by first|exact λh=>absurd h zd|exact λ_=>aF.out|exact λ_=>fq zg aF.out) ?_;clear hK K;try simp only[UU]
 refine aC rfl rfl (λK hK=>?_);go_simp;refine hK _ _ (λh=>absurd h zd) ?_;clear hK K;try simp only[UU]
 simp only[aV];go_wp2;refine Br (Hr.out) dZ Hb.out zo ?_;intro w9 pQ lV jG;obtain⟨p0,p1⟩:=pQ.c2;exact bodyPost_ret (v:=.tuple #[.agg #[.int .i64 (V:Int),.slice a2 C.length d2],.int .i64 0]) (by simp[results,Tryz.results149,go_sem,p0,p1]) rfl ⟨_,_,rfl,GV lV,jG⟩
end Go.Proofs.YtoopepmmepmfnaaGreatDoor
