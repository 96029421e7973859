/- Package bound: begin,halve,may,Order. -/
import Derived.Test.YtoopepmmepmfnaaGreatDoorZ13
import Derived.Test.YtoopepmmepmfnaaGreatDoorZ11
import Derived.Test.YtoopepmmepmfnaaGreatDoorZ12
set_option linter.unusedVariables false
set_option linter.unusedSimpArgs false
set_option maxRecDepth 100000
set_option maxHeartbeats 16000000
namespace Go.Proofs.YtoopepmmepmfnaaGreatDoor
open Go.RowKit
attribute [local go_sem ↓] Go.wp_at_zero Go.wp_at_succ
def gN (f:Nat->Nat)(n:Nat):List Value:=(List.range n).map λi=>.int .i64 (f i:Int)
theorem Ds (f:Nat->Nat)(n:Nat):(gN f n).length=n:=by simp[gN]
theorem Iz (f:Nat->Nat)(n i:Nat)(h:i<(gN f n).length):(gN f n)[i]=.int .i64 (f i:Int):=by simp[gN]
theorem ZF (f:Nat->Nat)(n a:Nat)(v:Int)(hv:v=((f a+1:Nat):Int)):(gN f n).set a (.int .i64 v)=gN (λi=>f i+if i=a then 1 else 0) n:=by
 subst hv;apply List.ext_getElem?;intro j;rw[List.getElem?_set,Ds];by_cases h:j<n
 . by_cases e:a=j
   . subst e;simp[gN,h]
   . simp[gN,h,e,Ne.symm e]
 . by_cases e:a=j
   . subst e;simp[gN,h]
   . simp[gN,h,e]
theorem amL (n:Nat):List.replicate n (Value.int .i64 0)=gN (λ_=>0) n:=by
 apply List.ext_getElem?;intro j;by_cases h:j<n
 . simp[gN,h]
 . simp[gN,h]
theorem Tryz.arK :(Tryz.prog.info? 3).map (λi=>(i.zero,i.size,i.bytes))=some (some (.int .i64 0),1,8):=by kernel_rfl
theorem XO (c:Int)(n:Nat)(hc:c=n)(h:n<=1048576)(w:World):
 (Instr.makeSlice 26 (.int .i64 c) (.int .i64 c)).run Tryz.prog w=.ok (.slice (some ⟨w.heap.size,0,none⟩) n n) (w.alloc (.cells (gN (λ_=>0) n).toArray 3)):=by
 subst hc;obtain⟨i0,hi,hz0,hz1,hz2⟩:=info_parts Tryz.arK;rw[run_make (P:=Tryz.prog) w 26 3 i0 _ Tryz.underlying26 hi hz0 .i64 .i64 n n zo zo (by rw[hz2];omega) zo];simp only[Int.toNat_natCast,hz1,Nat.mul_one];rw[<-amL,<-toList_madeCells_one];simp[Value.cells]
def kU (w:World)(top xb ib L:Nat)(bx:List (Raw×Raw))(t:Nat->Nat):Prop:=
 ∃a c,aj w xb 75 [.slice a L c,.slice (some ⟨ib,0,none⟩) L L]/\At w a (bx.flatMap bJ)/\aj w ib 3 (gN t L)/\(∀b o,a=some ⟨b,o,none⟩->b≠xb/\b≠ib/\(b<top\/∃cs,aj w b 61 cs))/\xb≠ib
theorem kU.below {w w':World}{top xb ib L:Nat}{bx:List (Raw×Raw)}{t:Nat->Nat}(h:kU w top xb ib L bx t)(hb:Bw w w'):kU w' top xb ib L bx t:=by
 obtain⟨a,c,h1,h2,h3,h4,h5⟩:=h;refine⟨a,c,h1.below hb,h2.below hb,h3.below hb,λb o e=>⟨(h4 b o e).1,(h4 b o e).2.1,?_⟩,h5⟩;rcases(h4 b o e).2.2 with h|⟨cs,h⟩
 . exact .inl h
 . exact .inr ⟨cs,h.below hb⟩
theorem kU.row {w w':World}{top xb ib L base size k:Nat}{bx:List (Raw×Raw)}{t:Nat->Nat}{v:Value}{xs:List Value}(h:kU w top xb ib L bx t)(hr:w.ownsRow base 3 size v k xs)(h1:top<=base)(h2:xb<base)(h3:ib<base)(hg:w.grownBy w' v.ownBlock):kU w' top xb ib L bx t:=by
 obtain⟨a,c,q1,q2,q3,q4,q5⟩:=h;have hlo:∀b,b<base->some b≠v.ownBlock:=λb hb e=>by have:=eI hr b e.symm;omega
 have hne:∀b o,a=some ⟨b,o,none⟩->some b≠v.ownBlock:=λb o e=>by
  rcases(q4 b o e).2.2 with h|⟨cs,h⟩
  . exact hlo b zo
  . exact h.not_row zd hr
 refine⟨a,c,q1.grown hg (hlo _ h2),q2.grown hg hne,q3.grown hg (hlo _ h3),λb o e=>⟨(q4 b o e).1,(q4 b o e).2.1,?_⟩,q5⟩;rcases(q4 b o e).2.2 with h|⟨cs,h⟩
 . exact .inl h
 . exact .inr ⟨cs,h.grown hg (hne b o e)⟩
theorem Su (a:Option Addr)(L cap:Nat)(bx:List (Raw×Raw))(w:World)(hL:bx.length=L)(h1:1<=L)(hl:L<=1000)(ha:At w a (bx.flatMap bJ)):
 Calls Tryz.prog 33 #[.slice a L cap] w λe w'=>∃xb ib,e=.returned (.pointer (some ⟨xb,0,none⟩))/\w.heap.size<=xb/\w.heap.size<=ib/\xb<w'.heap.size/\ib<w'.heap.size/\kU w' w.heap.size xb ib L bx (λ_=>0)/\Bw w w':=by
 have hmk:=XO (L:Int) L rfl zo;have hab:∀b o,a=some ⟨b,o,none⟩->b<w.heap.size:=λb o e=>by subst e;exact ha.lt (by intro h0;have h9:=congrArg List.length h0;rw[Dn,List.length_nil]at h9;omega)
 have Ha:=af ha;clear ha hL;have Hb:Hid (Bw w w):=Below.refl _ _;go_enter Tryz.func33,Tryz.ntmps33;go_wp2;refine dx (λw9=>aj w9 (w.heap.size+1) 75 [.slice a L cap,.slice (some ⟨w.heap.size,0,none⟩) L L]/\aj w9 w.heap.size 3 (gN (λ_=>0) L)/\Bw w w9) ⟨aj.newAt _ _ _ zm,(aj.newAt _ _ _ rfl).alloc _,((Below.refl _ w).alloc (Nat.le_refl _) _).alloc zm _⟩ ?_;rintro w9 ⟨hx,hi,hb⟩;refine bodyPost_ret (results_tmp rfl _ _ _) rfl ⟨w.heap.size+1,w.heap.size,rfl,by omega,Nat.le_refl _,hx.lt,hi.lt,⟨a,cap,hx,Ha.out.below hb,hi,λb o e=>?_,by omega⟩,hb⟩;have:=hab b o e;exact⟨by omega,by omega,.inl this⟩
theorem SI {Y:Nat->Prop}{w W:World}(h:Chg Y w W)(b i:Nat)(v:Value)(hy:Y b):Chg Y w (W.setCell ⟨b,i,none⟩ v):=
 ⟨h.os,h.tape,h.output,by show w.heap.size<=(W.setCell _ _).heap.size;rw[show(W.setCell ⟨b,i,none⟩ v).heap.size=W.heap.size from by unfold World.setCell;simp];exact h.size,λk hk hn=>(Below.heap_setCell W ⟨b,i,none⟩ v k (λe=>hn (by rw[e];exact hy))).trans (h.block k hk hn)⟩
theorem At.chgS {Y:Nat->Prop}{w w':World}{a:Option Addr}{cs:List Value}(h:At w a cs)(hc:Chg Y w w')(hy:∀b o,a=some ⟨b,o,none⟩->¬Y b):At w' a cs:=by
 rcases h with h|⟨b,o,ha,hcs⟩
 . exact .inl h
 . refine .inr ⟨b,o,ha,λj hj=>?_⟩;have h1:=hcs j hj;rw[List.getElem?_eq_getElem hj]at h1⊢;exact hc.cell h1 (hy b o ha)
theorem At.so {w:World}{a:Option Addr}{cs:List Value}(h:At w a cs)(p i:Nat)(hne:∀b o,a=some ⟨b,o,none⟩->p≠b)(v:Value):At (w.setCell ⟨p,i,none⟩ v) a cs:=by
 rcases h with h|⟨b,o,ha,hcs⟩
 . exact .inl h
 . refine .inr ⟨b,o,ha,λj hj=>?_⟩;have h1:=hcs j hj;rw[List.getElem?_eq_getElem hj]at h1⊢;exact fp (by have:=hne b o ha;dsimp only;omega) h1
theorem al7 (top xb ib L B:Nat)(bx:List (Raw×Raw))(t:Nat->Nat)(w:World)(hL:bx.length=L)(h1:1<=L)(hl:L<=1000)(hf:gU B bx)(hB:B<=1000000)(ht:∀i,t i<=1000000)(hS:kU w top xb ib L bx t)(hT:az w):
 Calls Tryz.prog 34 #[.pointer (some ⟨xb,0,none⟩)] w λe w'=>e=.returned (.int .i64 (mN (bx.map bj):Int))/\kU w' top xb ib L ((mZ (bx.map bj) (mN (bx.map bj)) false).map dK) (λi=>t i+if i=mN (bx.map bj)then 1 else 0)/\Chg (λb=>b=xb\/b=ib) w w':=by
 obtain⟨a,c,NS,hat,hib,hab,hne⟩:=hS;obtain⟨ax,rJ⟩:=aB (mN (bx.map bj));have ME:ax<L:=by rw[<-rJ];unfold mN;have h9:=(Be (λi=>oL ((bx.map bj).getD i (0,0))) (bx.map bj).length (by rw[List.length_map,hL];exact h1)).1;rw[List.length_map,hL]at h9⊢;exact h9
 have mD:=λW (hW:Bw w W)=>aeO a L c B bx W hL h1 hl hf hB (hat.below hW) (hT.below hW);have uI:=λW (hW:Bw w W)=>aeM a L c B bx ax W hL ME hl hf hB (hat.below hW) (hT.below hW);rw[rJ]at mD⊢;have hst:=ZF t L ax ((t ax:Int)+1) zo;have NE:=ht ax;have hxl:=NS.lt;have hil:=hib.lt;obtain⟨G,hG⟩:=aB ((mZ (bx.map bj) ax false).map dK);rw[hG]at uI⊢;obtain⟨Er,Ee,bX,Hx,Hi⟩:=gT mD uI hst NS hib;clear mD uI hst NS hat hib hab rJ hG hf hL ht hT;have Hb:Hid (Bw w w):=Below.refl _ _;go_enter Tryz.func34,Tryz.ntmps34;obtain⟨x0,x1⟩:=Hx.out.c2;go_wp2_with fail;refine(Er.out _ Hb.out).mono ?_;rintro e w1 ⟨rfl,ae⟩;clear x0 x1;replace Hx:=kB Hx ae;replace Hi:=kB Hi ae;obtain⟨x0,x1⟩:=Hx.out.c2;replace Hb:=ak Hb ae;clear ae;have bN:=Hb;have rY:=Hb.out.size;have hwx:w.heap.size<=w1.heap.size:=rY;go_upto_region 2 with fail
 go_cut[] (λwx=>∃g1:Nat,w.heap.size<=g1/\aj wx xb 75 [.slice (some ⟨g1,0,none⟩) L L,.slice (some ⟨ib,0,none⟩) L L]/\aj wx ib 3 (gN t L)/\aj wx g1 61 (G.flatMap bJ)/\Chg (λb=>b=xb\/b=ib) w wx);case first=>go_wp2_with fail;refine(Ee.out _ Hb.out).mono ?_;rintro e w2 ⟨g1,g2,rfl,hg1,hg2,ht1,ht2,ae⟩;clear x0 x1;replace Hx:=kB Hx ae;replace Hi:=kB Hi ae;obtain⟨x0,x1⟩:=Hx.out.c2;replace Hb:=ak Hb ae;clear ae;have ye:=af ht1;have f0:=Hx.out.free 0;clear ht1 ht2;go_wp2_with fail;go_meet;exact⟨g1,by omega,Hx.out.set 0 _,Hi.out.so xb 0 hne _,ye.out.so xb 0 zo _,SI (Chg.of_below Hb.out) xb 0 _ (.inl rfl)⟩
 case rest=>
  obtain⟨g1,hg1,qx,qi,qt,qb⟩:=hcut;obtain⟨Hx,Hi,ye,Hb⟩:=cQ qx qi qt qb;obtain⟨i0,fi0⟩:=uv qi ax (by rw[Ds];exact ME);rw[Iz]at i0;clear qx qi qt qb bN Er Ee x0 x1;have bB:=nu L L ax (ax:Int) (rfl:(some ⟨ib,0,none⟩:Option Addr)=_) ME rfl;rw[Nat.mul_one,Nat.zero_add]at bB;have hwr:IntKind.i64.wrap ((t ax:Int)+1)=(t ax:Int)+1:=by rw[IntKind.wrap_i64];omega
  obtain⟨x0,x1⟩:=Hx.out.c2;go_wp2;refine dx (λw9=>aj w9 xb 75 [.slice (some ⟨g1,0,none⟩) L L,.slice (some ⟨ib,0,none⟩) L L]/\aj w9 ib 3 ((gN t L).set ax (.int .i64 ((t ax:Int)+1)))/\aj w9 g1 61 (G.flatMap bJ)/\Chg (λb=>b=xb\/b=ib) w w9) ⟨Hx.out.so ib ax hne.symm _,Hi.out.set ax _,ye.out.so ib ax zo _,SI Hb.out ib ax _ (.inr rfl)⟩ ?_;rintro w9 ⟨hx9,Vw,Gw,jO⟩;rw[bX.out]at Vw;refine bodyPost_ret (results_tmp rfl _ _ _) rfl ⟨rfl,⟨_,_,hx9,At.arA Gw,Vw,λb o e=>?_,hne⟩,jO⟩;simp only[Option.some.injEq,Addr.mk.injEq,and_true]at e;obtain⟨rfl,_⟩:=e;exact⟨by omega,by omega,.inr ⟨_,Gw⟩⟩
theorem Tryz.arL :(Tryz.prog.info? 93).map (λi=>(i.zero,i.size,i.bytes))=some (some (.agg #[.string (bs []),.bool false,.string (bs []),.int .i64 0]),4,48):=by kernel_rfl
theorem zP (ts:List aO):(ts.flatMap bf).length=ts.length*4:=mf bf 4 (λ_=>rfl) ts
theorem Py (ts:List aO):∀u∈ts.flatMap bf,u.oneCell'=true:=by intro u hu;obtain⟨r,_,hr⟩:=List.mem_flatMap.1 hu;simp only[bf,List.mem_cons,List.not_mem_nil,or_false]at hr;rcases hr with rfl|rfl|rfl|rfl<;>rfl
theorem Px (t:aO)(ts:List aO):(t::ts).flatMap bf=bf t++ts.flatMap bf:=List.flatMap_cons
theorem At.tail {w:World}{b o c:Nat}{x:aO}{ts:List aO}(h:At w (some ⟨b,o,none⟩) ((x::ts).flatMap bf))(hc:ts.length+1<=c):At w (if c=1 then some ⟨b,o,none⟩else some ⟨b,o+4,none⟩) (ts.flatMap bf):=by
 have hk:=At.cut (k:=1) (size:=4) (n:=ts.length+1) (cap:=c) h (by rw[zP];rfl) zo hc;have e:((x::ts).flatMap bf).drop (1*4)=ts.flatMap bf:=by rw[Px];rfl
 rw[e]at hk;exact hk
theorem Sl.tail {b o c n:Nat}(h:Sl (Option.some ⟨b,o,none⟩) (n+1) c):Sl (if c=1 then Option.some (⟨b,o,none⟩:Addr)else Option.some ⟨b,o+4,none⟩) n (c-1):=by refine⟨by have:=h.1;omega,λe=>?_⟩;split at e<;>cases e
theorem al9 (l l':List UInt8):(tX l l'= -1/\Op.bytesLess l l'=true)\/(tX l l'=1/\Op.bytesLess l l'=false/\Op.bytesLess l' l=true)\/(tX l l'=0/\Op.bytesLess l l'=false/\Op.bytesLess l' l=false):=by
 unfold tX;cases h1:Op.bytesLess l l' with
 |true=>exact .inl ⟨by simp,rfl⟩
 | false=>
   cases h2:Op.bytesLess l' l with
   |true=>exact .inr (.inl ⟨by simp,rfl,rfl⟩)
   |false=>exact .inr (.inr ⟨by simp,rfl,rfl⟩)
theorem XK (a:Option Addr)(n cap:Nat)(ta:List aO)(a':Option Addr)(n' cap':Nat)(tb:List aO)(B:Nat)(w:World)(hn:ta.length=n)(hn':tb.length=n')(hs:Sl a n cap)(hs':Sl a' n' cap')(hl:n<=65536)(hl':n'<=65536)(ha:At w a (ta.flatMap bf))(ha':At w a' (tb.flatMap bf))
 (pR:∀t∈ta,Fit B t.2) (uG:∀t∈tb,Fit B t.2) (hB:B+2<=268435456) (hT:az w):
 Calls Tryz.prog 154 #[.slice a n cap,.slice a' n' cap',.func (.func 155) #[] #[],.func (.func 156) #[] #[]] w λe w'=>∃v',e=.returned v'/\w'.ownsRow w.heap.size 93 4 v' (fR ta tb).length ((fR ta tb).flatMap bf)/\Bw w w':=by
 obtain⟨i0,hi,hz0,hz1,hz2⟩:=info_parts Tryz.arL;obtain⟨M,hM⟩:=aB (fR ta tb);have BF:=enters_of Tryz.func155 zk rfl;have BD:=enters_of Tryz.func156 zk rfl;rw[hM];obtain⟨Hi,fg,fh,ey,HM,JH,JG,Hs,Rz,Ha,ue,Aw⟩:=ij hi hz0 hz1 hz2 hM BF BD hs hs' ha ha' pR;obtain⟨Ax,HT,Hn,Rm⟩:=cQ uG hT hn hn';obtain⟨N,hN⟩:=aB (n+n');have Uf:(n:Int)+(n':Int)=(N:Int):=by omega
 have HN:=af hN;clear hi hz0 hz1 hz2 hM BF BD hs hs' ha ha' pR uG hT hn hn' hN;have hN1:N<=131072:=by have:=HN.out;omega
 go_enter Tryz.func154,Tryz.ntmps154;go_wp2_with (at_make;refine wpList_make_own _ rfl _ _ 89 rfl w.heap.size 93 i0 _ 4 Tryz.underlying89 Hi.out fg.out fh.out _ _ _ N rfl rfl (by first|exact Uf|rfl) (by rw[ey.out];omega) zx (Nat.le_refl _) ?_;intro w1 hown hgrow);obtain⟨hb1,mU⟩:=aI ((Below.refl w.heap.size w).grown hgrow (Nat.le_refl _) (by intro k hk;cases hk)) hown;clear hown hgrow Uf
 go_loopw[0,1,9] (λva vb vo wr=>∃(ra rb acc:List aO) (p q ca cb:Nat) (aa ab:Option Addr) (v:Value),v=vo/\va=.slice aa p ca/\vb=.slice ab q cb/\ra.length=p/\rb.length=q/\Sl aa p ca/\Sl ab q cb/\At w aa (ra.flatMap bf)/\At w ab (rb.flatMap bf)/\
  (∀t∈ra,Fit B t.2)/\(∀t∈rb,Fit B t.2)/\wr.ownsRow w.heap.size 93 4 v acc.length (acc.flatMap bf)/\acc.length+p+q<=N/\acc++fR ra rb=M/\Bw w wr) (λva vb _ _=>(uW va+uW vb).toNat)
 case atStart=>exact⟨ta,tb,[],n,n',cap,cap',a,a',_,rfl,rfl,rfl,Hn.out,Rm.out,Hs.out,Rz.out,Ha.out,ue.out,Aw.out,Ax.out,mU.out,by rw[<-HN.out];simp,by simpa using HM.out,hb1.out⟩
 case round=>
  clear hb1 mU Ha ue Hs Rz Aw Ax Hn Rm HM;obtain⟨ra,rb,acc,p,q,ca,cb,aa,ab,v,rfl,rfl,rfl,tv,jy,hsa,wW,hat,hat',pR,uG,hov,hlen,hM,pb⟩:=hrel;by_cases hpq:0<p/\0<q
  . obtain ⟨hp,hq⟩:=hpq;obtain⟨x,ra,rfl⟩:∃x l,ra=x::l:=by cases ra with
     |nil=>simp at tv;omega
     |cons x l=>exact⟨x,l,rfl⟩
    obtain⟨y,rb,rfl⟩:∃x l,rb=x::l:=by cases rb with
     |nil=>simp at jy;omega
     |cons x l=>exact⟨x,l,rfl⟩
    obtain⟨l,s,m,e⟩:=x;obtain⟨l',s',m',e'⟩:=y;obtain⟨p,rfl⟩:∃p',p=p'+1:=⟨p-1,by omega⟩;obtain⟨q,rfl⟩:∃q',q=q'+1:=⟨q-1,by omega⟩;have jf:=pR (l,s,m,e) zm;have pV:=uG (l',s',m',e') zm;have Vh:∀t∈ra,Fit B t.2:=λt ht=>pR t (by simp[ht]);have Vi:∀t∈rb,Fit B t.2:=λt ht=>uG t (by simp[ht]);obtain⟨b1,o1,rfl,hw1⟩:=(hat.below pb).term 0 zm rfl;obtain⟨b2,o2,rfl,hw2⟩:=(hat'.below pb).term 0 zm rfl;simp only[Nat.zero_mul,Nat.add_zero]at hw1 hw2;have oG:b1<w.heap.size:=hat.lt (by rw[Px];simp[bf]);have lG:b2<w.heap.size:=hat'.lt (by rw[Px];simp[bf]);have NE:=hat.tail (c:=ca) (by have:=hsa.1;simp at tv;omega);have qo:=hat'.tail (c:=cb) (by have:=wW.1;simp at jy;omega);have Wx:=hsa.tail;have Wy:=wW.tail;have GF:=rM (p+1) ca 0 0 (rfl:(some ⟨b1,o1,none⟩:Option Addr)=_) zo rfl;have GG:=rM (q+1) cb 0 0 (rfl:(some ⟨b2,o2,none⟩:Option Addr)=_) zo rfl;rw[Nat.zero_mul,Nat.add_zero]at GF GG;have hca:p+1<=ca:=hsa.1;have hcb:q+1<=cb:=wW.1;have Kq:Hid (ra.length=p):=by show _=_;simpa using tv
    have vO:Hid (rb.length=q):=by show _=_;simpa using jy
    obtain⟨Kr,Ks,RD,RF,RG,yf,eJ,abe,mR,oP,Aw,Ax⟩:=ij hsa wW Wx Wy NE qo hat hat' jf pV Vh Vi;obtain⟨abF,abG,dW,HM,aZ,vG⟩:=iD pR uG hov hM pb (HT.out.below pb);have Hx:Hid (bO wr b1 o1 [.string (bs l),.bool s,.string (bs m),.int .i64 e]):=hw1;have Hy:Hid (bO wr b2 o2 [.string (bs l'),.bool s',.string (bs m'),.int .i64 e']):=hw2;have Wo:=tv;have Wp:=jy;simp only[List.length_cons]at Wo Wp;clear tv jy hsa wW hat hat' pR uG hov hM pb jf pV Vh Vi hw1 hw2 NE qo Wx Wy Wo Wp;have Hb:Hid (Bw wr wr):=Below.refl _ _;have LC:=JH.out;have lL:=aZ.out.size;obtain⟨gs,mA⟩:∃g,tX l l'=g:=⟨_,rfl⟩;have Ny:=λW=>ama l s m e l' s' m' e' W;have hcs:=al9 l l';rw[mA]at Ny hcs;obtain⟨RB,DX⟩:=aI Ny hcs;clear Ny hcs mA;go_wp2_with fail;obtain⟨x0,x1,x2,x3⟩:=Hx.out.w4;obtain⟨y0,y1,y2,y3⟩:=Hy.out.w4;have HU:Hid (az wr):=vG.out;refine bW (λw'=>w'.cell? ⟨b1,o1,none⟩=some (.string (bs l))/\w'.cell? ⟨b1,o1+1,none⟩=some (.bool s)/\w'.cell? ⟨b1,o1+2,none⟩=some (.string (bs m))/\w'.cell? ⟨b1,o1+3,none⟩=some (.int .i64 e)/\w'.cell? ⟨b2,o2,none⟩=some (.string (bs l'))/\w'.cell? ⟨b2,o2+1,none⟩=some (.bool s')/\w'.cell? ⟨b2,o2+2,none⟩=some (.string (bs m'))/\w'.cell? ⟨b2,o2+3,none⟩=some (.int .i64 e')) (λi=>Nat.blt i 100000) [(0,true),(1,true),(2,true),(3,true),(4,true),(5,true),(6,true),(7,false),(8,true)] zk zk rfl zk zc ⟨x0,x1,x2,x3,y0,y1,y2,y3⟩ ?_;iterate 7 (refine pT rfl rfl ?_ (by intro w' ⟨q0,q1,q2,q3,q4,q5,q6,q7⟩;go_simp;try with_reducible rfl);try simp only[UU])
    refine aC rfl rfl (λK hK=>?_);go_simp;with_reducible refine(RB.out _).mono ?_
    rintro e w2 ⟨rfl,hq⟩;have ae:Bw wr w2:=by first|exact hq|exact aM hq
    clear x0 x1 x2 x3 y0 y1 y2 y3;replace Hx:=kW Hx ae;replace Hy:=kW Hy ae;replace HU:=kT HU ae;obtain⟨x0,x1,x2,x3⟩:=Hx.out.w4;obtain⟨y0,y1,y2,y3⟩:=Hy.out.w4;replace Hb:=ak Hb ae;clear ae;refine hK _ _ (λ_=>⟨x0,x1,x2,x3,y0,y1,y2,y3⟩) ?_;clear hK K;try simp only[UU]
    refine pT rfl rfl ?_;try simp only[UU]
    simp only[aV];have hcs:=DX.out;have hp1:(1:Int)<=(p:Int)+1:=by omega
    have hq1:(1:Int)<=(q:Int)+1:=by omega
    clear DX RB LC;rcases hcs with⟨rfl,h1⟩ |⟨rfl,h1,h2⟩ |⟨rfl,h1,h2⟩
    . have vF:Hid ((acc++[(l,s,m,e)])++fR ra ((l',s',m',e')::rb)=M):=by
       show _=_
       rw[<-HM.out,vp,if_pos h1];simp
      have vD:Hid ((acc++[(l,s,m,e)]).flatMap bf=acc.flatMap bf++[.string (bs l),.bool s,.string (bs m),.int .i64 e]):=by
       show _=_
       rw[List.flatMap_append];rfl
      clear h1;go_wp2_with fail;refine bW (λw'=>w'.cell? ⟨b1,o1,none⟩=some (.string (bs l))/\w'.cell? ⟨b1,o1+1,none⟩=some (.bool s)/\w'.cell? ⟨b1,o1+2,none⟩=some (.string (bs m))/\w'.cell? ⟨b1,o1+3,none⟩=some (.int .i64 e)) (λi=>Nat.blt i 100000) [(0,true),(1,true),(2,true),(3,true),(6,true),(7,true),(4,false),(5,false),(8,true),(9,true)] zk zk rfl zk zc ⟨x0,x1,x2,x3⟩ ?_;iterate 6 (refine pT rfl rfl ?_ (by intro w' ⟨q0,q1,q2,q3⟩;go_simp;try with_reducible rfl);try simp only[UU])
      refine aC rfl rfl (λK hK=>?_);go_simp;refine hK _ _ (λ_=>⟨aJ x0,aJ x1,aJ x2,aJ x3⟩) ?_;clear hK K;try simp only[UU]
      refine bI (λW3=>aj W3 (w2.heap.size) 93 [.string (bs l),.bool s,.string (bs m),.int .i64 e]/\Bw w2 W3) (by first|exact cS|exact cV) ?_;rintro W3 ⟨qc,ae⟩;clear x0 x1 x2 x3 y0 y1 y2 y3;replace Hx:=kW Hx ae;replace Hy:=kW Hy ae;replace HU:=kT HU ae;have Hc:=af qc;clear qc;obtain⟨x0,x1,x2,x3⟩:=Hx.out.w4;obtain⟨y0,y1,y2,y3⟩:=Hy.out.w4;obtain⟨c0,c1,c2,c3⟩:=Hc.out.c4;replace Hb:=ak Hb ae;clear ae;refine aC rfl rfl (λK hK=>?_);have mC:=ownsRow_below dW.out Hb.out;have hs3:=Hb.out.size;refine wp_append_own _ _ _ 89 rfl w.heap.size 93 i0 _ 4 48 Tryz.underlying89 Hi.out fg.out fh.out ey.out rfl zd v acc.length (acc.flatMap bf) rfl mC ⟨w2.heap.size,0,none⟩ 1 1 [.string (bs l),.bool s,.string (bs m),.int .i64 e] rfl rfl (jK Hc.out) zy zx zo zo ?_;intro v' w8 ky dH _;have nb:∀b,b<w.heap.size->some b≠v.ownBlock:=λb hb e=>by have:=eI mC b e.symm;omega
      refine hK _ _ (λ_=>⟨fq dH x0 (nb _ oG),fq dH x1 (nb _ oG),fq dH x2 (nb _ oG),fq dH x3 (nb _ oG)⟩) ?_;clear hK K;try simp only[UU]
      iterate 2 (refine pT rfl rfl ?_;try simp only[UU])
      simp only[aV];have Ak:=af ((aH aZ.out Hb.out).grown dH zo (λj e=>eI mC j e));have vM:Hid (w8.ownsRow w.heap.size 93 4 v' (acc++[(l,s,m,e)]).length ((acc++[(l,s,m,e)]).flatMap bf)):=by
       show w8.ownsRow _ _ _ _ _ _
       rw[vD.out,List.length_append];exact ky
      clear nb mC ky dH x0 x1 x2 x3 y0 y1 y2 y3 c0 c1 c2 c3 GF GG;go_wp2;go_roundw;case rel=>exact⟨ra,((l',s',m',e')::rb),acc++[(l,s,m,e)],p,(q+1),_,_,_,_,v',rfl,rfl,rfl,Kq.out,(by have:=vO.out;simp;exact this),RD.out,Ks.out,RG.out,abe.out,Aw.out,abG.out,vM.out,by simp;omega,vF.out,Ak.out⟩
      case measure=>simp[uW];omega
    ·
     have vF:Hid ((acc++[(l',s',m',e')])++fR ((l,s,m,e)::ra) rb=M):=by
      show _=_
      rw[<-HM.out,vp,if_neg (by rw[h1];decide),if_pos h2];simp
     have vD:Hid ((acc++[(l',s',m',e')]).flatMap bf=acc.flatMap bf++[.string (bs l'),.bool s',.string (bs m'),.int .i64 e']):=by
      show _=_
      rw[List.flatMap_append];rfl
     clear h1 h2
     go_wp2_with fail
     refine bW (λw'=>w'.cell? ⟨b2,o2,none⟩=some (.string (bs l'))/\w'.cell? ⟨b2,o2+1,none⟩=some (.bool s')/\w'.cell? ⟨b2,o2+2,none⟩=some (.string (bs m'))/\w'.cell? ⟨b2,o2+3,none⟩=some (.int .i64 e')) (λi=>Nat.blt i 100000) [(0,true),(1,true),(2,true),(3,true),(6,true),(7,true),(4,false),(5,false),(8,true),(9,true)] zk zk rfl zk zc ⟨y0,y1,y2,y3⟩ ?_
     iterate 6 (refine pT rfl rfl ?_ (by intro w' ⟨q0,q1,q2,q3⟩;go_simp;try with_reducible rfl);try simp only[UU])
     refine aC rfl rfl (λK hK=>?_)
     go_simp
     refine hK _ _ (λ_=>⟨aJ y0,aJ y1,aJ y2,aJ y3⟩) ?_;clear hK K
     try simp only[UU]
     refine bI (λW3=>aj W3 (w2.heap.size) 93 [.string (bs l'),.bool s',.string (bs m'),.int .i64 e']/\Bw w2 W3) (by first|exact cS|exact cV) ?_
     rintro W3 ⟨qc,ae⟩
     clear x0 x1 x2 x3
     clear y0 y1 y2 y3
     replace Hx:=kW Hx ae
     replace Hy:=kW Hy ae
     replace HU:=kT HU ae
     have Hc:=af qc;clear qc
     obtain⟨x0,x1,x2,x3⟩:=Hx.out.w4
     obtain⟨y0,y1,y2,y3⟩:=Hy.out.w4
     obtain⟨c0,c1,c2,c3⟩:=Hc.out.c4
     replace Hb:=ak Hb ae;clear ae
     refine aC rfl rfl (λK hK=>?_)
     have mC:=ownsRow_below dW.out Hb.out
     have hs3:=Hb.out.size
     refine wp_append_own _ _ _ 89 rfl w.heap.size 93 i0 _ 4 48 Tryz.underlying89 Hi.out fg.out fh.out ey.out rfl zd v acc.length (acc.flatMap bf) rfl mC ⟨w2.heap.size,0,none⟩ 1 1 [.string (bs l'),.bool s',.string (bs m'),.int .i64 e'] rfl rfl (jK Hc.out) zy zx zo zo ?_
     intro v' w8 ky dH _
     have nb:∀b,b<w.heap.size->some b≠v.ownBlock:=λb hb e=>by have:=eI mC b e.symm;omega
     refine hK _ _ (λ_=>⟨fq dH y0 (nb _ lG),fq dH y1 (nb _ lG),fq dH y2 (nb _ lG),fq dH y3 (nb _ lG)⟩) ?_;clear hK K
     try simp only[UU]
     iterate 2 (refine pT rfl rfl ?_;try simp only[UU])
     simp only[aV]
     have Ak:=af ((aH aZ.out Hb.out).grown dH zo (λj e=>eI mC j e))
     have vM:Hid (w8.ownsRow w.heap.size 93 4 v' (acc++[(l',s',m',e')]).length ((acc++[(l',s',m',e')]).flatMap bf)):=by
      show w8.ownsRow _ _ _ _ _ _
      rw[vD.out,List.length_append];exact ky
     clear nb mC ky dH x0 x1 x2 x3 y0 y1 y2 y3 c0 c1 c2 c3 GF GG
     go_wp2
     go_roundw
     case rel=>exact⟨((l,s,m,e)::ra),rb,acc++[(l',s',m',e')],(p+1),q,_,_,_,_,v',rfl,rfl,rfl,(by have:=Kq.out;simp;exact this),vO.out,Kr.out,RF.out,eJ.out,yf.out,abF.out,Ax.out,vM.out,by simp;omega,vF.out,Ak.out⟩
     case measure=>simp[uW];omega
    ·
     obtain⟨S,hS⟩:=aB (ar (s,m,e)+ar (s',m',e'))
     have HS:=af hS
     have vF:Hid ((acc++[(l,canon S)])++fR ra rb=M):=by
      show _=_
      rw[<-HM.out,vp,if_neg (by rw[h1];decide),if_neg (by rw[h2];decide)];simp;rw[<-hS];rfl
     have vD:Hid ((acc++[(l,canon S)]).flatMap bf=acc.flatMap bf++[.string (bs l),.bool (ai (dN S)),.string (bs (nt (dN S).natAbs)),.int .i64 (dE S)]):=by
      show _=_
      rw[List.flatMap_append];rfl
     clear h1 h2 hS
     have EW:=JG.out
     go_wp2_with fail
     refine bW (λw'=>w'.cell? ⟨b1,o1,none⟩=some (.string (bs l))/\w'.cell? ⟨b1,o1+1,none⟩=some (.bool s)/\w'.cell? ⟨b1,o1+2,none⟩=some (.string (bs m))/\w'.cell? ⟨b1,o1+3,none⟩=some (.int .i64 e)/\w'.cell? ⟨b2,o2,none⟩=some (.string (bs l'))/\w'.cell? ⟨b2,o2+1,none⟩=some (.bool s')/\w'.cell? ⟨b2,o2+2,none⟩=some (.string (bs m'))/\w'.cell? ⟨b2,o2+3,none⟩=some (.int .i64 e')) (λi=>Nat.blt i 100000) [(0,true),(1,true),(2,true),(3,true),(4,true),(5,true),(6,true),(7,true),(11,true),(12,true),(13,true),(14,true),(8,false),(9,false),(10,false),(15,true),(16,true),(17,true)] zk zk rfl zk zc ⟨x0,x1,x2,x3,y0,y1,y2,y3⟩ ?_
     iterate 12 (refine pT rfl rfl ?_ (by intro w' ⟨q0,q1,q2,q3,q4,q5,q6,q7⟩;go_simp;try with_reducible rfl);try simp only[UU])
     refine aC rfl rfl (λK hK=>?_)
     go_simp
     with_reducible refine(amu l s m e l' s' m' e' S B HS.out _ mR.out oP.out hB (by first|exact HU.out|exact az.drew HU.out|exact az.alloc HU.out _|exact az.drew (az.alloc HU.out _) |exact az.alloc (az.drew HU.out) _)).mono ?_
     rintro e w4 ⟨rfl,hq⟩
     have ae:Bw w2 w4:=by first|exact hq|exact aM hq
     clear x0 x1 x2 x3
     clear y0 y1 y2 y3
     replace Hx:=kW Hx ae
     replace Hy:=kW Hy ae
     replace HU:=kT HU ae
     obtain⟨x0,x1,x2,x3⟩:=Hx.out.w4
     obtain⟨y0,y1,y2,y3⟩:=Hy.out.w4
     replace Hb:=ak Hb ae;clear ae
     refine hK _ _ (λ_=>⟨x0,x1,x2,x3,y0,y1,y2,y3⟩) ?_;clear hK K
     try simp only[UU]
     refine aC rfl rfl (λK hK=>?_)
     go_simp
     refine hK _ _ (λ_=>⟨aJ x0,aJ x1,aJ x2,aJ x3,aJ y0,aJ y1,aJ y2,aJ y3⟩) ?_;clear hK K
     try simp only[UU]
     refine bI (λW5=>aj W5 (w4.heap.size) 93 [.string (bs l),.bool (ai (dN S)),.string (bs (nt (dN S).natAbs)),.int .i64 (dE S)]/\Bw w4 W5) (by first|exact cS|exact cV) ?_
     rintro W5 ⟨qc,ae⟩
     clear x0 x1 x2 x3
     clear y0 y1 y2 y3
     replace Hx:=kW Hx ae
     replace Hy:=kW Hy ae
     replace HU:=kT HU ae
     have Hc:=af qc;clear qc
     obtain⟨x0,x1,x2,x3⟩:=Hx.out.w4
     obtain⟨y0,y1,y2,y3⟩:=Hy.out.w4
     obtain⟨c0,c1,c2,c3⟩:=Hc.out.c4
     replace Hb:=ak Hb ae;clear ae
     refine aC rfl rfl (λK hK=>?_)
     have mC:=ownsRow_below dW.out Hb.out
     have hs3:=Hb.out.size
     refine wp_append_own _ _ _ 89 rfl w.heap.size 93 i0 _ 4 48 Tryz.underlying89 Hi.out fg.out fh.out ey.out rfl zd v acc.length (acc.flatMap bf) rfl mC ⟨w4.heap.size,0,none⟩ 1 1 [.string (bs l),.bool (ai (dN S)),.string (bs (nt (dN S).natAbs)),.int .i64 (dE S)] rfl rfl (jK Hc.out) zy zx zo zo ?_
     intro v' w8 ky dH _
     have nb:∀b,b<w.heap.size->some b≠v.ownBlock:=λb hb e=>by have:=eI mC b e.symm;omega
     refine hK _ _ (λ_=>⟨fq dH x0 (nb _ oG),fq dH x1 (nb _ oG),fq dH x2 (nb _ oG),fq dH x3 (nb _ oG),fq dH y0 (nb _ lG),fq dH y1 (nb _ lG),fq dH y2 (nb _ lG),fq dH y3 (nb _ lG)⟩) ?_;clear hK K
     try simp only[UU]
     iterate 3 (refine pT rfl rfl ?_;try simp only[UU])
     simp only[aV]
     have Ak:=af ((aH aZ.out Hb.out).grown dH zo (λj e=>eI mC j e))
     have vM:Hid (w8.ownsRow w.heap.size 93 4 v' (acc++[(l,canon S)]).length ((acc++[(l,canon S)]).flatMap bf)):=by
      show w8.ownsRow _ _ _ _ _ _
      rw[vD.out,List.length_append];exact ky
     clear nb mC ky dH x0 x1 x2 x3 y0 y1 y2 y3 c0 c1 c2 c3 GF GG
     go_wp2
     go_roundw
     case rel=>exact⟨ra,rb,acc++[(l,canon S)],p,q,_,_,_,_,v',rfl,rfl,rfl,Kq.out,vO.out,RD.out,RF.out,RG.out,yf.out,Aw.out,Ax.out,vM.out,by simp;omega,vF.out,Ak.out⟩
     case measure=>simp[uW];omega
  . have hmr:fR ra rb=ra++rb:=by
     have:p=0\/q=0:=by omega
     rcases this with rfl|rfl
     . rw[List.eq_nil_of_length_eq_zero tv,zw];rfl
     . rw[List.eq_nil_of_length_eq_zero jy,zz];simp
    have Ud:M.length=acc.length+p+q:=by rw[<-hM,hmr];simp[tv,jy];omega
    have vD:Hid (M.flatMap bf=(acc.flatMap bf++ra.flatMap bf)++rb.flatMap bf):=by
     show _=_
     rw[<-hM,hmr,<-List.append_assoc,List.flatMap_append,List.flatMap_append]
    have hlr:(ra.flatMap bf).length=p*4:=by rw[zP,tv]
    have VI:(rb.flatMap bf).length=q*4:=by rw[zP,jy]
    have ng:=hat.below pb;have aoU:=hlen;obtain⟨Ef,ab7,oN,eJ,dW,aZ,Kr,Ks,HML⟩:=GH hlr VI ng hat' hov pb hsa wW Ud;clear tv jy hmr hlr VI hat hat' ng hov pb hsa wW hM pR uG Ud;have hsz:=aZ.out.size;by_cases h0:0<p
    all_goals
     go_wp2_with (first| (at_builtin;refine PN rfl (.tmp 70) (.tmp 71) 89 rfl w.heap.size 93 i0 _ 4 48 Tryz.underlying89 Hi.out fg.out fh.out ey.out rfl zd v acc.length (acc.flatMap bf) rfl dW.out aa p ca (ra.flatMap bf) rfl Kr.out Ef.out oN.out (Py ra) zx zo hsz ?_;intro v1 w2 fP hg1 hb1) | (at_builtin;refine PN rfl (.tmp 72) (.tmp 73) 89 rfl w.heap.size 93 i0 _ 4 48 Tryz.underlying89 Hi.out fg.out fh.out ey.out rfl zd v1 (acc.length+p) (acc.flatMap bf++ra.flatMap bf) rfl fP ab q cb (rb.flatMap bf) rfl Ks.out ab7.out (eJ.out.below (aZ.out.grown hg1 hsz (λj e=>eI dW.out j e))) (Py rb) zx zo (Nat.le_trans hsz hg1.size) ?_;intro v2 w3 fQ hg2 hb2))
     go_ret
     refine⟨v2,rfl,?_,(aZ.out.grown hg1 hsz (λj e=>eI dW.out j e)).grown hg2 (Nat.le_trans hsz hg1.size) (λj e=>eI fP j e)⟩
     rw[HML.out,vD.out];exact fQ
end Go.Proofs.YtoopepmmepmfnaaGreatDoor
namespace Go.Proofs.YtoopepmmepmfnaaGreatDoor
open Go.RowKit
theorem amJ (ts:List aO)(i:Nat)(hi:i<ts.length)(t:aO):(((((ts.flatMap bf).set (i*4) (.string (bs t.1))).set (i*4+1) (.bool t.2.1)).set (i*4+2) (.string (bs t.2.2.1))).set (i*4+3) (.int .i64 t.2.2.2))=(ts.set i t).flatMap bf:=by
 induction ts generalizing i with
 |nil=>simp at hi
 | cons x ts ih=>
   have e:∀(y:aO) zs,(y::zs).flatMap bf=.string (bs y.1)::.bool y.2.1::.string (bs y.2.2.1)::.int .i64 y.2.2.2::zs.flatMap bf:=λy zs=>rfl;cases i with
   |zero=>rw[e];rfl
   |succ i=>rw[List.set_cons_succ,e,e,<-ih i (by simpa using hi),show(i+1) *4=i*4+1+1+1+1 by omega];rfl
theorem amI (ts:List aO)(i:Nat)(hi:i<ts.length)(r:Raw):((((ts.flatMap bf).set (i*4+1) (.bool r.1)).set (i*4+2) (.string (bs r.2.1))).set (i*4+3) (.int .i64 r.2.2))=(ts.set i (ts[i].1,r)).flatMap bf:=by
 induction ts generalizing i with
 |nil=>simp at hi
 | cons x ts ih=>
   have e:∀(y:aO) zs,(y::zs).flatMap bf=.string (bs y.1)::.bool y.2.1::.string (bs y.2.2.1)::.int .i64 y.2.2.2::zs.flatMap bf:=λy zs=>rfl;cases i with
   |zero=>rw[e];rfl
   |succ i=>rw[List.set_cons_succ,e,e,List.getElem_cons_succ,<-ih i (by simpa using hi),show(i+1) *4=i*4+1+1+1+1 by omega];rfl
theorem lI {w:World}{base:Nat}{e:TypeId}{size n cap g:Nat}{xs:List Value}(h:w.ownsRow base e size (.slice (some ⟨g,0,none⟩) n cap) n xs)(o:Nat):w.frozen? ⟨g,o,none⟩=false:=by
 rcases h.2 with⟨h1,_⟩ |⟨g',cap',cur,h1,hb,hg,_⟩
 . simp at h1
 . simp only[Value.slice.injEq,Option.some.injEq,Addr.mk.injEq,and_true,true_and]at h1;obtain⟨rfl,rfl⟩:=h1;have h4:aj w g e cur.toList:=by unfold aj;simpa using hg
   exact h4.free o
theorem zH {w:World}{base:Nat}{e:TypeId}{size n cap g:Nat}{xs:List Value}(h:w.ownsRow base e size (.slice (some ⟨g,0,none⟩) n cap) n xs):base<=g/\g<w.heap.size:=by
 rcases h.2 with⟨h1,_⟩ |⟨g',cap',cur,h1,hb,hg,_⟩
 . simp at h1
 . simp only[Value.slice.injEq,Option.some.injEq,Addr.mk.injEq,and_true,true_and]at h1;obtain⟨rfl,rfl⟩:=h1;exact⟨hb,(Array.getElem?_eq_some_iff.1 hg).1⟩
theorem Ij {w:World}{base n cap g:Nat}{e:TypeId}{ts:List aO}(h:w.ownsRow base e 4 (.slice (some ⟨g,0,none⟩) n cap) n (ts.flatMap bf))(k:Nat)(hk:k<ts.length){l:List UInt8}{s:Bool}{m:List UInt8}{ex:Int}(hx:ts[k]=(l,s,m,ex)):
 bO w g (k*4) [.string (bs l),.bool s,.string (bs m),.int .i64 ex]:=by
 obtain⟨a,c,hv,hat,_⟩:=eH h;simp only[Value.slice.injEq,true_and]at hv;obtain⟨rfl,rfl⟩:=hv;obtain⟨b,o,hab,hw⟩:=hat.term k hk hx;simp only[Option.some.injEq,Addr.mk.injEq,and_true]at hab;obtain⟨rfl,rfl⟩:=hab;rwa [Nat.zero_add]at hw
theorem akF {w:World}{base n cap g:Nat}{e:TypeId}{ts:List aO}(h:w.ownsRow base e 4 (.slice (some ⟨g,0,none⟩) n cap) n (ts.flatMap bf))(i:Nat)(hi:i<ts.length)(l:List UInt8)(s:Bool)(m:List UInt8)(ex:Int):
 ((((w.setCell ⟨g,i*4,none⟩ (.string (bs l))).setCell ⟨g,i*4+1,none⟩ (.bool s)).setCell ⟨g,i*4+2,none⟩ (.string (bs m))).setCell ⟨g,i*4+3,none⟩ (.int .i64 ex)).ownsRow base e 4 (.slice (some ⟨g,0,none⟩) n cap) n ((ts.set i (l,s,m,ex)).flatMap bf):=by
 rw[<-amJ ts i hi (l,s,m,ex)];exact jl (jl (jl (jl h _ _) _ _) _ _) _ _
theorem Yl {w:World}{base n cap g:Nat}{e:TypeId}{ts:List aO}(h:w.ownsRow base e 4 (.slice (some ⟨g,0,none⟩) n cap) n (ts.flatMap bf))(i:Nat)(hi:i<ts.length)(s:Bool)(m:List UInt8)(ex:Int):
 (((w.setCell ⟨g,i*4+1,none⟩ (.bool s)).setCell ⟨g,i*4+2,none⟩ (.string (bs m))).setCell ⟨g,i*4+3,none⟩ (.int .i64 ex)).ownsRow base e 4 (.slice (some ⟨g,0,none⟩) n cap) n ((ts.set i (ts[i].1,s,m,ex)).flatMap bf):=by
 rw[<-amI ts i hi (s,m,ex)];exact jl (jl (jl h _ _) _ _) _ _
theorem Fi {w w':World}(r:Option Nat)(h:Bw w w'):w.grownBy w' r:=⟨h.os,h.tape,h.output,h.size,λk hk _=>h.block k hk⟩
theorem Fj {w w':World}{g:Nat}(h:w.grownBy w' (some g))(a:Nat)(v:Value):w.grownBy (w'.setCell ⟨g,a,none⟩ v) (some g):=grownBy_trans h (grownBy_set g rfl v)
theorem aeC {n:Nat}{w w':World}{r:Option Nat}(h:w.grownBy w' r)(hn:n<=w.heap.size)(hr:∀g,r=some g->n<=g):Below n w w':=((Below.refl _ _).mono hn).grown h hn hr
theorem XQ {B:Nat}(a b:List aO)(ha:∀t∈a,Fit B t.2)(hb:∀t∈b,Fit B t.2)(hB:B+1<=268435456):∀t∈fR a b,Fit (B+1) t.2:=by
 obtain⟨n,hn⟩:=aB (a.length+b.length);induction n using Nat.strongRecOn generalizing a b with
 | _ n ih=>
   cases a with
   |nil=>rw[zw];exact λt ht=>(hb t ht).mono zo
   | cons x a=>cases b with
     |nil=>rw[zz];exact λt ht=>(ha t ht).mono zo
     | cons y b=>
       rw[vp];simp only[List.length_cons]at hn;have ha2:∀t∈a,Fit B t.2:=λt ht=>ha t (by simp[ht]);have hb2:∀t∈b,Fit B t.2:=λt ht=>hb t (by simp[ht]);split
       . intro t ht;rcases List.mem_cons.1 ht with rfl|ht
         . exact(ha _ zm).mono zo
         . exact ih _ (by simp only[List.length_cons];omega) a (y::b) ha2 hb rfl t ht
       . split
         . intro t ht;rcases List.mem_cons.1 ht with rfl|ht
           . exact(hb _ zm).mono zo
           . exact ih _ (by simp only[List.length_cons];omega) (x::a) b ha hb2 rfl t ht
         . intro t ht;rcases List.mem_cons.1 ht with rfl|ht
           . exact((ha x zm).2.add (hb y zm).2).fit hB
           . exact ih _ zo a b ha2 hb2 rfl t ht
theorem Pm {B:Nat}(l:List aO)(h:∀t∈l,Fit B t.2)(hB:B+l.length<=268435456):∀t∈fU l,Fit (B+l.length) t.2:=by
 obtain⟨n,hn⟩:=aB l.length;induction n using Nat.strongRecOn generalizing l with
 | _ n ih=>
   by_cases h2:l.length<2
   . rw[Ip l h2];exact λt ht=>(h t ht).mono zo
   . rw[Pn l zo];have l1:(l.take (l.length/2)).length=l.length/2:=by rw[List.length_take];omega
     have l2:(l.drop (l.length/2)).length=l.length-l.length/2:=List.length_drop;have h3:=ih _ (by rw[<-hn,l1];omega) (l.take (l.length/2)) (λt ht=>h t (List.mem_of_mem_take ht)) (by rw[l1];omega) rfl;have h4:=ih _ (by rw[<-hn,l2];omega) (l.drop (l.length/2)) (λt ht=>h t (List.mem_of_mem_drop ht)) (by rw[l2];omega) rfl;have:=XQ (B:=B+(l.length-1)) _ _ (λt ht=>(h3 t ht).mono (by rw[l1];omega)) (λt ht=>(h4 t ht).mono (by rw[l2];omega)) zo;rwa [show B+(l.length-1)+1=B+l.length by omega]at this
end Go.Proofs.YtoopepmmepmfnaaGreatDoor
namespace Go.Proofs.YtoopepmmepmfnaaGreatDoor
open Go.RowKit
attribute [local go_sem ↓] Go.wp_at_zero Go.wp_at_succ
theorem agA {α:Type}(p:α->Bool)(l:List α)(i:Nat)(hi:i<=l.length)(h:∀j (hj:j<i),p (l[j]'zo)=false):(l.take i).filter (λx=>!p x)=l.take i:=by
 rw[List.filter_eq_self];intro x hx;obtain⟨j,hj,rfl⟩:=List.mem_iff_getElem.1 hx;rw[List.getElem_take];have nj:j<i:=by rw[List.length_take]at hj;omega
 simp[h j nj]
theorem take_set {α:Type}(l:List α)(a:Nat)(x:α)(h:a<l.length):(l.set a x).take (a+1)=l.take a++[x]:=by rw[List.take_succ_eq_append_getElem (by simpa using h),List.getElem_set_self,List.take_set_of_le (Nat.le_refl _)]
theorem Lv {α:Type}(l:List α)(a b:Nat)(x:α)(h:a<b):(l.set a x).drop b=l.drop b:=by rw[List.drop_set];rw[if_pos h]
theorem Tryz.arX (w:World):(zeroValue 93).run Tryz.prog w=.ok (.agg #[.string ⟨#[]⟩,.bool false,.string ⟨#[]⟩,.int .i64 0]) w:=by kernel_rfl
theorem TE (ts:List aO)(k:Nat)(hk:k<=ts.length):(ts.flatMap bf).take (k*4)=(ts.take k).flatMap bf:=by
 have e:ts=ts.take k++ts.drop k:=(List.take_append_drop _ _).symm;conv=>lhs;rw[e]
 rw[List.flatMap_append,List.take_left' (by rw[zP,List.length_take,Nat.min_eq_left hk])]
theorem afP (a:Option Addr)(n cap:Nat)(ts:List aO)(gf:Nat)(p:aO->Bool)(w:World)(hn:ts.length=n)(hl:n<=65536)(ha:At w a (ts.flatMap bf))
 (eg:∀args w,(callFunc gf args).run Tryz.prog w=.ok (.enter gf args) w) (h2:∀x∈ts,p x=false)
 (hcl:∀x∈ts,∀W,Calls Tryz.prog gf #[.agg #[.string (bs x.1),.bool x.2.1,.string (bs x.2.2.1),.int .i64 x.2.2.2]] W λe w'=>e=.returned (.bool (p x))/\Bw W w'):
 Calls Tryz.prog 188 #[.slice a n cap,.func (.func gf) #[] #[]] w λe w'=>e=.returned (.slice a n cap)/\Bw w w':=by
 have bB:=NW a n cap ts gf #[] p w hn zo ha eg (λx hx W _=>by simpa using hcl x hx W);rcases WV p ts 0 with⟨h1,_⟩ |⟨i,hi,_,h3,_⟩
 . rw[h1]at bB;have AB:=af bB;clear bB h1 h2 hn hcl eg ha;have Hb:Hid (Bw w w):=Below.refl _ _;go_enter Tryz.func188,Tryz.ntmps188;go_wp2_with fail;refine(AB.out).mono ?_;rintro e w1 ⟨rfl,ae⟩;replace Hb:=ak Hb ae;clear ae;go_wp2;go_ret;exact⟨rfl,Hb.out⟩
 . rw[h2 _ (List.getElem_mem hi)]at h3;cases h3
theorem afO (g n cap base:Nat)(ts:List aO)(gf:Nat)(p:aO->Bool)(w:World)(hn:ts.length=n)(hl:n<=65536)(hn0:0<n)(ho:w.ownsRow base 93 4 (.slice (some ⟨g,0,none⟩) n cap) n (ts.flatMap bf))
 (eg:∀args w,(callFunc gf args).run Tryz.prog w=.ok (.enter gf args) w)
 (hcl:∀x∈ts,∀W,Calls Tryz.prog gf #[.agg #[.string (bs x.1),.bool x.2.1,.string (bs x.2.2.1),.int .i64 x.2.2.2]] W λe w'=>e=.returned (.bool (p x))/\Bw W w'):
 Calls Tryz.prog 188 #[.slice (some ⟨g,0,none⟩) n cap,.func (.func gf) #[] #[]] w λe w'=>∃k,k=(ts.filter λx=>!p x).length/\e=.returned (.slice (some ⟨g,0,none⟩) k cap)/\
  w'.ownsRow base 93 4 (.slice (some ⟨g,0,none⟩) k cap) k ((ts.filter λx=>!p x).flatMap bf)/\w.grownBy w' (some g):=by
 have hat:At w (some ⟨g,0,none⟩) (ts.flatMap bf):=by obtain⟨a,c,hv,hat,_⟩:=eH ho;simp only[Value.slice.injEq,true_and]at hv;rw[hv.1];exact hat
 have hcap:=(xq ho).1;have bB:=NW (some ⟨g,0,none⟩) n cap ts gf #[] p w hn zo hat eg (λx hx W _=>by simpa using hcl x hx W);have hcm:cap<=9223372036854775807:=by
  rcases ho.2 with⟨h1,_⟩ |⟨g',cap',cur,h1,hb,hg,h4,h5,_⟩
  . simp at h1
  . simp only[Value.slice.injEq]at h1;obtain⟨_,_,rfl⟩:=h1;unfold maxLen at h5;omega
 obtain⟨Ho,gm,Hn,kO,eJ⟩:=gT ho hcl hn eg hat;clear ho hcl hn eg hat;rcases WV p ts 0 with⟨h1,h2⟩ |⟨i,hi,h1,h2,h3⟩
 . rw[h1]at bB;have hK:(ts.filter λx=>!p x)=ts:=List.filter_eq_self.2 (λx hx=>by simp[h2 x hx]);rw[hK,Hn.out];have AB:=af bB;clear bB h1 h2 hK;have Hb:Hid (Bw w w):=Below.refl _ _;go_enter Tryz.func188,Tryz.ntmps188;go_wp2_with fail;refine(AB.out).mono ?_;rintro e w1 ⟨rfl,ae⟩;replace Hb:=ak Hb ae;clear ae;go_wp2;go_ret;exact⟨n,rfl,rfl,ownsRow_below Ho.out Hb.out,Fi _ Hb.out⟩
 . rw[h1,Nat.zero_add]at bB;have hin:i<n:=by rw[<-Hn.out];exact hi
   obtain⟨K,hK⟩:=aB (ts.filter λx=>!p x);rw[hK];have hst:(ts.take (i+1)).filter (λx=>!p x)=ts.take i:=by rw[List.take_succ_eq_append_getElem hi,List.filter_append,agA p ts i zo h3];simp[h2]
   have kw:((i:Int)== -1)=false:=by simp
   obtain⟨AB,HK,bX⟩:=cG bB hK hst;clear bB h1 h2 h3 hK hst;have Hb:Hid (Bw w w):=Below.refl _ _;go_enter Tryz.func188,Tryz.ntmps188;go_wp2_with fail;refine(AB.out).mono ?_;rintro e w1 ⟨rfl,ae⟩;replace Hb:=ak Hb ae;clear ae;go_wp2_with fail;go_loopw[5,6] (λs5 s6 wr=>∃(x y:Nat) (C:List aO),s5=.int .i64 (x:Int)/\s6=.int .i64 (y:Int)/\x<y/\y<=n/\C.length=n/\C.take x=(ts.take y).filter (λx=>!p x)/\C.drop y=ts.drop y/\wr.ownsRow base 93 4 (.slice (some ⟨g,0,none⟩) n cap) n (C.flatMap bf)/\w.grownBy wr (some g)) (λ_ s6 _=>n-(intOf s6).toNat);case atStart=>exact⟨i,i+1,ts,rfl,by go_num,by omega,by omega,Hn.out,bX.out.symm,rfl,ownsRow_below Ho.out Hb.out,Fi _ Hb.out⟩
   case round=>
    clear Hb kw;obtain⟨x,y,C,rfl,rfl,hxy,oF,hC,htk,hdr,hov,hg⟩:=hrel;by_cases hlt:y<n
    . have NU:y<ts.length:=by rw[Hn.out];exact hlt
      have WO:y<C.length:=by omega
      have hel:C[y]=ts[y]:=by
       have e1:C[y]?=ts[y]?:=by rw[<-Nat.add_zero y,<-List.getElem?_drop,<-List.getElem?_drop,hdr]
       rw[List.getElem?_eq_getElem WO,List.getElem?_eq_getElem NU]at e1;exact Option.some.inj e1
      obtain⟨l,s,m,e,hx⟩:∃l s m e,ts[y]=(l,s,m,e):=⟨_,_,_,_,rfl⟩;have hw:=Ij hov y WO (hel.trans hx);have hcl:=gm.out _ (List.getElem_mem NU);rw[hx]at hcl;have hnx:(ts.take (y+1)).filter (λx=>!p x)=(ts.take y).filter (λx=>!p x)++if p (l,s,m,e)then[]else[(l,s,m,e)]:=by rw[List.take_succ_eq_append_getElem NU,List.filter_append,hx];by_cases hp:p (l,s,m,e)=true<;>simp[hp]
      have hd2:C.drop (y+1)=ts.drop (y+1):=by rw[<-List.drop_drop,<-List.drop_drop,hdr]
      have bB:=rM n cap y (y:Int) (rfl:(some ⟨g,0,none⟩:Option Addr)=_) hlt rfl;rw[Nat.zero_add]at bB;obtain⟨hgb,mA⟩:=zH hov;obtain⟨dW,Hg,RH,xS,oV,HC,QH⟩:=iV hov hg htk hd2 hnx hC hcl;have Hz:Hid (bO wr g (y*4) [.string (bs l),.bool s,.string (bs m),.int .i64 e]):=hw;clear hov hg htk hd2 hnx hC hcl hw hdr hel hx;have Hb:Hid (Bw wr wr):=Below.refl _ _;obtain⟨z0,z1,z2,z3⟩:=Hz.out.w4;have P0:=z0;have P1:=z1;have P2:=z2;have P3:=z3;have EW:=kO.out;obtain⟨W4,ku,ae,Hv⟩:=cf wr 93 [.string (bs l),.bool s,.string (bs m),.int .i64 e];clear z0 z1 z2 z3;replace Hz:=kW Hz ae;obtain⟨z0,z1,z2,z3⟩:=Hz.out.w4;obtain⟨v0,v1,v2,v3⟩:=Hv.out.c4;replace Hb:=ak Hb ae;clear ae;obtain⟨t,ht⟩:=aB (p (l,s,m,e));rw[ht]at QH oV;clear ht;go_wp2_with fail;refine(QH.out _).mono ?_;rintro e w5 ⟨rfl,ae⟩;clear z0 z1 z2 z3 v0 v1 v2 v3;replace Hz:=kW Hz ae;replace Hv:=kB Hv ae;obtain⟨z0,z1,z2,z3⟩:=Hz.out.w4;obtain⟨v0,v1,v2,v3⟩:=Hv.out.c4;replace Hb:=ak Hb ae;clear ae;have gS:=ownsRow_below dW.out Hb.out;have Gb:=grownBy_trans Hg.out (Fi _ Hb.out);clear EW;cases t with
      | true=>
        obtain⟨vN,JP⟩:=aI gS Gb;clear gS Gb;go_wp2;go_roundw;case rel=>exact⟨x,y+1,C,rfl,by go_num,by omega,by omega,HC.out,by rw[oV.out,RH.out];simp,xS.out,vN.out,JP.out⟩
        case measure=>simp[intOf];omega
      | false=>
        have NR:x<C.length:=by have:=HC.out;omega
        obtain⟨lx,sx,mx,ex,WJ⟩:∃l s m e,C[x]=(l,s,m,e):=⟨_,_,_,_,rfl⟩;obtain⟨u0,u1,u2,u3⟩:=(Ij gS x NR WJ).w4;have pI:=lI gS (x*4);have mg:=lI gS (x*4+1);have Fb:=lI gS (x*4+2);have Ma:=lI gS (x*4+3);have jg:=rM n cap x (x:Int) (rfl:(some ⟨g,0,none⟩:Option Addr)=_) zo rfl;rw[Nat.zero_add]at jg;obtain⟨vN,JP,RN⟩:=cG gS Gb NR;clear gS Gb WJ NR;go_wp2;refine⟨⟨x+1,y+1,C.set x (l,s,m,e),by go_num,by go_num,by omega,by omega,by rw[List.length_set];exact HC.out,?_,?_,akF vN.out x RN.out l s m e,?_⟩,by simp[intOf];omega⟩
        . rw[take_set _ _ _ RN.out,RH.out,oV.out];simp
        . rw[Lv _ _ _ _ zo];exact xS.out
        . exact Fj (Fj (Fj (Fj JP.out _ _) _ _) _ _) _ _
    . obtain rfl:y=n:=by omega
      have hK:C.take x=K:=by rw[htk,<-HK.out,List.take_of_length_le (by rw[Hn.out];exact Nat.le_refl _)]
      have Fx:K.length=x:=by rw[<-hK,List.length_take,hC];omega
      have yV:=Ym hov x zo;rw[TE C x zo,hK]at yV;obtain⟨w6,aoL,Cx,Vl⟩:=YM wr 89 93 _ 4 Tryz.underlying89 Tryz.arX rfl (by intro v hv;simp[Value.cells]at hv;rcases hv with rfl|rfl|rfl|rfl<;>rfl) g x (y-x) cap (cap-x) base (K.flatMap bf) yV zo;have jv:¬cap=x:=by omega
      obtain⟨Ho6,sB,HKl⟩:=cG Cx (grownBy_trans hg Vl) Fx;clear htk hdr hC hK Fx yV hov hg Cx Vl;go_wp2;go_ret;exact⟨x,HKl.out.symm,rfl,Ho6.out,sB.out⟩
theorem At.first {w:World}{a:Option Addr}{xs:List Value}(h:At w a xs)(k:Nat):At w a (xs.take k):=by
 rcases h with rfl|⟨b,o,rfl,hc⟩
 . exact .inl zm
 . refine .inr ⟨b,o,rfl,λj hj=>?_⟩;rw[List.length_take]at hj;rw[hc j zo,List.getElem?_take_of_lt zo]
def KM (w:World)(a:Option Addr)(n cap:Nat)(ts:List aO)(e:Ending)(w':World):Prop:=
 ∃v',e=.returned v'/\((n<2/\v'=.slice a n cap)\/(2<=n/\w'.ownsRow w.heap.size 93 4 v' (fU ts).length ((fU ts).flatMap bf)))/\Bw w w'
theorem KM.at {w:World}{a:Option Addr}{n cap:Nat}{ts:List aO}{e:Ending}{w':World}(h:KM w a n cap ts e w')(hn:ts.length=n)(hs:Sl a n cap)(ha:At w a (ts.flatMap bf)):
 ∃a' c',e=.returned (.slice a' (fU ts).length c')/\At w' a' ((fU ts).flatMap bf)/\Sl a' (fU ts).length c'/\Bw w w':=by
 obtain⟨v',rfl,h1,hb⟩:=h;rcases h1 with⟨h2,rfl⟩ |⟨h2,ho⟩
 . rw[Ip ts zo,hn];exact⟨a,cap,rfl,ha.below hb,hs,hb⟩
 . obtain⟨a',c',rfl,hat,_⟩:=eH ho;exact⟨a',c',rfl,hat,xq ho,hb⟩
theorem ame (n:Nat):∀(a:Option Addr) (cap:Nat) (ts:List aO) (B:Nat) (w:World),ts.length=n->Sl a n cap->n<=65536->At w a (ts.flatMap bf)->(∀t∈ts,Fit B t.2)->B+n+2<=268435456->az w->
 Calls Tryz.prog 189 #[.slice a n cap,.func (.func 155) #[] #[],.func (.func 156) #[] #[]] w (KM w a n cap ts):=by
 induction n using Nat.strongRecOn with
 | _ n ih=>
   intro a cap ts B w hn hs hl ha hf hB hT;by_cases h2:n<2
   . have h2i:(n:Int)<2:=by omega
     clear ih hn hs ha hf hT;have Hb:Hid (Bw w w):=Below.refl _ _;go_enter Tryz.func189,Tryz.ntmps189;go_wp2;go_ret;exact⟨_,rfl,.inl ⟨h2,rfl⟩,Hb.out⟩
   . obtain⟨k,hk⟩:=aB (n/2);have hk1:1<=k:=by omega
     have hk2:k<n:=by omega
     have Gf:(n:Int)/2=(k:Int):=by omega
     have l1:(ts.take k).length=k:=by rw[List.length_take];omega
     have l2:(ts.drop k).length=n-k:=by rw[List.length_drop];omega
     have hcn:=hs.1;have s1:Sl a k cap:=⟨by omega,hs.2⟩;have s2:Sl (if cap=k then a else a.map (·.add (k*4))) (n-k) (cap-k):=hs.cut zo;have a1:=ha.first (k*4);rw[TE ts k zo]at a1;have a2:=ha.cut (k:=k) (size:=4) (by rw[zP,hn]) zo hcn;have ed:(ts.flatMap bf).drop (k*4)=(ts.drop k).flatMap bf:=by
      have e:ts=ts.take k++ts.drop k:=(List.take_append_drop _ _).symm;conv=>lhs;rw[e]
      rw[List.flatMap_append,List.drop_left' (by rw[zP,l1])]
     rw[ed]at a2;obtain⟨a',ha'⟩:=aB (if cap=k then a else a.map (·.add (k*4)));rw[ha']at s2 a2;have f1:∀t∈ts.take k,Fit B t.2:=λt ht=>hf t (List.mem_of_mem_take ht);have f2:∀t∈ts.drop k,Fit B t.2:=λt ht=>hf t (List.mem_of_mem_drop ht);have c1:=λW (hW:Bw w W) (Cb:az W)=>(ih k hk2 a cap (ts.take k) B W l1 s1 zo (a1.below hW) f1 zo Cb).mono (λe w' h=>h.at l1 s1 (a1.below hW));have c2:=λW (hW:Bw w W) (Cb:az W)=>(ih (n-k) zo a' (cap-k) (ts.drop k) B W l2 s2 zo (a2.below hW) f2 zo Cb).mono (λe w' h=>by obtain⟨x1,x2,x3,x4,x5,x6⟩:=h.at l2 s2 (a2.below hW);exact(⟨x1,x2,x3,x4,x5,Nat.le_trans hW.size x6.size,x6,x6⟩:∃a1 c1,e=.returned (.slice a1 (fU (ts.drop k)).length c1)/\At w' a1 ((fU (ts.drop k)).flatMap bf)/\Sl a1 (fU (ts.drop k)).length c1/\w.heap.size<=w'.heap.size/\Bw W w'/\Bw W w'));have g1:=Pm (B:=B) (ts.take k) f1 zo;have g2:=Pm (B:=B) (ts.drop k) f2 zo;have e1:=Dp (ts.take k);have e2:=Dp (ts.drop k);have hst:fU ts=fR (fU (ts.take k)) (fU (ts.drop k)):=by rw[Pn ts zo,hn,hk]
     obtain⟨L,hL⟩:=aB (fU (ts.take k));obtain⟨R,hR⟩:=aB (fU (ts.drop k));rw[hL]at c1 g1 e1 hst;rw[hR]at c2 g2 e2 hst;have h2i:¬(n:Int)<2:=by omega
     have h2n:2<=n:=by omega
     obtain⟨C1,C2,G1,G2,bX,HT⟩:=iD c1 c2 (λt ht=>(g1 t ht).mono (show B+(ts.take k).length<=B+n by omega)) (λt ht=>(g2 t ht).mono (show B+(ts.drop k).length<=B+n by omega)) hst hT;have Ef:Hid (L.length<=65536/\R.length<=65536):=⟨by omega,by omega⟩;have Kw:=ha';clear ih hn hs ha hf hT a1 a2 s1 s2 f1 f2 c1 c2 g1 g2 e1 e2 hst ed l1 l2 hL hR hk ha';have Hb:Hid (Bw w w):=Below.refl _ _;go_enter Tryz.func189,Tryz.ntmps189;go_wp2_with fail;have hkn:k<=n:=by omega
     have hkc:k<=cap:=by omega
     refine bW (λw'=>True) (λi=>Nat.blt i 100000) [(0,true),(1,true),(2,true),(3,true),(4,true),(6,true),(7,true),(8,true),(9,true),(10,true),(12,true),(13,true),(5,false),(11,false),(14,false),(15,true)] zk zk rfl zk zc True.intro ?_;iterate 12 (refine pT rfl rfl ?_;try simp only[UU])
     refine aC rfl rfl (λK hK=>?_);go_simp;with_reducible refine(C1.out _ (by first|exact Hb.out|exact Hb.out.drew) (by first|exact(HT.out.below Hb.out) |exact az.drew (HT.out.below Hb.out) |exact az.alloc (HT.out.below Hb.out) _|exact az.drew (az.alloc (HT.out.below Hb.out) _) |exact az.alloc (az.drew (HT.out.below Hb.out)) _)).mono ?_
     rintro e w1 ⟨b1,d1,rfl,ng,hs1,hq⟩;have ae:Bw w w1:=by first|exact hq|exact aM hq
     replace Hb:=ak Hb ae;clear ae;refine hK _ _ (λ_=>True.intro) ?_;clear hK K;try simp only[UU]
     refine aC rfl rfl (λK hK=>?_);go_simp;with_reducible refine(C2.out _ (by first|exact Hb.out|exact Hb.out.drew) (by first|exact(HT.out.below Hb.out) |exact az.drew (HT.out.below Hb.out) |exact az.alloc (HT.out.below Hb.out) _|exact az.drew (az.alloc (HT.out.below Hb.out) _) |exact az.alloc (az.drew (HT.out.below Hb.out)) _)).mono ?_
     rintro e w2 ⟨b2,d2,rfl,pQ,hs2,aid,uD,hq⟩;have ae:Bw w1 w2:=by first|exact hq|exact aM hq
     replace Hb:=ak Hb ae;clear ae;refine hK _ _ (λ_=>True.intro) ?_;clear hK K;try simp only[UU]
     refine aC rfl rfl (λK hK=>?_);go_simp;with_reducible refine(XK b1 L.length d1 L b2 R.length d2 R (B+n) _ rfl rfl hs1 hs2 Ef.out.1 Ef.out.2 (by first|exact ng.below uD|exact(ng.below uD).drew) (by first|exact pQ|exact pQ.drew) G1.out G2.out zo (by first|exact(HT.out.below Hb.out) |exact az.drew (HT.out.below Hb.out) |exact az.alloc (HT.out.below Hb.out) _|exact az.drew (az.alloc (HT.out.below Hb.out) _) |exact az.alloc (az.drew (HT.out.below Hb.out)) _)).mono ?_
     rintro e w3 ⟨v',rfl,ho,hq⟩;have ae:Bw w2 w3:=by first|exact hq|exact aM hq
     replace Hb:=ak Hb ae;clear ae;refine hK _ _ (λ_=>True.intro) ?_;clear hK K;try simp only[UU]
     refine pT rfl rfl ?_;try simp only[UU]
     simp only[aV];go_wp2;go_ret;exact⟨v',rfl,.inr ⟨h2n,by rw[bX.out];exact xt ho aid⟩,Hb.out⟩
def yu (x:aO):aO:=(x.1,canon (ar x.2))
theorem XH (f:aO->aO)(K C:List aO)(k:Nat)(hk:k<C.length)(hl:C.length=K.length)(ht:C.take k=(K.map f).take k)(hx:C[k]=K[k]'zo):(C.set k (f C[k])).take (k+1)=(K.map f).take (k+1):=by rw[take_set _ _ _ hk,ht,List.take_succ_eq_append_getElem zi,List.getElem_map,hx]
theorem Tp {K C:List aO}{k:Nat}(hd:C.drop k=K.drop k)(h1:k<C.length)(h2:k<K.length):C[k]=K[k]:=by
 have e1:C[k]?=K[k]?:=by rw[<-Nat.add_zero k,<-List.getElem?_drop,<-List.getElem?_drop,hd]
 rw[List.getElem?_eq_getElem h1,List.getElem?_eq_getElem h2]at e1;exact Option.some.inj e1
theorem afc (V:Int)(v:Value)(n:Nat)(ts:List aO)(B:Nat)(w0 w:World)(hb0:Bw w0 w)(hn:ts.length=n)(hl:n<=4096)(ho:w.ownsRow w0.heap.size 93 4 v n (ts.flatMap bf))(hf:∀t∈ts,Fit B t.2)(hB:B+n+2<=268435456)(hT:az w0):
 Calls Tryz.prog 152 #[.int .i64 V,v] w λe w'=>∃v',e=.returned (.tuple #[.agg #[.int .i64 V,v'],.int .i64 0])/\w'.ownsRow w0.heap.size 93 4 v' (cp ts).length ((cp ts).flatMap bf)/\Bw w0 w':=by
 obtain⟨a,cap,rfl,hat,_⟩:=eH ho;have hs:=xq ho;have Gc:=Pm ts hf zo;have hsl:=Dp ts;have eg:∀args w,(callFunc 190 args).run Tryz.prog w=.ok (.enter 190 args) w:=enters_of Tryz.func190 zk rfl;obtain⟨S,hS⟩:=aB (fU ts);have c1:∀W,Bw w W->Calls Tryz.prog 189 #[.slice a n cap,.func (.func 155) #[] #[],.func (.func 156) #[] #[]] W λe w'=>∃v1,e=.returned v1/\w'.ownsRow w0.heap.size 93 4 v1 S.length (S.flatMap bf)/\Bw W w':=by
  intro W hW;refine(ame n a cap ts B W hn hs zo (hat.below hW) hf hB (hT.below (aH hb0 hW))).mono ?_;rintro e w' ⟨v1,rfl,h1,hb⟩;refine⟨v1,rfl,?_,hb⟩;rcases h1 with⟨h2,rfl⟩ |⟨h2,fP⟩
  . rw[<-hS,Ip ts zo,hn];exact ownsRow_below ho (aH hW hb)
  . rw[<-hS];exact xt fP (by have:=hW.size;have:=hb0.size;omega)
 obtain⟨K,hK⟩:=aB (S.filter nC);have Fx:K.length<=4096:=by have:=List.length_filter_le nC S;rw[hK]at this;rw[hS]at hsl;omega
 rw[hS]at Gc hsl;have c2:∀W v1,Bw w0 W->W.ownsRow w0.heap.size 93 4 v1 S.length (S.flatMap bf)->Calls Tryz.prog 188 #[v1,.func (.func 190) #[] #[]] W λe w'=>∃v2,e=.returned v2/\w'.ownsRow w0.heap.size 93 4 v2 K.length (K.flatMap bf)/\W.grownBy w' v1.ownBlock:=by
  intro W v1 hW fP;have hcl:∀x∈S,∀W,Calls Tryz.prog 190 #[.agg #[.string (bs x.1),.bool x.2.1,.string (bs x.2.2.1),.int .i64 x.2.2.2]] W λe w'=>e=.returned (.bool (!nC x))/\Bw W w':=λx hx W=>afb x.1 x.2.1 x.2.2.1 x.2.2.2 W (Gc x hx).1;by_cases h0:0<S.length
  . obtain⟨g,c,rfl,_,_,_⟩:=xp fP h0;refine(afO g S.length c w0.heap.size S _ (λx=>!nC x) W rfl zo h0 fP eg hcl).mono ?_;rintro e w' ⟨k,hk,rfl,fQ,hg2⟩;simp only[Bool.not_not]at hk fQ;rw[hK]at hk fQ;subst hk;exact⟨_,rfl,fQ,hg2⟩
  . have kq:S=[]:=List.eq_nil_of_length_eq_zero zo;obtain⟨a1,c,rfl,ng,_⟩:=eH fP;refine(afP a1 S.length c S _ (λx=>!nC x) W rfl zo ng eg (λx hx=>by rw[kq]at hx;cases hx) hcl).mono ?_;rintro e w' ⟨rfl,hb⟩;have sS:K=S:=by rw[<-hK,kq];rfl
    rw[sS];exact⟨_,rfl,ownsRow_below fP hb,Fi _ hb⟩
 have Ub:∀t∈K,Fit (B+ts.length) t.2:=λt ht=>by rw[<-hK]at ht;exact Gc t (List.mem_filter.1 ht).1
 have hcl:cp ts=K.map yu:=by unfold cp;rw[hS,hK];rfl
 rw[hcl,List.length_map];have hz:=hb0.size;obtain⟨m,hm⟩:=aB K.length;rw[hm]at Fx c2⊢;obtain⟨Hm,C1,C2,HKf,Hw0,HT⟩:=iD hm c1 c2 Ub hb0 hT;clear c1 c2 hm Ub hcl hb0 hT Gc hS hK ho hat hs hf eg hsl;have Hb:Hid (Bw w w):=Below.refl _ _;go_enter Tryz.func152,Tryz.ntmps152;go_wp2_with fail;obtain⟨R,hR⟩:∃R:World->Prop,(λW=>aj W (w.heap.size) 91 [.int .i64 0,.slice none 0 0]/\Bw w W)=R:=⟨_,rfl⟩;first|refine bQ R ?hR ?_|refine bP R ?hR ?_
 case hR=>subst hR;exact⟨(aj.newAt w _ _ (b:=w.heap.size) rfl),zl⟩
 subst hR;rintro W ⟨qr,ae⟩;have Hr:=af qr;clear qr;obtain⟨r0,ag,r1,ah⟩:=Hr.out.g2;replace Hb:=ak Hb ae;clear ae;go_wp2_with fail;refine(C1.out _ Hb.out).mono ?_;rintro e w1 ⟨v1,rfl,fP,ae⟩;clear r0 ag r1 ah;replace Hr:=kB Hr ae;obtain⟨r0,ag,r1,ah⟩:=Hr.out.g2;replace Hb:=ak Hb ae;clear ae;have hw1:=aH Hw0.out Hb.out;go_wp2_with fail;refine(C2.out _ v1 hw1 fP).mono ?_;rintro e w2 ⟨v2,rfl,fQ,hg2⟩;have hr2:=Hr.out.row zd fP hg2;have hw2:=aeC (hg2) (Nat.le_trans hz Hb.out.size) (λg e=>eI fP g e);obtain⟨RJ,AK⟩:=aI (hw1.trans hw2) fQ;replace Hr:=af hr2;clear C1 C2 fP hg2 hw1 hw2 hr2 fQ r0 ag r1 ah Hb;have hKi:¬(4096:Int)<(m:Int):=by omega
 obtain⟨a2,cap2,rfl,_,_⟩:=eH AK.out;go_wp2_with fail;go_loopw[16] (λx wr=>∃(k:Nat) (C:List aO),k<=m/\x=.int .i64 (k:Int)/\C.length=m/\C.take k=(K.map yu).take k/\C.drop k=K.drop k/\wr.ownsRow w0.heap.size 93 4 (.slice a2 m cap2) m (C.flatMap bf)/\aj wr w.heap.size 91 [.int .i64 0,.slice none 0 0]/\Bw w0 wr) (λx _=>m-(intOf x).toNat);case atStart=>exact⟨0,K,Nat.zero_le _,rfl,Hm.out,rfl,rfl,AK.out,Hr.out,RJ.out⟩
 case round=>
  clear Hr AK RJ;obtain⟨k,C,hk,rfl,hC,htk,hdr,hov,hr,pb⟩:=hrel;by_cases hlt:k<m
  . obtain⟨g,cc,he,hg1,hg2,hg3⟩:=xp hov zo;simp only[Value.slice.injEq,true_and]at he;obtain⟨rfl,rfl⟩:=he;have tq:k<C.length:=by omega
    have wH:k<K.length:=by have:=Hm.out;omega
    have hel:=Tp hdr tq wH;obtain⟨l,s,q,e,hx⟩:∃l s m e,C[k]=(l,s,m,e):=⟨_,_,_,_,rfl⟩;have jf:=HKf.out _ (List.getElem_mem wH);rw[<-hel,hx]at jf;obtain⟨D,hD⟩:=aB (ar (s,q,e));have iU:=XH yu K C k tq (by rw[hC,Hm.out]) htk hel;have Cf:yu C[k]=(l,canon D):=by rw[hx,<-hD];rfl
    rw[Cf]at iU;have jv:C[k].1=l:=by rw[hx]
    have hw:=Ij hov k tq hx;have hd2:C.drop (k+1)=K.drop (k+1):=by rw[<-List.drop_drop,<-List.drop_drop,hdr]
    have bB:=rM m cap2 k (k:Int) (rfl:(some ⟨g,0,none⟩:Option Addr)=_) hlt rfl;rw[Nat.zero_add]at bB;have Hfm:Hid (∀W,az W->Calls Tryz.prog 111 #[.agg #[.bool s,.string (bs q),.int .i64 e]] W λex w'=>ex=.returned (bH D)/\Bw W w'):=λW Cb=>pH s q e D hD W jf.1 Cb;obtain⟨dW,aZ,vR,xS,HC,Jv,vG⟩:=iV hov pb iU hd2 hC jv (HT.out.below pb);have Hr:Hid (aj wr w.heap.size 91 [.int .i64 0,.slice none 0 0]):=hr;have Hz:Hid (bO wr g (k*4) [.string (bs l),.bool s,.string (bs q),.int .i64 e]):=hw;clear hov pb iU hd2 hC hr hw htk hdr hel hx jf hD Cf jv wH;have Hb:Hid (Bw wr wr):=Below.refl _ _;obtain⟨z0,z1,z2,z3⟩:=Hz.out.w4;have y2:wr.cell? ⟨g,k*4+1+1,none⟩=some (.string (bs q)):=z2;have y3:wr.cell? ⟨g,k*4+1+2,none⟩=some (.int .i64 e):=z3;go_wp2_with fail;refine(Hfm.out _ vG.out).mono ?_;rintro e w5 ⟨rfl,ae⟩;clear z0 z1 z2 z3;replace Hz:=kW Hz ae;obtain⟨z0,z1,z2,z3⟩:=Hz.out.w4;replace Hb:=ak Hb ae;clear ae;have gS:=ownsRow_below dW.out Hb.out;clear y2 y3;have y2:w5.cell? ⟨g,k*4+1+1,none⟩=some (.string (bs q)):=z2;have y3:w5.cell? ⟨g,k*4+1+2,none⟩=some (.int .i64 e):=z3;have mg:=lI gS (k*4+1);have Fb:=lI gS (k*4+1+1);have Ma:=lI gS (k*4+1+2);have hgb:=(zH gS).2;have Nw:=Hr.out.below Hb.out;have df:=aH aZ.out Hb.out;have MS:g≠w.heap.size:=λe=>Nw.not_row zd gS (by rw[e];rfl);obtain⟨vN,Hr5,fB⟩:=cG gS Nw df;clear gS Nw df;go_wp2;refine⟨⟨k+1,C.set k (l,canon D),by omega,by go_num,by rw[List.length_set];exact HC.out,vR.out,by rw[Lv _ _ _ _ zo];exact xS.out,?_,?_,?_⟩,by simp[intOf];omega⟩
    . have h:=Yl vN.out k tq (ai (dN D)) (nt (dN D).natAbs) (dE D);rw[Jv.out]at h;exact h
    . exact((Hr5.out.arB _ MS _).arB _ MS _).arB _ MS _
    . exact((fB.out.setCell zp _).setCell zp _).setCell zp _
  . obtain rfl:k=m:=by omega
    have BJ:C=K.map yu:=by rw[List.take_of_length_le zo,List.take_of_length_le (by rw[List.length_map];have:=Hm.out;omega)]at htk;exact htk
    rw[BJ]at hov;obtain⟨dW,aZ⟩:=aI hov pb;have Hr:Hid (aj wr w.heap.size 91 [.int .i64 0,.slice none 0 0]):=hr;clear hov pb hr htk hdr hC BJ;obtain⟨r0,ag,r1,ah⟩:=Hr.out.g2;go_wp2;have hne:=(Hr.out.not_row zd dW.out).symm;have hrs:=Hr.out.lt;refine dx (λw9=>aj w9 w.heap.size 91 [.int .i64 V,.slice a2 k cap2]/\w9.ownsRow w0.heap.size 93 4 (.slice a2 k cap2) k ((K.map yu).flatMap bf)/\Bw w0 w9) ⟨(Hr.out.set 0 _).set 1 _,ownsRow_setCell_other (ownsRow_setCell_other dW.out hne _) hne _,(aZ.out.setCell hz _).setCell hz _⟩ ?_;rintro w9 ⟨qj,mB,jO⟩;obtain⟨q0,q1⟩:=qj.c2;exact bodyPost_ret (v:=.tuple #[.agg #[.int .i64 V,.slice a2 k cap2],.int .i64 0]) (by simp[results,Tryz.results152,go_sem,q0,q1]) rfl ⟨_,rfl,mB,jO⟩
theorem Lf (V:Int)(v:Value)(n:Nat)(ts C:List aO)(B:Nat)(w0 w:World)(hb0:Bw w0 w)(hn:ts.length=n)(hl:n<=4096)(ho:w.ownsRow w0.heap.size 93 4 v n (ts.flatMap bf))(hf:∀t∈ts,Fit B t.2)(hB:B+n+2<=268435456)(hT:az w0)(hC:cp ts=C):
 Calls Tryz.prog 152 #[.int .i64 V,v] w λe w'=>∃a c,e=.returned (.tuple #[.agg #[.int .i64 V,.slice a C.length c],.int .i64 0])/\w'.ownsRow w0.heap.size 93 4 (.slice a C.length c) C.length (C.flatMap bf)/\Bw w0 w':=by
 subst hC;refine(afc V v n ts B w0 w hb0 hn hl ho hf hB hT).mono ?_;rintro e w' ⟨v',rfl,h1,h2⟩;obtain⟨a,c,rfl,_,_⟩:=eH h1;exact⟨a,c,rfl,h1,h2⟩
theorem akC {w W:World}{b base k:Nat}{v x0 x1:Value}{xs:List Value}(hr:aj W b 91 [x0,x1])(ho:W.ownsRow base 93 4 v k xs)(hb:Bw w W)(hbs:w.heap.size<=b)(y0 y1:Value):
 aj ((W.setCell ⟨b,0,none⟩ y0).setCell ⟨b,1,none⟩ y1) b 91 [y0,y1]/\((W.setCell ⟨b,0,none⟩ y0).setCell ⟨b,1,none⟩ y1).ownsRow base 93 4 v k xs/\Bw w ((W.setCell ⟨b,0,none⟩ y0).setCell ⟨b,1,none⟩ y1):=by
 have hne:=(hr.not_row zd ho).symm;exact⟨(hr.set 0 _).set 1 _,ownsRow_setCell_other (ownsRow_setCell_other ho hne _) hne _,(hb.setCell hbs _).setCell hbs _⟩
theorem Bl {P:Program}{fn:Func}{R:Ending->World->Prop}{e:Exit}{a:Act}{w W:World}{b base k:Nat}{v x0 x1 y0 y1:Value}{xs:List Value}(hr:aj W b 91 [x0,x1])(ho:W.ownsRow base 93 4 v k xs)(hb:Bw w W)(hbs:w.heap.size<=b)
 (h:∀W',aj W' b 91 [y0,y1]->W'.ownsRow base 93 4 v k xs->Bw w W'->bodyPost P fn R e a W'):bodyPost P fn R e a ((W.setCell ⟨b,0,none⟩ y0).setCell ⟨b,1,none⟩ y1):=by
 obtain⟨h1,h2,h3⟩:=akC hr ho hb hbs y0 y1;exact h _ h1 h2 h3
theorem SL (a:Option Addr)(n cap:Nat)(ts:List aO)(w:World)(hn:ts.length=n)(hl:n<=1048576)(hs:Sl a n cap)(ha:At w a (ts.flatMap bf)):
 Calls Tryz.prog 151 #[.slice a n cap] w λe w'=>∃v',e=.returned v'/\w'.ownsRow w.heap.size 93 4 v' n (ts.flatMap bf)/\Bw w w':=by
 obtain⟨i0,hi,hz0,hz1,hz2⟩:=info_parts Tryz.arL;have q:=λ(w:World) (a:Option Addr) (n c n' c':Nat)=>Lib.run_eql_slice_nil (P:=Tryz.prog) w 89 93 a n c n' c' Tryz.underlying89;have hlen:(ts.flatMap bf).length=n*4:=by rw[mf bf 4 (λ_=>rfl),hn]
 obtain⟨cs,hcs⟩:=aB (ts.flatMap bf);have h1:=Py ts;rw[hcs]at hlen ha h1⊢;obtain⟨mS,Ha,H1,Hs,Hi,fg,fh,ey⟩:=mI hlen ha h1 hs hi hz0 hz1 hz2;clear hlen ha h1 hs hi hz0 hz1 hz2 hn hcs;cases a with
 | none=>
   have hc:=Hs.out.2 rfl;have hn0:n=0:=by have:=Hs.out.1;omega
   subst hc;subst hn0;go_enter Tryz.func151,Tryz.ntmps151;go_wp2;go_ret;refine⟨_,rfl,?_,Below.refl _ _⟩;have e:cs=[]:=List.eq_nil_of_length_eq_zero (by have:=mS.out;omega);rw[e];exact World.ownsRow_nil _ _ _ _
 |some ad=>go_enter Tryz.func151,Tryz.ntmps151;go_wp2_with (at_builtin;refine PN rfl _ _ 89 rfl w.heap.size 93 i0 _ 4 48 Tryz.underlying89 Hi.out fg.out fh.out ey.out rfl zd _ 0 [] rfl (World.ownsRow_made w #[] 0 (Nat.le_refl _) (Nat.zero_le _) zm) (some ad) n cap cs rfl Hs.out mS.out (Ha.out.below ((Below.refl _ w).alloc (Nat.le_refl _) _)) H1.out zx zo zm ?_;intro v' w1 hown hgrow kz);go_ret;refine⟨v',rfl,by simpa using hown,?_⟩;exact((Below.refl _ w).alloc (Nat.le_refl _) _).grown hgrow zm (λk hk=>by have h9:w.heap.size=k:=Option.some.inj hk;omega)
theorem ajI (V:Int)(ts:List aO)(h:∀t∈ts,gh t.1 V=true):(ts.any λt=>!gh t.1 V)=false:=by rw[List.any_eq_false];intro t ht;rw[h t ht];simp
theorem XG (V:Nat)(a:Option Addr)(n cap:Nat)(ts:List aO)(B:Nat)(w:World)(hV:V<=12)(hn:ts.length=n)(hl:n<=4096)(hs:Sl a n cap)(ha:At w a (ts.flatMap bf))(hm:∀t∈ts,gh t.1 V=true)(hl2:∀t∈ts,t.1.length<=9223372036854775807)
 (hf:∀t∈ts,Fit B t.2) (hB:B+n+2<=268435456) (hT:az w):
 Calls Tryz.prog 147 #[.int .i64 (V:Int),.slice a n cap] w λe w'=>∃a' c',e=.returned (.tuple #[.agg #[.int .i64 (V:Int),.slice a' (cp ts).length c'],.int .i64 0])/\w'.ownsRow w.heap.size 93 4 (.slice a' (cp ts).length c') (cp ts).length ((cp ts).flatMap bf)/\Bw w w':=by
 have eg:∀args w,(callFunc 186 args).run Tryz.prog w=.ok (.enter 186 args) w:=enters_of Tryz.func186 zk rfl;have hct:∀W bv,Bw w W->W.cell? ⟨bv,0,none⟩=some (.int .i64 (V:Int))->Calls Tryz.prog 185 #[.slice a n cap,.func (.func 186) #[] #[.pointer (some ⟨bv,0,none⟩)]] W λe w'=>e=.returned (.bool false)/\Bw W w':=by intro W bv hW hc;have h:=aft a n cap ts 186 #[.pointer (some ⟨bv,0,none⟩)] (λt=>!gh t.1 V) W hn zo (ha.below hW) eg (λx hx W2 hW2=>by simpa using ajG x.1 x.2.1 x.2.2.1 x.2.2.2 V bv W2 (cell_later hW2 hc) (hl2 x hx));rwa [ajI V ts hm]at h
 obtain⟨C,hC⟩:=aB (cp ts);have hcn:=λW (hW:Bw w W)=>(SL a n cap ts W hn zo hs (ha.below hW)).mono (λe w' h=>(match h with|⟨v,h1,h2,h3⟩=>⟨v,h1,h2,h3,h3⟩:∃v',e=.returned v'/\w'.ownsRow W.heap.size 93 4 v' n (ts.flatMap bf)/\Bw W w'/\Bw W w'));have hcl:=λw0 W v (hw0:Bw w w0) (hb0:Bw w0 W) (ho:W.ownsRow w0.heap.size 93 4 v n (ts.flatMap bf))=>Lf (V:Int) v n ts C B w0 W hb0 hn hl ho hf hB (hT.below hw0) hC;rw[hC];obtain⟨Jt,sk,gm⟩:=cG hct hcn hcl;clear hct hcn hcl hC ha hT hf hm hl2 hs hn eg;have pS:=λW=>EZ (V:Int) W;have hd:decide (0<=(V:Int)/\(V:Int)<=12)=true:=by simp;omega
 rw[hd]at pS;have Ay:=af pS;clear pS hd;have hni:¬(65536:Int)<(n:Int):=by omega
 have Hb:Hid (Bw w w):=Below.refl _ _;go_enter Tryz.func147,Tryz.ntmps147;go_wp2_with fail;obtain⟨R,hR⟩:∃R:World->Prop,(λW=>aj W (w.heap.size) 3 [.int .i64 (V:Int)]/\aj W (w.heap.size+1) 91 [.int .i64 0,.slice none 0 0]/\Bw w W)=R:=⟨_,rfl⟩;first|refine bQ R ?hR ?_|refine bP R ?hR ?_
 case hR=>subst hR;exact⟨((aj.newAt w _ _ (b:=w.heap.size) rfl).alloc _),(aj.newAt (w.alloc _) _ _ (b:=w.heap.size+1) zm),(zl.alloc zj _)⟩
 subst hR;rintro W ⟨qv,qr,ae⟩;have Hv:=af qv;clear qv;have Hr:=af qr;clear qr;have v0:=Hv.out.c1;obtain⟨r0,ag,r1,ah⟩:=Hr.out.g2;replace Hb:=ak Hb ae;clear ae;go_wp2_with fail;refine(Ay.out _).mono ?_;rintro e w1 ⟨rfl,ae⟩;clear v0 r0 ag r1 ah;replace Hv:=kB Hv ae;replace Hr:=kB Hr ae;have v0:=Hv.out.c1;obtain⟨r0,ag,r1,ah⟩:=Hr.out.g2;replace Hb:=ak Hb ae;clear ae;go_wp2_with fail;refine(Jt.out _ _ Hb.out v0).mono ?_;rintro e w2 ⟨rfl,ae⟩;clear v0 r0 ag r1 ah;replace Hv:=kB Hv ae;replace Hr:=kB Hr ae;have v0:=Hv.out.c1;obtain⟨r0,ag,r1,ah⟩:=Hr.out.g2;replace Hb:=ak Hb ae;clear ae;go_wp2_with fail;refine bW (λw'=>w'.cell? ⟨w.heap.size,0,none⟩=some (.int .i64 (V:Int))) (λi=>Nat.blt i 6) [(0,true),(1,true),(2,false),(3,false),(4,true),(5,true),(6,false),(7,false)] zk zk rfl zk zc v0 ?_;iterate 2 (refine pT rfl rfl ?_;try simp only[UU])
 have ada:=Hv;have lU:=Hr;have eK:=Hb;refine aC rfl rfl (λK hK=>?_);go_simp;with_reducible refine(sk.out _ (by first|exact Hb.out|exact Hb.out.drew)).mono ?_
 rintro e w3 ⟨v1,rfl,fP,ahv,hq⟩;have ae:Bw w2 w3:=by first|exact hq|exact aM hq
 clear v0 r0 ag r1 ah;replace Hv:=kB Hv ae;replace Hr:=kB Hr ae;have v0:=Hv.out.c1;obtain⟨r0,ag,r1,ah⟩:=Hr.out.g2;replace Hb:=ak Hb ae;clear ae;refine hK _ _ (λ_=>v0) ?_;clear hK K;try simp only[UU]
 refine aC rfl rfl (λK hK=>?_);go_simp;with_reducible refine(gm.out _ _ v1 (by first|exact eK.out|exact eK.out.drew) ahv fP).mono ?_
 rintro e w4 ⟨a2,c2,rfl,fQ,hq⟩;have ae:Bw w2 w4:=by first|exact hq|exact aM hq
 clear v0 r0 ag r1 ah;replace Hv:=af (ada.out.below ae);replace Hr:=af (lU.out.below ae);have v0:=Hv.out.c1;obtain⟨r0,ag,r1,ah⟩:=Hr.out.g2;replace Hb:=af (aH eK.out ae);clear ae;refine hK _ _ (λ_=>v0) ?_;clear hK K;try simp only[UU]
 iterate 2 (refine pT rfl rfl ?_;try simp only[UU])
 refine aC rfl rfl (λK hK=>?_);go_simp;refine hK _ _ (by first|exact λh=>absurd h zd|exact λ_=>v0|exact λ_=>fp zg v0) ?_;clear hK K;try simp only[UU]
 refine aC rfl rfl (λK hK=>?_);go_simp;refine hK _ _ (λh=>absurd h zd) ?_;clear hK K;try simp only[UU]
 simp only[aV];go_wp2;refine Bl (Hr.out) fQ Hb.out zo ?_;intro w9 qj mB jO;obtain⟨p0,p1⟩:=qj.c2;exact bodyPost_ret (v:=.tuple #[.agg #[.int .i64 (V:Int),.slice a2 C.length c2],.int .i64 0]) (by simp[results,Tryz.results147,go_sem,p0,p1]) rfl ⟨_,_,rfl,xt mB (by have:=eK.out.size;exact this),jO⟩
def vX (w:World)(a:Option Addr)(C:List aO):Prop:=C=[]\/∃b o cur,a=some ⟨b,o,none⟩/\w.heap[b]?=some (.cells cur 93)
theorem vX.below {w w':World}{a:Option Addr}{C:List aO}(h:vX w a C)(hb:Bw w w'):vX w' a C:=by
 rcases h with h|⟨b,o,cur,h1,h2⟩
 . exact .inl h
 . exact .inr ⟨b,o,cur,h1,by rw[hb.block b (Array.getElem?_eq_some_iff.1 h2).1];exact h2⟩
theorem vX.off {w:World}{a:Option Addr}{C:List aO}{g:Nat}{cur:Array Value}{t:TypeId}(h:vX w a C)(hg:w.heap[g]?=some (.cells cur t))(ht:t≠93)(i:Nat)(u:Value):vX (w.setCell ⟨g,i,none⟩ u) a C:=by
 rcases h with h|⟨b,o,cur',h1,h2⟩
 . exact .inl h
 . refine .inr ⟨b,o,cur',h1,?_⟩;have hne:b≠g:=λe=>by subst e;rw[hg]at h2;simp at h2;exact ht h2.2
   rw[Below.heap_setCell _ _ _ _ hne];exact h2
def cZ (w:World)(a:Option Addr)(c:Nat)(C:List aO):Prop:=At w a (C.flatMap bf)/\Sl a C.length c/\vX w a C
theorem cZ.below {w w':World}{a:Option Addr}{c:Nat}{C:List aO}(h:cZ w a c C)(hb:Bw w w'):cZ w' a c C:=⟨h.1.below hb,h.2.1,h.2.2.below hb⟩
theorem cZ.off {w:World}{a:Option Addr}{c:Nat}{C:List aO}{g:Nat}{cur:Array Value}{t:TypeId}(h:cZ w a c C)(hg:w.heap[g]?=some (.cells cur t))(ht:t≠93)(i:Nat)(u:Value):cZ (w.setCell ⟨g,i,none⟩ u) a c C:=by
 refine⟨?_,h.2.1,h.2.2.off hg ht i u⟩;rcases h.2.2 with h'|⟨b,o,cur',rfl,h2⟩
 . subst h';exact .inl rfl
 . have hne:b≠g:=λe=>by subst e;rw[hg]at h2;simp at h2;exact ht h2.2
   rcases h.1 with h1|⟨b1,o1,e1,hc⟩
   . exact .inl h1
   . simp only[Option.some.injEq,Addr.mk.injEq,and_true]at e1;obtain⟨rfl,rfl⟩:=e1;refine .inr ⟨b,o,rfl,λj hj=>?_⟩;have h9:=hc j hj;rw[List.getElem?_eq_getElem hj]at h9⊢;exact aG (.inl hne) h9
theorem cZ.store {w:World}{a:Option Addr}{c b:Nat}{t:TypeId}{C:List aO}{cs:List Value}(h:cZ w a c C)(hb:aj w b t cs)(ht:t≠93)(u v:Value):cZ ((w.setCell ⟨b,0,none⟩ u).setCell ⟨b,1,none⟩ v) a c C:=
 (h.off hb ht 0 u).off (hb.set 0 u) ht 1 v
theorem Ii {w:World}{base c:Nat}{a:Option Addr}{C:List aO}(h:w.ownsRow base 93 4 (.slice a C.length c) C.length (C.flatMap bf)):cZ w a c C:=by
 obtain⟨a',c',hv,hat,_⟩:=eH h;have hs:=xq h;simp only[Value.slice.injEq,true_and]at hv;obtain⟨rfl,rfl⟩:=hv;refine⟨hat,hs,?_⟩;rcases h.2 with⟨_,h2⟩ |⟨g,cap,cur,hv,hb,hg,_⟩
 . exact .inl (List.length_eq_zero_iff.1 h2)
 . simp only[Value.slice.injEq,true_and]at hv;exact .inr ⟨g,0,cur,hv.1,hg⟩
theorem anw (V:Nat):((List.range V).map λ_=>UInt8.ofNat 0)=jW V:=by
 unfold jW;apply List.ext_getElem
 . simp
 . intro i h1 h2;simp
theorem aiX (V:Nat)(D:Dyadic)(x:Raw)(l:Nat->Dyadic)(h:ar x=D):cp [(jW V,x)]=dM V D l 0:=by unfold dM;refine yw (λm=>?_);simp only[gA,List.range_zero,List.map_nil,cB,bL,h]
theorem SV (V:Nat)(s:Bool)(m:List UInt8)(e:Int)(D:Dyadic)(B:Nat)(l:Nat->Dyadic)(w:World)(hV:V<=12)(hf:Fit B (s,m,e))(hB:B+3<=268435456)(hT:az w)(hD:ar (s,m,e)=D):
 Calls Tryz.prog 97 #[.int .i64 (V:Int),.agg #[.bool s,.string (bs m),.int .i64 e]] w λex w'=>∃a' c',ex=.returned (.tuple #[.agg #[.int .i64 (V:Int),.slice a' (dM V D l 0).length c'],.int .i64 0])/\cZ w' a' c' (dM V D l 0)/\Bw w w':=by
 have hC:=aiX V D (s,m,e) l hD;obtain⟨C,Mg⟩:=aB (dM V D l 0);rw[Mg]at hC⊢;have hmk:=λW (hW:Bw w W) b (hb:aj W b 93 [.string (bs (jW V)),.bool s,.string (bs m),.int .i64 e])=>XG V (some ⟨b,0,none⟩) 1 1 [(jW V,(s,m,e))] B W hV rfl zo (Sl.some _ _ _ (Nat.le_refl _)) (At.arA hb) (by intro t ht;simp at ht;subst ht;exact aah V) (by intro t ht;simp at ht;subst ht;simp[jW];omega) (by intro t ht;simp at ht;subst ht;exact hf) zo (hT.below hW);rw[hC]at hmk;have pS:=λW=>EZ (V:Int) W;have hd:decide (0<=(V:Int)/\(V:Int)<=12)=true:=by simp;omega
 rw[hd]at pS;have hmb:=λW=>tK (V:Int) V rfl zo W;have hcv:∀W b,Hid (aj W b 5 (cN V λ_=>0))->(convert 94 9 (.slice (some ⟨b,0,none⟩) V V)).run Tryz.prog W=.ok (.string (bs (jW V))) W:=λW b h=>by rw[<-anw];exact zR h.out V
 obtain⟨rf,Ay⟩:=aI hmk pS;clear hmk pS hd hC Mg hT hf hD;have Hb:Hid (Bw w w):=Below.refl _ _;go_enter Tryz.func97,Tryz.ntmps97;go_wp2_with fail;obtain⟨R,hR⟩:∃R:World->Prop,(λW=>aj W (w.heap.size) 39 [.bool s,.string (bs m),.int .i64 e]/\aj W (w.heap.size+1) 91 [.int .i64 0,.slice none 0 0]/\Bw w W)=R:=⟨_,rfl⟩;first|refine bQ R ?hR ?_|refine bP R ?hR ?_
 case hR=>subst hR;exact⟨((aj.newAt w _ _ (b:=w.heap.size) rfl).alloc _),(aj.newAt (w.alloc _) _ _ (b:=w.heap.size+1) zm),(zl.alloc zj _)⟩
 subst hR;rintro W ⟨qc,qr,ae⟩;have Hc:=af qc;clear qc;have Hr:=af qr;clear qr;obtain⟨c0,c1,c2⟩:=Hc.out.c3;obtain⟨r0,ag,r1,ah⟩:=Hr.out.g2;replace Hb:=ak Hb ae;clear ae;go_wp2_with fail;refine(Ay.out _).mono ?_;rintro e w1 ⟨rfl,ae⟩;clear c0 c1 c2 r0 ag r1 ah;replace Hc:=kB Hc ae;replace Hr:=kB Hr ae;obtain⟨c0,c1,c2⟩:=Hc.out.c3;obtain⟨r0,ag,r1,ah⟩:=Hr.out.g2;replace Hb:=ak Hb ae;clear ae;go_wp2_with fail;refine bW (λw'=>w'.cell? ⟨w.heap.size,0,none⟩=some (.bool s)/\w'.cell? ⟨w.heap.size,1,none⟩=some (.string (bs m))/\w'.cell? ⟨w.heap.size,2,none⟩=some (.int .i64 e)) (λi=>Nat.blt i 10) [(0,true),(1,true),(4,true),(2,false),(3,false),(5,true),(6,false),(7,false),(8,true),(9,true),(10,false),(11,false)] zk zk rfl zk zc ⟨c0,c1,c2⟩ ?_;iterate 3 (refine pT rfl rfl ?_ (by intro w' ⟨q0,q1,q2⟩;go_simp;try with_reducible rfl);try simp only[UU])
 refine aC rfl rfl (λK hK=>?_);go_simp;refine hK _ _ (λ_=>⟨aJ c0,aJ c1,aJ c2⟩) ?_;clear hK K;try simp only[UU]
 refine bI (λW3=>aj W3 (w1.heap.size) 5 (cN V (λ_=>0))/\Bw w1 W3) (by first|exact cS|exact cV) ?_;rintro W3 ⟨qq,ae⟩;clear c0 c1 c2 r0 ag r1 ah;have Xv:=Hc.out.lt;have GM:=Hr.out.lt;replace Hc:=kB Hc ae;replace Hr:=kB Hr ae;have Hq:=af qq;clear qq;obtain⟨c0,c1,c2⟩:=Hc.out.c3;obtain⟨r0,ag,r1,ah⟩:=Hr.out.g2;replace Hb:=ak Hb ae;clear ae;refine aC rfl rfl (λK hK=>?_);go_simp;refine hK _ _ (λ_=>⟨c0,c1,c2⟩) ?_;clear hK K;try simp only[UU]
 refine pT rfl rfl ?_;try simp only[UU]
 refine aC rfl rfl (λK hK=>?_);go_simp;refine hK _ _ (λ_=>⟨aJ c0,aJ c1,aJ c2⟩) ?_;clear hK K;try simp only[UU]
 refine bI (λW4=>aj W4 (W3.heap.size) 93 [.string (bs (jW V)),.bool s,.string (bs m),.int .i64 e]/\Bw W3 W4) (by first|exact cS|exact cV) ?_;rintro W4 ⟨qz,ae⟩;clear c0 c1 c2 r0 ag r1 ah;have ajl:=Hc.out.lt;have GN:=Hr.out.lt;have aql:=Hq.out.lt;replace Hc:=kB Hc ae;replace Hr:=kB Hr ae;replace Hq:=kB Hq ae;have Hz:=af qz;clear qz;obtain⟨c0,c1,c2⟩:=Hc.out.c3;obtain⟨r0,ag,r1,ah⟩:=Hr.out.g2;obtain⟨z0,z1,z2,z3⟩:=Hz.out.c4;replace Hb:=ak Hb ae;clear ae;refine aC rfl rfl (λK hK=>?_);go_simp;with_reducible refine(rf.out _ Hb.out _ Hz.out).mono ?_
 rintro e w5 ⟨a2,d2,rfl,fQ,hq⟩;have ae:Bw W4 w5:=by first|exact hq|exact aM hq
 clear c0 c1 c2 r0 ag r1 ah z0 z1 z2 z3;replace Hc:=kB Hc ae;replace Hr:=kB Hr ae;replace Hq:=kB Hq ae;replace Hz:=kB Hz ae;obtain⟨c0,c1,c2⟩:=Hc.out.c3;obtain⟨r0,ag,r1,ah⟩:=Hr.out.g2;obtain⟨z0,z1,z2,z3⟩:=Hz.out.c4;replace Hb:=ak Hb ae;clear ae;refine hK _ _ (λ_=>⟨c0,c1,c2⟩) ?_;clear hK K;try simp only[UU]
 iterate 2 (refine pT rfl rfl ?_;try simp only[UU])
 refine aC rfl rfl (λK hK=>?_);go_simp;refine hK _ _ (by first|exact λh=>absurd h zd|exact λ_=>⟨c0,c1,c2⟩ |exact λ_=>⟨(by first|exact c0|exact aG zf c0|exact aG zf (aG zf c0) |exact aG zf (aG zf (aG zf c0))),(by first|exact c1|exact aG zf c1|exact aG zf (aG zf c1) |exact aG zf (aG zf (aG zf c1))),(by first|exact c2|exact aG zf c2|exact aG zf (aG zf c2) |exact aG zf (aG zf (aG zf c2)))⟩) ?_;clear hK K;try simp only[UU]
 refine aC rfl rfl (λK hK=>?_);go_simp;refine hK _ _ (λh=>absurd h zd) ?_;clear hK K;try simp only[UU]
 simp only[aV];go_wp2;refine Bl (Hr.out) fQ Hb.out zo ?_;intro w9 qj mB jO;obtain⟨p0,p1⟩:=qj.c2;exact bodyPost_ret (v:=.tuple #[.agg #[.int .i64 (V:Int),.slice a2 C.length d2],.int .i64 0]) (by simp[results,Tryz.results97,go_sem,p0,p1]) rfl ⟨_,_,rfl,Ii mB,jO⟩
theorem amW (V k:Nat):((List.range V).map λj=>UInt8.ofNat (if j=k then 1 else 0))=dQ V k:=by
 unfold dQ;apply List.ext_getElem
 . simp
 . intro i h1 h2;rw[List.getElem_map,List.getElem_range,List.getElem_set];by_cases h:k=i
   . subst h;simp
   . rw[if_neg (λe=>h e.symm),if_neg h];simp
theorem amX :Fit 1 (canon (1:Dyadic)):=Sm.one.fit zd
theorem am0 (V k:Nat)(w:World)(hV:V<=12)(hk:k<V)(hT:az w):
 Calls Tryz.prog 149 #[.int .i64 (V:Int),.int .i64 (k:Int)] w λex w'=>∃a' c',ex=.returned (.tuple #[.agg #[.int .i64 (V:Int),.slice a' (cp [(dQ V k,canon 1)]).length c'],.int .i64 0])/\cZ w' a' c' (cp [(dQ V k,canon 1)])/\Bw w w':=by
 obtain⟨C,hC⟩:=aB (cp [(dQ V k,canon 1)]);rw[hC];obtain⟨O,hO⟩:∃O:Dyadic,(1:Dyadic)=O:=⟨_,rfl⟩;have hmk:=λW (hW:Bw w W) b (hb:aj W b 93 [.string (bs (dQ V k)),.bool (ai (dN O)),.string (bs (nt (dN O).natAbs)),.int .i64 (dE O)])=>XG V (some ⟨b,0,none⟩) 1 1 [(dQ V k,canon 1)] 1 W hV rfl zo (Sl.some _ _ _ (Nat.le_refl _)) (by rw[hO];exact At.arA hb) (by intro t ht;simp at ht;subst ht;exact PD V k) (by intro t ht;simp at ht;subst ht;simp[dQ];omega) (by intro t ht;simp at ht;subst ht;exact amX) zo (hT.below hW);rw[hC]at hmk;have hof:=λW (hW:Bw w W)=>rA 1 O hO W zd (hT.below hW);have pS:=λW=>EZ (V:Int) W;have hd:decide (0<=(V:Int)/\(V:Int)<=12)=true:=by simp;omega
 rw[hd]at pS;have hmb:=λW=>tK (V:Int) V rfl zo W;have hcv:∀W b,Hid (aj W b 5 (cN V λj=>if j=k then 1 else 0))->(convert 94 9 (.slice (some ⟨b,0,none⟩) V V)).run Tryz.prog W=.ok (.string (bs (dQ V k))) W:=λW b h=>by rw[<-amW V k];exact zR h.out V
 have bB:=λb=>wY V V k (k:Int) (rfl:(some ⟨b,0,none⟩:Option Addr)=_) hk rfl;simp only[Nat.zero_add,Nat.mul_one]at bB;have hget:(cN V λ_=>0)[k]?=some (.int .u8 0):=kJ _ _ _ hk;have iU:(cN V λ_=>0).set k (.int .u8 1)=cN V λj=>if j=k then 1 else 0:=zS V _ k 1
 obtain⟨rf,yb,Ay⟩:=cG hmk hof pS;clear hmk hof pS hd hC hT hO;have Gf:¬(k:Int)<0:=by omega
 have Hb:Hid (Bw w w):=Below.refl _ _;go_enter Tryz.func149,Tryz.ntmps149;go_wp2_with fail;obtain⟨R,hR⟩:∃R:World->Prop,(λW=>aj W (w.heap.size) 91 [.int .i64 0,.slice none 0 0]/\Bw w W)=R:=⟨_,rfl⟩;first|refine bQ R ?hR ?_|refine bP R ?hR ?_
 case hR=>subst hR;exact⟨(aj.newAt w _ _ (b:=w.heap.size) rfl),zl⟩
 subst hR;rintro W ⟨qr,ae⟩;have Hr:=af qr;clear qr;obtain⟨r0,ag,r1,ah⟩:=Hr.out.g2;replace Hb:=ak Hb ae;clear ae;go_wp2_with fail;refine(Ay.out _).mono ?_;rintro e w1 ⟨rfl,ae⟩;clear r0 ag r1 ah;replace Hr:=kB Hr ae;obtain⟨r0,ag,r1,ah⟩:=Hr.out.g2;replace Hb:=ak Hb ae;clear ae;go_wp2_with fail;obtain⟨R,hR⟩:∃R:World->Prop,(λW3=>aj W3 w1.heap.size 5 (cN V λj=>if j=k then 1 else 0)/\Bw w1 W3)=R:=⟨_,rfl⟩;first|refine bQ R ?hR ?_|refine bP R ?hR ?_
 case hR=>subst hR;exact⟨aj.newAt w1 _ _ (b:=w1.heap.size) rfl,zl⟩
 subst hR;intro W3 ⟨qm,ae⟩;clear r0 ag r1 ah;replace Hr:=kB Hr ae;obtain⟨r0,ag,r1,ah⟩:=Hr.out.g2;replace Hb:=af (aH Hb.out ae);have Hm:=af qm;clear qm ae hget iU bB hmb;have jX:∀w',gB W3 w'->(convert 94 9 (.slice (some ⟨w1.heap.size,0,none⟩) V V)).run Tryz.prog w'=.ok (.string (bs (dQ V k))) w':=λw' h=>hcv w' _ (af (Hm.out.below h));have aF:Hid (gB W3 W3):=Below.refl _ _;refine bW (λw'=>gB W3 w') (λi=>Nat.blt i 9) [(0,true),(1,true),(2,true),(3,false),(4,true),(5,false),(6,false),(7,true),(8,true),(9,false),(10,false)] zk zk rfl zk zc aF.out.drew ?_;iterate 3 (refine Yt rfl rfl (v:=?_) (λw' hw'=>?_) ?_;rotate_left;(focus have hw':=jX w' hw';go_simp;try with_reducible rfl);try simp only[UU])
 refine aC rfl rfl (λK hK=>?_);go_simp;with_reducible refine(yb.out _ (by first|exact Hb.out|exact Hb.out.drew)).mono ?_
 rintro e w4 ⟨rfl,hq⟩;have ae:Bw W3 w4:=by first|exact hq|exact aM hq
 clear r0 ag r1 ah;replace aF:=af (aF.out.below ae);replace Hr:=kB Hr ae;obtain⟨r0,ag,r1,ah⟩:=Hr.out.g2;replace Hb:=ak Hb ae;clear ae;refine hK _ _ (λ_=>aF.out) ?_;clear hK K;try simp only[UU]
 refine pT rfl rfl ?_;try simp only[UU]
 refine aC rfl rfl (λK hK=>?_);go_simp;refine hK _ _ (λ_=>by first|exact aF.out.alloc _|exact(aF.out.alloc _).drew|exact(aF.out.drew).alloc _) ?_;clear hK K;try simp only[UU]
 refine bI (λW5=>aj W5 (w4.heap.size) 93 [.string (bs (dQ V k)),.bool (ai (dN O)),.string (bs (nt (dN O).natAbs)),.int .i64 (dE O)]/\Bw w4 W5) (by first|exact cS|exact cV) ?_;rintro W5 ⟨qz,ae⟩;clear r0 ag r1 ah;have GP:=Hr.out.lt;replace aF:=af (aF.out.below ae);replace Hr:=kB Hr ae;have Hz:=af qz;clear qz;obtain⟨r0,ag,r1,ah⟩:=Hr.out.g2;obtain⟨z0,z1,z2,z3⟩:=Hz.out.c4;replace Hb:=ak Hb ae;clear ae;refine aC rfl rfl (λK hK=>?_);go_simp;with_reducible refine(rf.out _ Hb.out _ Hz.out).mono ?_
 rintro e w6 ⟨a2,d2,rfl,fQ,hq⟩;have ae:Bw W5 w6:=by first|exact hq|exact aM hq
 clear r0 ag r1 ah z0 z1 z2 z3;replace aF:=af (aF.out.below ae);replace Hr:=kB Hr ae;replace Hz:=kB Hz ae;obtain⟨r0,ag,r1,ah⟩:=Hr.out.g2;obtain⟨z0,z1,z2,z3⟩:=Hz.out.c4;replace Hb:=ak Hb ae;clear ae;refine hK _ _ (λ_=>aF.out) ?_;clear hK K;try simp only[UU]
 iterate 2 (refine pT rfl rfl ?_;try simp only[UU])
 refine aC rfl rfl (λK hK=>?_);go_simp;refine hK _ _ (by first|exact λh=>absurd h zd|exact λ_=>aF.out|exact λ_=>fp zg aF.out) ?_;clear hK K;try simp only[UU]
 refine aC rfl rfl (λK hK=>?_);go_simp;refine hK _ _ (λh=>absurd h zd) ?_;clear hK K;try simp only[UU]
 simp only[aV];go_wp2;refine Bl (Hr.out) fQ Hb.out zo ?_;intro w9 qj mB jO;obtain⟨p0,p1⟩:=qj.c2;exact bodyPost_ret (v:=.tuple #[.agg #[.int .i64 (V:Int),.slice a2 C.length d2],.int .i64 0]) (by simp[results,Tryz.results149,go_sem,p0,p1]) rfl ⟨_,_,rfl,Ii mB,jO⟩
end Go.Proofs.YtoopepmmepmfnaaGreatDoor
