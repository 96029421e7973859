/- Package bound: begin,halve,may,Order. -/
import Derived.Test.YtoopepmmepmfnaaGreatDoorZ13
import Derived.Test.YtoopepmmepmfnaaGreatDoorZ11
import Derived.Test.YtoopepmmepmfnaaGreatDoorZ12
set_option linter.unusedVariables false
set_option linter.unusedSimpArgs false
set_option maxRecDepth 100000
set_option maxHeartbeats 16000000
namespace Go.Proofs.YtoopepmmepmfnaaGreatDoor
open Go.RowKit
attribute [local go_sem ↓] Go.wp_at_zero Go.wp_at_succ
def kR (f:Nat->Nat)(n:Nat):List Value:=(List.range n).map λi=>af (f i:Int)
theorem Tx (f:Nat->Nat)(n:Nat):(kR f n).length=n:=by simp[kR]
theorem adf (f:Nat->Nat)(n i:Nat)(h:i<(kR f n).length):(kR f n)[i]=af (f i:Int):=by simp[kR]
theorem arj (f:Nat->Nat)(n a:Nat)(v:Int)(hv:v=((f a+1:Nat):Int)):(kR f n).set a (af v)=kR (λi=>f i+if i=a then 1 else 0) n:=by
 subst hv;apply List.ext_getElem?;intro j;rw[List.getElem?_set,Tx];by_cases h:j<n
 . by_cases e:a=j
   . subst e;simp[kR,h]
   . simp[kR,h,e,Ne.symm e]
 . by_cases e:a=j
   . subst e;simp[kR,h]
   . simp[kR,h,e]
theorem ark (n:Nat):List.replicate n (Value.int .i64 0)=kR (λ_=>0) n:=by
 apply List.ext_getElem?;intro j;by_cases h:j<n
 . simp[kR,h]
 . simp[kR,h]
theorem Tryz.axe :(Tryz.prog.info? 3).map (λi=>(i.zero,i.size,i.bytes))=some (some (af 0),1,8):=by kernel_rfl
theorem anR (c:Int)(n:Nat)(hc:c=n)(h:n<=1048576)(w:World):
 (Instr.makeSlice 26 (af c) (af c)).run Tryz.prog w=.ok (.slice (some ⟨w.heap.size,0,none⟩) n n) (w.alloc (.cells (kR (λ_=>0) n).toArray 3)):=by
 subst hc;obtain⟨i0,hi,hz0,hz1,hz2⟩:=info_parts Tryz.axe;rw[run_make (P:=Tryz.prog) w 26 3 i0 _ Tryz.underlying26 hi hz0 .i64 .i64 n n zo zo (by rw[hz2];omega) zo];simp only[Int.toNat_natCast,hz1,Nat.mul_one];rw[<-ark,<-toList_madeCells_one];simp[Value.cells]
def nJ (w:World)(top xb ib L:Nat)(bx:List (Raw×Raw))(t:Nat->Nat):Prop:=
 ∃a c,ar w xb 75 [.slice a L c,.slice (some ⟨ib,0,none⟩) L L]/\At w a (bx.flatMap dP)/\ar w ib 3 (kR t L)/\(∀b o,a=some ⟨b,o,none⟩->b≠xb/\b≠ib/\(b<top\/∃cs,ar w b 61 cs))/\xb≠ib
theorem nJ.below {w w':World}{top xb ib L:Nat}{bx:List (Raw×Raw)}{t:Nat->Nat}(h:nJ w top xb ib L bx t)(hb:Bw w w'):nJ w' top xb ib L bx t:=by
 obtain⟨a,c,h1,h2,h3,h4,h5⟩:=h;refine⟨a,c,h1.below hb,h2.below hb,h3.below hb,λb o e=>⟨(h4 b o e).1,(h4 b o e).2.1,?_⟩,h5⟩;rcases(h4 b o e).2.2 with h|⟨cs,h⟩
 . exact .inl h
 . exact .inr ⟨cs,h.below hb⟩
theorem nJ.row {w w':World}{top xb ib L base size k:Nat}{bx:List (Raw×Raw)}{t:Nat->Nat}{v:Value}{xs:List Value}(h:nJ w top xb ib L bx t)(hr:w.ownsRow base 3 size v k xs)(h1:top<=base)(h2:xb<base)(h3:ib<base)(hg:w.grownBy w' v.ownBlock):nJ w' top xb ib L bx t:=by
 obtain⟨a,c,q1,q2,q3,q4,q5⟩:=h;have hlo:∀b,b<base->some b≠v.ownBlock:=λb hb e=>by have:=dz hr b e.symm;omega
 have hne:∀b o,a=some ⟨b,o,none⟩->some b≠v.ownBlock:=λb o e=>by
  rcases(q4 b o e).2.2 with h|⟨cs,h⟩
  . exact hlo b zo
  . exact h.not_row zd hr
 refine⟨a,c,q1.grown hg (hlo _ h2),q2.grown hg hne,q3.grown hg (hlo _ h3),λb o e=>⟨(q4 b o e).1,(q4 b o e).2.1,?_⟩,q5⟩;rcases(q4 b o e).2.2 with h|⟨cs,h⟩
 . exact .inl h
 . exact .inr ⟨cs,h.grown hg (hne b o e)⟩
theorem Wc (a:Option Addr)(L cap:Nat)(bx:List (Raw×Raw))(w:World)(hL:bx.length=L)(h1:1<=L)(hl:L<=1000)(ha:At w a (bx.flatMap dP)):
 Calls Tryz.prog 33 #[.slice a L cap] w λe w'=>∃xb ib,e=.returned (.pointer (some ⟨xb,0,none⟩))/\w.heap.size<=xb/\w.heap.size<=ib/\xb<w'.heap.size/\ib<w'.heap.size/\nJ w' w.heap.size xb ib L bx (λ_=>0)/\Bw w w':=by
 have hmk:=anR (L:Int) L rfl zo;have hab:∀b o,a=some ⟨b,o,none⟩->b<w.heap.size:=λb o e=>by subst e;exact ha.lt (by intro h0;have h9:=congrArg List.length h0;rw[Tg,List.length_nil]at h9;omega)
 have Ha:=ai ha;clear ha hL;have Hb:Hid (Bw w w):=Below.refl _ _;go_enter Tryz.func33,Tryz.ntmps33;go_wp2;refine dW (λw9=>ar w9 (w.heap.size+1) 75 [.slice a L cap,.slice (some ⟨w.heap.size,0,none⟩) L L]/\ar w9 w.heap.size 3 (kR (λ_=>0) L)/\Bw w w9) ⟨ar.newAt _ _ _ zm,(ar.newAt _ _ _ rfl).alloc _,((Below.refl _ w).alloc (Nat.le_refl _) _).alloc zm _⟩ ?_;rintro w9 ⟨hx,hi,hb⟩;refine bodyPost_ret (results_tmp rfl _ _ _) rfl ⟨w.heap.size+1,w.heap.size,rfl,by omega,Nat.le_refl _,hx.lt,hi.lt,⟨a,cap,hx,Ha.out.below hb,hi,λb o e=>?_,by omega⟩,hb⟩;have:=hab b o e;exact⟨by omega,by omega,.inl this⟩
theorem Ws {Y:Nat->Prop}{w W:World}(h:Chg Y w W)(b i:Nat)(v:Value)(hy:Y b):Chg Y w (W.setCell ⟨b,i,none⟩ v):=
 ⟨h.os,h.tape,h.output,by show w.heap.size<=(W.setCell _ _).heap.size;rw[show(W.setCell ⟨b,i,none⟩ v).heap.size=W.heap.size from by unfold World.setCell;simp];exact h.size,λk hk hn=>(Below.heap_setCell W ⟨b,i,none⟩ v k (λe=>hn (by rw[e];exact hy))).trans (h.block k hk hn)⟩
theorem At.chgS {Y:Nat->Prop}{w w':World}{a:Option Addr}{cs:List Value}(h:At w a cs)(hc:Chg Y w w')(hy:∀b o,a=some ⟨b,o,none⟩->¬Y b):At w' a cs:=by
 rcases h with h|⟨b,o,ha,hcs⟩
 . exact .inl h
 . refine .inr ⟨b,o,ha,λj hj=>?_⟩;have h1:=hcs j hj;rw[List.getElem?_eq_getElem hj]at h1⊢;exact hc.cell h1 (hy b o ha)
theorem At.so {w:World}{a:Option Addr}{cs:List Value}(h:At w a cs)(p i:Nat)(hne:∀b o,a=some ⟨b,o,none⟩->p≠b)(v:Value):At (w.setCell ⟨p,i,none⟩ v) a cs:=by
 rcases h with h|⟨b,o,ha,hcs⟩
 . exact .inl h
 . refine .inr ⟨b,o,ha,λj hj=>?_⟩;have h1:=hcs j hj;rw[List.getElem?_eq_getElem hj]at h1⊢;exact gG (by have:=hne b o ha;dsimp only;omega) h1
theorem aqp (top xb ib L B:Nat)(bx:List (Raw×Raw))(t:Nat->Nat)(w:World)(hL:bx.length=L)(h1:1<=L)(hl:L<=1000)(hf:jK B bx)(hB:B<=1000000)(ht:∀i,t i<=1000000)(hS:nJ w top xb ib L bx t)(hT:aH w):
 Calls Tryz.prog 34 #[.pointer (some ⟨xb,0,none⟩)] w λe w'=>e=.returned (af (uU (bx.map cN):Int))/\nJ w' top xb ib L ((rR (bx.map cN) (uU (bx.map cN)) false).map fw) (λi=>t i+if i=uU (bx.map cN)then 1 else 0)/\Chg (λb=>b=xb\/b=ib) w w':=by
 obtain⟨a,c,RF,hat,hib,hab,hne⟩:=hS;obtain⟨ax,uz⟩:=aG (uU (bx.map cN));have Qu:ax<L:=by rw[<-uz];unfold uU;have h9:=(Wd (λi=>Bl ((bx.map cN).getD i (0,0))) (bx.map cN).length (by rw[List.length_map,hL];exact h1)).1;rw[List.length_map,hL]at h9⊢;exact h9
 have nX:=λW (hW:Bw w W)=>ais a L c B bx W hL h1 hl hf hB (hat.below hW) (hT.below hW);have xE:=λW (hW:Bw w W)=>aiq a L c B bx ax W hL Qu hl hf hB (hat.below hW) (hT.below hW);rw[uz]at nX⊢;have hst:=arj t L ax ((t ax:Int)+1) zo;have Rt:=ht ax;have hxl:=RF.lt;have hil:=hib.lt;obtain⟨G,hG⟩:=aG ((rR (bx.map cN) ax false).map fw);rw[hG]at xE⊢;obtain⟨vt,Jq,bX,Hx,Hi⟩:=gJ nX xE hst RF hib;clear nX xE hst RF hat hib hab uz hG hf hL ht hT;have Hb:Hid (Bw w w):=Below.refl _ _;go_enter Tryz.func34,Tryz.ntmps34;obtain⟨x0,x1⟩:=Hx.out.c2;go_wp2_with fail;refine(vt.out _ Hb.out).mono ?_;rintro e w1 ⟨rfl,ae⟩;clear x0 x1;obtain⟨Hx,x0,x1⟩:=aR Hx ae;replace Hi:=kB Hi ae;replace Hb:=aB Hb ae;clear ae;have bW:=Hb;have tW:=Hb.out.size;have hwx:w.heap.size<=w1.heap.size:=tW;go_upto_region 2 with fail
 go_cut[] (λwx=>∃g1:Nat,w.heap.size<=g1/\ar wx xb 75 [.slice (some ⟨g1,0,none⟩) L L,.slice (some ⟨ib,0,none⟩) L L]/\ar wx ib 3 (kR t L)/\ar wx g1 61 (G.flatMap dP)/\Chg (λb=>b=xb\/b=ib) w wx);case first=>go_wp2_with fail;refine(Jq.out _ Hb.out).mono ?_;rintro e w2 ⟨g1,g2,rfl,hg1,hg2,ht1,ht2,ae⟩;clear x0 x1;obtain⟨Hx,x0,x1⟩:=aR Hx ae;replace Hi:=kB Hi ae;replace Hb:=aB Hb ae;clear ae;have BW:=ai ht1;have f0:=Hx.out.free 0;clear ht1 ht2;go_wp2_with fail;go_meet;exact⟨g1,by omega,Hx.out.set 0 _,Hi.out.so xb 0 hne _,BW.out.so xb 0 zo _,Ws (Chg.of_below Hb.out) xb 0 _ (.inl rfl)⟩
 case rest=>
  obtain⟨g1,hg1,qx,qi,qt,qb⟩:=hcut;obtain⟨Hx,Hi,BW,Hb⟩:=dx qx qi qt qb;obtain⟨i0,fi0⟩:=zu qi ax (by rw[Tx];exact Qu);rw[adf]at i0;clear qx qi qt qb bW vt Jq x0 x1;have bK:=xU L L ax (ax:Int) (rfl:(some ⟨ib,0,none⟩:Option Addr)=_) Qu rfl;rw[Nat.mul_one,Nat.zero_add]at bK;have hwr:IntKind.i64.wrap ((t ax:Int)+1)=(t ax:Int)+1:=by rw[IntKind.wrap_i64];omega
  obtain⟨x0,x1⟩:=Hx.out.c2;go_wp2;refine dW (λw9=>ar w9 xb 75 [.slice (some ⟨g1,0,none⟩) L L,.slice (some ⟨ib,0,none⟩) L L]/\ar w9 ib 3 ((kR t L).set ax (af ((t ax:Int)+1)))/\ar w9 g1 61 (G.flatMap dP)/\Chg (λb=>b=xb\/b=ib) w w9) ⟨Hx.out.so ib ax hne.symm _,Hi.out.set ax _,BW.out.so ib ax zo _,Ws Hb.out ib ax _ (.inr rfl)⟩ ?_;rintro w9 ⟨hx9,Zu,Lx,jE⟩;rw[bX.out]at Zu;refine bodyPost_ret (results_tmp rfl _ _ _) rfl ⟨rfl,⟨_,_,hx9,At.aw2 Lx,Zu,λb o e=>?_,hne⟩,jE⟩;simp only[Option.some.injEq,Addr.mk.injEq,and_true]at e;obtain⟨rfl,_⟩:=e;exact⟨by omega,by omega,.inr ⟨_,Lx⟩⟩
theorem Tryz.aw6 :(Tryz.prog.info? 93).map (λi=>(i.zero,i.size,i.bytes))=some (some (.agg #[.string (bs []),ag false,.string (bs []),af 0]),4,48):=by kernel_rfl
theorem mB (ts:List aM):(ts.flatMap aX).length=ts.length*4:=nM aX 4 (λ_=>rfl) ts
theorem tX (ts:List aM):∀u∈ts.flatMap aX,u.oneCell'=true:=by intro u hu;obtain⟨r,_,hr⟩:=List.mem_flatMap.1 hu;simp only[aX,List.mem_cons,List.not_mem_nil,or_false]at hr;rcases hr with rfl|rfl|rfl|rfl<;>rfl
theorem Tw (t:aM)(ts:List aM):(t::ts).flatMap aX=aX t++ts.flatMap aX:=List.flatMap_cons
theorem At.tail {w:World}{b o c:Nat}{x:aM}{ts:List aM}(h:At w (some ⟨b,o,none⟩) ((x::ts).flatMap aX))(hc:ts.length+1<=c):At w (if c=1 then some ⟨b,o,none⟩else some ⟨b,o+4,none⟩) (ts.flatMap aX):=by
 have hk:=At.cut (k:=1) (size:=4) (n:=ts.length+1) (cap:=c) h (by rw[mB];rfl) zo hc;have e:((x::ts).flatMap aX).drop (1*4)=ts.flatMap aX:=by rw[Tw];rfl
 rw[e]at hk;exact hk
theorem Sl.tail {b o c n:Nat}(h:Sl (Option.some ⟨b,o,none⟩) (n+1) c):Sl (if c=1 then Option.some (⟨b,o,none⟩:Addr)else Option.some ⟨b,o+4,none⟩) n (c-1):=by refine⟨by have:=h.1;omega,λe=>?_⟩;split at e<;>cases e
theorem aqs (l l':List UInt8):(wz l l'= -1/\Op.bytesLess l l'=true)\/(wz l l'=1/\Op.bytesLess l l'=false/\Op.bytesLess l' l=true)\/(wz l l'=0/\Op.bytesLess l l'=false/\Op.bytesLess l' l=false):=by
 unfold wz;cases h1:Op.bytesLess l l' with
 |true=>exact .inl ⟨by simp,rfl⟩
 | false=>
   cases h2:Op.bytesLess l' l with
   |true=>exact .inr (.inl ⟨by simp,rfl,rfl⟩)
   |false=>exact .inr (.inr ⟨by simp,rfl,rfl⟩)
theorem abD (a:Option Addr)(n cap:Nat)(ta:List aM)(a':Option Addr)(n' cap':Nat)(tb:List aM)(B:Nat)(w:World)(hn:ta.length=n)(hn':tb.length=n')(hs:Sl a n cap)(hs':Sl a' n' cap')(hl:n<=65536)(hl':n'<=65536)(ha:At w a (ta.flatMap aX))(ha':At w a' (tb.flatMap aX))
 (tC:∀t∈ta,Fit B t.2) (xB:∀t∈tb,Fit B t.2) (hB:B+2<=268435456) (hT:aH w):
 Calls Tryz.prog 154 #[.slice a n cap,.slice a' n' cap',.func (.func 155) #[] #[],.func (.func 156) #[] #[]] w λe w'=>∃v',e=.returned v'/\w'.ownsRow w.heap.size 93 4 v' (il ta tb).length ((il ta tb).flatMap aX)/\Bw w w':=by
 obtain⟨i0,hi,hz0,hz1,hz2⟩:=info_parts Tryz.aw6;obtain⟨M,hM⟩:=aG (il ta tb);have Fh:=enters_of Tryz.func155 zk rfl;have Ff:=enters_of Tryz.func156 zk rfl;rw[hM];obtain⟨Hi,dF,dG,dm,HM,Nc,Nb,Hs,Vq,Ha,ud,En⟩:=gB hi hz0 hz1 hz2 hM Fh Ff hs hs' ha ha' tC;obtain⟨Eo,HT,Hn,Vh⟩:=dx xB hT hn hn';obtain⟨N,hN⟩:=aG (n+n');have XX:(n:Int)+(n':Int)=(N:Int):=by omega
 have HN:=ai hN;clear hi hz0 hz1 hz2 hM Fh Ff hs hs' ha ha' tC xB hT hn hn' hN;have XW:N<=131072:=by have:=HN.out;omega
 go_enter Tryz.func154,Tryz.ntmps154;go_wp2_with (at_make;refine wpList_make_own _ rfl _ _ 89 rfl w.heap.size 93 i0 _ 4 Tryz.underlying89 Hi.out dF.out dG.out _ _ _ N rfl rfl (by first|exact XX|rfl) (by rw[dm.out];omega) zx (Nat.le_refl _) ?_;intro w1 hown hgrow);obtain⟨hb1,pN⟩:=aO ((Below.refl w.heap.size w).grown hgrow (Nat.le_refl _) (by intro k hk;cases hk)) hown;clear hown hgrow XX
 go_loopw[0,1,9] (λva vb vo wr=>∃(ra rb acc:List aM) (p q ca cb:Nat) (aa ab:Option Addr) (v:Value),v=vo/\va=.slice aa p ca/\vb=.slice ab q cb/\ra.length=p/\rb.length=q/\Sl aa p ca/\Sl ab q cb/\At w aa (ra.flatMap aX)/\At w ab (rb.flatMap aX)/\
  (∀t∈ra,Fit B t.2)/\(∀t∈rb,Fit B t.2)/\wr.ownsRow w.heap.size 93 4 v acc.length (acc.flatMap aX)/\acc.length+p+q<=N/\acc++il ra rb=M/\Bw w wr) (λva vb _ _=>(xX va+xX vb).toNat)
 case atStart=>exact⟨ta,tb,[],n,n',cap,cap',a,a',_,rfl,rfl,rfl,Hn.out,Vh.out,Hs.out,Vq.out,Ha.out,ud.out,En.out,Eo.out,pN.out,by rw[<-HN.out];simp,by simpa using HM.out,hb1.out⟩
 case round=>
  clear hb1 pN Ha ud Hs Vq En Eo Hn Vh HM;obtain⟨ra,rb,acc,p,q,ca,cb,aa,ab,v,rfl,rfl,rfl,vT,lC,hsa,Ao,hat,hat',tC,xB,hov,hlen,hM,pb⟩:=hrel;by_cases hpq:0<p/\0<q
  . obtain ⟨hp,hq⟩:=hpq;obtain⟨x,ra,rfl⟩:∃x l,ra=x::l:=by cases ra with
     |nil=>simp at vT;omega
     |cons x l=>exact⟨x,l,rfl⟩
    obtain⟨y,rb,rfl⟩:∃x l,rb=x::l:=by cases rb with
     |nil=>simp at lC;omega
     |cons x l=>exact⟨x,l,rfl⟩
    obtain⟨l,s,m,e⟩:=x;obtain⟨l',s',m',e'⟩:=y;obtain⟨p,rfl⟩:∃p',p=p'+1:=⟨p-1,by omega⟩;obtain⟨q,rfl⟩:∃q',q=q'+1:=⟨q-1,by omega⟩;have eJ:=tC (l,s,m,e) zm;have lv:=xB (l',s',m',e') zm;have Zd:∀t∈ra,Fit B t.2:=λt ht=>tC t (by simp[ht]);have Ze:∀t∈rb,Fit B t.2:=λt ht=>xB t (by simp[ht]);obtain⟨b1,o1,rfl,hw1⟩:=(hat.below pb).term 0 zm rfl;obtain⟨b2,o2,rfl,hw2⟩:=(hat'.below pb).term 0 zm rfl;simp only[Nat.zero_mul,Nat.add_zero]at hw1 hw2;have mV:b1<w.heap.size:=hat.lt (by rw[Tw];simp[aX]);have kr:b2<w.heap.size:=hat'.lt (by rw[Tw];simp[aX]);have Rt:=hat.tail (c:=ca) (by have:=hsa.1;simp at vT;omega);have pg:=hat'.tail (c:=cb) (by have:=Ao.1;simp at lC;omega);have aav:=hsa.tail;have aaw:=Ao.tail;have CW:=kP (p+1) ca 0 0 (rfl:(some ⟨b1,o1,none⟩:Option Addr)=_) zo rfl;have LG:=kP (q+1) cb 0 0 (rfl:(some ⟨b2,o2,none⟩:Option Addr)=_) zo rfl;rw[Nat.zero_mul,Nat.add_zero]at CW LG;have hca:p+1<=ca:=hsa.1;have hcb:q+1<=cb:=Ao.1;have NP:Hid (ra.length=p):=by show _=_;simpa using vT
    have yX:Hid (rb.length=q):=by show _=_;simpa using lC
    obtain⟨EI,NQ,Vt,Vu,Vv,wT,eH,aeV,jW,nC,En,Eo⟩:=gB hsa Ao aav aaw Rt pg hat hat' eJ lv Zd Ze;obtain⟨afo,afp,dD,HM,bu,yE⟩:=gW tC xB hov hM pb (HT.out.below pb);have Hx:Hid (bH wr b1 o1 [ah l,ag s,ah m,af e]):=hw1;have Hy:Hid (bH wr b2 o2 [ah l',ag s',ah m',af e']):=hw2;have aak:=vT;have aal:=lC;simp only[List.length_cons]at aak aal;clear vT lC hsa Ao hat hat' tC xB hov hM pb eJ lv Zd Ze hw1 hw2 Rt pg aav aaw aak aal;have Hb:Hid (Bw wr wr):=Below.refl _ _;have Ph:=Nc.out;have iy:=bu.out.size;obtain⟨gs,vN⟩:∃g,wz l l'=g:=⟨_,rfl⟩;have Ro:=λW=>aqt l s m e l' s' m' e' W;have hcs:=aqs l l';rw[vN]at Ro hcs;obtain⟨Vs,Jj⟩:=aO Ro hcs;clear Ro hcs vN;go_wp2_with fail;obtain⟨x0,x1,x2,x3⟩:=Hx.out.w4;obtain⟨y0,y1,y2,y3⟩:=Hy.out.w4;have HU:Hid (aH wr):=yE.out;refine bR (λw'=>aC w' b1 o1 (ah l)/\aC w' b1 (o1+1) (ag s)/\aC w' b1 (o1+2) (ah m)/\aC w' b1 (o1+3) (af e)/\aC w' b2 o2 (ah l')/\aC w' b2 (o2+1) (ag s')/\aC w' b2 (o2+2) (ah m')/\aC w' b2 (o2+3) (af e')) (λi=>Nat.blt i 100000) [(0,true),(1,true),(2,true),(3,true),(4,true),(5,true),(6,true),(7,false),(8,true)] zk zk rfl zk zc ⟨x0,x1,x2,x3,y0,y1,y2,y3⟩ ?_;iterate 7 (refine pT rfl rfl ?_ (by intro w' ⟨q0,q1,q2,q3,q4,q5,q6,q7⟩;go_simp;try with_reducible rfl);try simp only[UU])
    refine aI rfl rfl (λK hK=>?_);go_simp;with_reducible refine(Vs.out _).mono ?_
    rintro e w2 ⟨rfl,hq⟩;have ae:Bw wr w2:=by first|exact hq|exact aW hq
    clear x0 x1 x2 x3 y0 y1 y2 y3;replace Hx:=kW Hx ae;replace Hy:=kW Hy ae;replace HU:=kT HU ae;obtain⟨x0,x1,x2,x3⟩:=Hx.out.w4;obtain⟨y0,y1,y2,y3⟩:=Hy.out.w4;replace Hb:=aB Hb ae;clear ae;refine hK _ _ (λ_=>⟨x0,x1,x2,x3,y0,y1,y2,y3⟩) ?_;clear hK K;try simp only[UU]
    refine pT rfl rfl ?_;try simp only[UU]
    simp only[bi];have hcs:=Jj.out;have hp1:(1:Int)<=(p:Int)+1:=by omega
    have hq1:(1:Int)<=(q:Int)+1:=by omega
    clear Jj Vs Ph;rcases hcs with⟨rfl,h1⟩ |⟨rfl,h1,h2⟩ |⟨rfl,h1,h2⟩
    . have yC:Hid ((acc++[(l,s,m,e)])++il ra ((l',s',m',e')::rb)=M):=by
       show _=_
       rw[<-HM.out,yi,if_pos h1];simp
      have uW:Hid ((acc++[(l,s,m,e)]).flatMap aX=acc.flatMap aX++[ah l,ag s,ah m,af e]):=by
       show _=_
       rw[List.flatMap_append];rfl
      clear h1;go_wp2_with fail;refine bR (λw'=>aC w' b1 o1 (ah l)/\aC w' b1 (o1+1) (ag s)/\aC w' b1 (o1+2) (ah m)/\aC w' b1 (o1+3) (af e)) (λi=>Nat.blt i 100000) [(0,true),(1,true),(2,true),(3,true),(6,true),(7,true),(4,false),(5,false),(8,true),(9,true)] zk zk rfl zk zc ⟨x0,x1,x2,x3⟩ ?_;iterate 6 (refine pT rfl rfl ?_ (by intro w' ⟨q0,q1,q2,q3⟩;go_simp;try with_reducible rfl);try simp only[UU])
      refine aI rfl rfl (λK hK=>?_);go_simp;refine hK _ _ (λ_=>⟨aL x0,aL x1,aL x2,aL x3⟩) ?_;clear hK K;try simp only[UU]
      refine bV (λW3=>ar W3 (w2.heap.size) 93 [ah l,ag s,ah m,af e]/\Bw w2 W3) (by first|exact fe|exact fg) ?_;rintro W3 ⟨qc,ae⟩;clear x0 x1 x2 x3 y0 y1 y2 y3;replace Hx:=kW Hx ae;replace Hy:=kW Hy ae;replace HU:=kT HU ae;have Hc:=ai qc;clear qc;obtain⟨x0,x1,x2,x3⟩:=Hx.out.w4;obtain⟨y0,y1,y2,y3⟩:=Hy.out.w4;obtain⟨c0,c1,c2,c3⟩:=Hc.out.c4;replace Hb:=aB Hb ae;clear ae;refine aI rfl rfl (λK hK=>?_);have eT:=ownsRow_below dD.out Hb.out;have hs3:=Hb.out.size;refine wp_append_own _ _ _ 89 rfl w.heap.size 93 i0 _ 4 48 Tryz.underlying89 Hi.out dF.out dG.out dm.out rfl zd v acc.length (acc.flatMap aX) rfl eT ⟨w2.heap.size,0,none⟩ 1 1 [ah l,ag s,ah m,af e] rfl rfl (ic Hc.out) zy zx zo zo ?_;intro v' w8 fB bM _;have nb:∀b,b<w.heap.size->some b≠v.ownBlock:=λb hb e=>by have:=dz eT b e.symm;omega
      refine hK _ _ (λ_=>⟨cV bM x0 (nb _ mV),cV bM x1 (nb _ mV),cV bM x2 (nb _ mV),cV bM x3 (nb _ mV)⟩) ?_;clear hK K;try simp only[UU]
      iterate 2 (refine pT rfl rfl ?_;try simp only[UU])
      simp only[bi];have Ef:=ai ((aJ bu.out Hb.out).grown bM zo (λj e=>dz eT j e));have jL:Hid (w8.ownsRow w.heap.size 93 4 v' (acc++[(l,s,m,e)]).length ((acc++[(l,s,m,e)]).flatMap aX)):=by
       show w8.ownsRow _ _ _ _ _ _
       rw[uW.out,List.length_append];exact fB
      clear nb eT fB bM x0 x1 x2 x3 y0 y1 y2 y3 c0 c1 c2 c3 CW LG;go_wp2;go_roundw;case rel=>exact⟨ra,((l',s',m',e')::rb),acc++[(l,s,m,e)],p,(q+1),_,_,_,_,v',rfl,rfl,rfl,NP.out,(by have:=yX.out;simp;exact this),Vt.out,NQ.out,Vv.out,aeV.out,En.out,afp.out,jL.out,by simp;omega,yC.out,Ef.out⟩
      case measure=>simp[xX];omega
    ·
     have yC:Hid ((acc++[(l',s',m',e')])++il ((l,s,m,e)::ra) rb=M):=by
      show _=_
      rw[<-HM.out,yi,if_neg (by rw[h1];decide),if_pos h2];simp
     have uW:Hid ((acc++[(l',s',m',e')]).flatMap aX=acc.flatMap aX++[ah l',ag s',ah m',af e']):=by
      show _=_
      rw[List.flatMap_append];rfl
     clear h1 h2
     go_wp2_with fail
     refine bR (λw'=>aC w' b2 o2 (ah l')/\aC w' b2 (o2+1) (ag s')/\aC w' b2 (o2+2) (ah m')/\aC w' b2 (o2+3) (af e')) (λi=>Nat.blt i 100000) [(0,true),(1,true),(2,true),(3,true),(6,true),(7,true),(4,false),(5,false),(8,true),(9,true)] zk zk rfl zk zc ⟨y0,y1,y2,y3⟩ ?_
     iterate 6 (refine pT rfl rfl ?_ (by intro w' ⟨q0,q1,q2,q3⟩;go_simp;try with_reducible rfl);try simp only[UU])
     refine aI rfl rfl (λK hK=>?_)
     go_simp
     refine hK _ _ (λ_=>⟨aL y0,aL y1,aL y2,aL y3⟩) ?_;clear hK K
     try simp only[UU]
     refine bV (λW3=>ar W3 (w2.heap.size) 93 [ah l',ag s',ah m',af e']/\Bw w2 W3) (by first|exact fe|exact fg) ?_
     rintro W3 ⟨qc,ae⟩
     clear x0 x1 x2 x3
     clear y0 y1 y2 y3
     replace Hx:=kW Hx ae
     replace Hy:=kW Hy ae
     replace HU:=kT HU ae
     have Hc:=ai qc;clear qc
     obtain⟨x0,x1,x2,x3⟩:=Hx.out.w4
     obtain⟨y0,y1,y2,y3⟩:=Hy.out.w4
     obtain⟨c0,c1,c2,c3⟩:=Hc.out.c4
     replace Hb:=aB Hb ae;clear ae
     refine aI rfl rfl (λK hK=>?_)
     have eT:=ownsRow_below dD.out Hb.out
     have hs3:=Hb.out.size
     refine wp_append_own _ _ _ 89 rfl w.heap.size 93 i0 _ 4 48 Tryz.underlying89 Hi.out dF.out dG.out dm.out rfl zd v acc.length (acc.flatMap aX) rfl eT ⟨w2.heap.size,0,none⟩ 1 1 [ah l',ag s',ah m',af e'] rfl rfl (ic Hc.out) zy zx zo zo ?_
     intro v' w8 fB bM _
     have nb:∀b,b<w.heap.size->some b≠v.ownBlock:=λb hb e=>by have:=dz eT b e.symm;omega
     refine hK _ _ (λ_=>⟨cV bM y0 (nb _ kr),cV bM y1 (nb _ kr),cV bM y2 (nb _ kr),cV bM y3 (nb _ kr)⟩) ?_;clear hK K
     try simp only[UU]
     iterate 2 (refine pT rfl rfl ?_;try simp only[UU])
     simp only[bi]
     have Ef:=ai ((aJ bu.out Hb.out).grown bM zo (λj e=>dz eT j e))
     have jL:Hid (w8.ownsRow w.heap.size 93 4 v' (acc++[(l',s',m',e')]).length ((acc++[(l',s',m',e')]).flatMap aX)):=by
      show w8.ownsRow _ _ _ _ _ _
      rw[uW.out,List.length_append];exact fB
     clear nb eT fB bM x0 x1 x2 x3 y0 y1 y2 y3 c0 c1 c2 c3 CW LG
     go_wp2
     go_roundw
     case rel=>exact⟨((l,s,m,e)::ra),rb,acc++[(l',s',m',e')],(p+1),q,_,_,_,_,v',rfl,rfl,rfl,(by have:=NP.out;simp;exact this),yX.out,EI.out,Vu.out,eH.out,wT.out,afo.out,Eo.out,jL.out,by simp;omega,yC.out,Ef.out⟩
     case measure=>simp[xX];omega
    ·
     obtain⟨S,hS⟩:=aG (az (s,m,e)+az (s',m',e'))
     have HS:=ai hS
     have yC:Hid ((acc++[(l,canon S)])++il ra rb=M):=by
      show _=_
      rw[<-HM.out,yi,if_neg (by rw[h1];decide),if_neg (by rw[h2];decide)];simp;rw[<-hS];rfl
     have uW:Hid ((acc++[(l,canon S)]).flatMap aX=acc.flatMap aX++[ah l,ag (au (dN S)),ah (nt (dN S).natAbs),af (dE S)]):=by
      show _=_
      rw[List.flatMap_append];rfl
     clear h1 h2 hS
     have Kg:=Nb.out
     go_wp2_with fail
     refine bR (λw'=>aC w' b1 o1 (ah l)/\aC w' b1 (o1+1) (ag s)/\aC w' b1 (o1+2) (ah m)/\aC w' b1 (o1+3) (af e)/\aC w' b2 o2 (ah l')/\aC w' b2 (o2+1) (ag s')/\aC w' b2 (o2+2) (ah m')/\aC w' b2 (o2+3) (af e')) (λi=>Nat.blt i 100000) [(0,true),(1,true),(2,true),(3,true),(4,true),(5,true),(6,true),(7,true),(11,true),(12,true),(13,true),(14,true),(8,false),(9,false),(10,false),(15,true),(16,true),(17,true)] zk zk rfl zk zc ⟨x0,x1,x2,x3,y0,y1,y2,y3⟩ ?_
     iterate 12 (refine pT rfl rfl ?_ (by intro w' ⟨q0,q1,q2,q3,q4,q5,q6,q7⟩;go_simp;try with_reducible rfl);try simp only[UU])
     refine aI rfl rfl (λK hK=>?_)
     go_simp
     with_reducible refine(aqV l s m e l' s' m' e' S B HS.out _ jW.out nC.out hB (by first|exact HU.out|exact aH.drew HU.out|exact aH.alloc HU.out _|exact aH.drew (aH.alloc HU.out _) |exact aH.alloc (aH.drew HU.out) _)).mono ?_
     rintro e w4 ⟨rfl,hq⟩
     have ae:Bw w2 w4:=by first|exact hq|exact aW hq
     clear x0 x1 x2 x3
     clear y0 y1 y2 y3
     replace Hx:=kW Hx ae
     replace Hy:=kW Hy ae
     replace HU:=kT HU ae
     obtain⟨x0,x1,x2,x3⟩:=Hx.out.w4
     obtain⟨y0,y1,y2,y3⟩:=Hy.out.w4
     replace Hb:=aB Hb ae;clear ae
     refine hK _ _ (λ_=>⟨x0,x1,x2,x3,y0,y1,y2,y3⟩) ?_;clear hK K
     try simp only[UU]
     refine aI rfl rfl (λK hK=>?_)
     go_simp
     refine hK _ _ (λ_=>⟨aL x0,aL x1,aL x2,aL x3,aL y0,aL y1,aL y2,aL y3⟩) ?_;clear hK K
     try simp only[UU]
     refine bV (λW5=>ar W5 (w4.heap.size) 93 [ah l,ag (au (dN S)),ah (nt (dN S).natAbs),af (dE S)]/\Bw w4 W5) (by first|exact fe|exact fg) ?_
     rintro W5 ⟨qc,ae⟩
     clear x0 x1 x2 x3
     clear y0 y1 y2 y3
     replace Hx:=kW Hx ae
     replace Hy:=kW Hy ae
     replace HU:=kT HU ae
     have Hc:=ai qc;clear qc
     obtain⟨x0,x1,x2,x3⟩:=Hx.out.w4
     obtain⟨y0,y1,y2,y3⟩:=Hy.out.w4
     obtain⟨c0,c1,c2,c3⟩:=Hc.out.c4
     replace Hb:=aB Hb ae;clear ae
     refine aI rfl rfl (λK hK=>?_)
     have eT:=ownsRow_below dD.out Hb.out
     have hs3:=Hb.out.size
     refine wp_append_own _ _ _ 89 rfl w.heap.size 93 i0 _ 4 48 Tryz.underlying89 Hi.out dF.out dG.out dm.out rfl zd v acc.length (acc.flatMap aX) rfl eT ⟨w4.heap.size,0,none⟩ 1 1 [ah l,ag (au (dN S)),ah (nt (dN S).natAbs),af (dE S)] rfl rfl (ic Hc.out) zy zx zo zo ?_
     intro v' w8 fB bM _
     have nb:∀b,b<w.heap.size->some b≠v.ownBlock:=λb hb e=>by have:=dz eT b e.symm;omega
     refine hK _ _ (λ_=>⟨cV bM x0 (nb _ mV),cV bM x1 (nb _ mV),cV bM x2 (nb _ mV),cV bM x3 (nb _ mV),cV bM y0 (nb _ kr),cV bM y1 (nb _ kr),cV bM y2 (nb _ kr),cV bM y3 (nb _ kr)⟩) ?_;clear hK K
     try simp only[UU]
     iterate 3 (refine pT rfl rfl ?_;try simp only[UU])
     simp only[bi]
     have Ef:=ai ((aJ bu.out Hb.out).grown bM zo (λj e=>dz eT j e))
     have jL:Hid (w8.ownsRow w.heap.size 93 4 v' (acc++[(l,canon S)]).length ((acc++[(l,canon S)]).flatMap aX)):=by
      show w8.ownsRow _ _ _ _ _ _
      rw[uW.out,List.length_append];exact fB
     clear nb eT fB bM x0 x1 x2 x3 y0 y1 y2 y3 c0 c1 c2 c3 CW LG
     go_wp2
     go_roundw
     case rel=>exact⟨ra,rb,acc++[(l,canon S)],p,q,_,_,_,_,v',rfl,rfl,rfl,NP.out,yX.out,Vt.out,Vu.out,Vv.out,wT.out,En.out,Eo.out,jL.out,by simp;omega,yC.out,Ef.out⟩
     case measure=>simp[xX];omega
  . have hmr:il ra rb=ra++rb:=by
     have:p=0\/q=0:=by omega
     rcases this with rfl|rfl
     . rw[List.eq_nil_of_length_eq_zero vT,Dc];rfl
     . rw[List.eq_nil_of_length_eq_zero lC,Dd];simp
    have XU:M.length=acc.length+p+q:=by rw[<-hM,hmr];simp[vT,lC];omega
    have uW:Hid (M.flatMap aX=(acc.flatMap aX++ra.flatMap aX)++rb.flatMap aX):=by
     show _=_
     rw[<-hM,hmr,<-List.append_assoc,List.flatMap_append,List.flatMap_append]
    have hlr:(ra.flatMap aX).length=p*4:=by rw[mB,vT]
    have ZI:(rb.flatMap aX).length=q*4:=by rw[mB,lC]
    have lj:=hat.below pb;have at5:=hlen;obtain⟨Jt,afP,pJ,eH,dD,bu,EI,NQ,HML⟩:=GV hlr ZI lj hat' hov pb hsa Ao XU;clear vT lC hmr hlr ZI hat hat' lj hov pb hsa Ao hM tC xB XU;have hsz:=bu.out.size;by_cases h0:0<p
    all_goals
     go_wp2_with (first| (at_builtin;refine rp rfl (.tmp 70) (.tmp 71) 89 rfl w.heap.size 93 i0 _ 4 48 Tryz.underlying89 Hi.out dF.out dG.out dm.out rfl zd v acc.length (acc.flatMap aX) rfl dD.out aa p ca (ra.flatMap aX) rfl EI.out Jt.out pJ.out (tX ra) zx zo hsz ?_;intro v1 w2 ej hg1 hb1) | (at_builtin;refine rp rfl (.tmp 72) (.tmp 73) 89 rfl w.heap.size 93 i0 _ 4 48 Tryz.underlying89 Hi.out dF.out dG.out dm.out rfl zd v1 (acc.length+p) (acc.flatMap aX++ra.flatMap aX) rfl ej ab q cb (rb.flatMap aX) rfl NQ.out afP.out (eH.out.below (bu.out.grown hg1 hsz (λj e=>dz dD.out j e))) (tX rb) zx zo (Nat.le_trans hsz hg1.size) ?_;intro v2 w3 eO hg2 hb2))
     go_ret
     refine⟨v2,rfl,?_,(bu.out.grown hg1 hsz (λj e=>dz dD.out j e)).grown hg2 (Nat.le_trans hsz hg1.size) (λj e=>dz ej j e)⟩
     rw[HML.out,uW.out];exact eO
end Go.Proofs.YtoopepmmepmfnaaGreatDoor
namespace Go.Proofs.YtoopepmmepmfnaaGreatDoor
open Go.RowKit
theorem arh (ts:List aM)(i:Nat)(hi:i<ts.length)(t:aM):(((((ts.flatMap aX).set (i*4) (ah t.1)).set (i*4+1) (ag t.2.1)).set (i*4+2) (ah t.2.2.1)).set (i*4+3) (af t.2.2.2))=(ts.set i t).flatMap aX:=by
 induction ts generalizing i with
 |nil=>simp at hi
 | cons x ts ih=>
   have e:∀(y:aM) zs,(y::zs).flatMap aX=ah y.1::ag y.2.1::ah y.2.2.1::af y.2.2.2::zs.flatMap aX:=λy zs=>rfl;cases i with
   |zero=>rw[e];rfl
   |succ i=>rw[List.set_cons_succ,e,e,<-ih i (by simpa using hi),show(i+1) *4=i*4+1+1+1+1 by omega];rfl
theorem arf (ts:List aM)(i:Nat)(hi:i<ts.length)(r:Raw):((((ts.flatMap aX).set (i*4+1) (ag r.1)).set (i*4+2) (ah r.2.1)).set (i*4+3) (af r.2.2))=(ts.set i (ts[i].1,r)).flatMap aX:=by
 induction ts generalizing i with
 |nil=>simp at hi
 | cons x ts ih=>
   have e:∀(y:aM) zs,(y::zs).flatMap aX=ah y.1::ag y.2.1::ah y.2.2.1::af y.2.2.2::zs.flatMap aX:=λy zs=>rfl;cases i with
   |zero=>rw[e];rfl
   |succ i=>rw[List.set_cons_succ,e,e,List.getElem_cons_succ,<-ih i (by simpa using hi),show(i+1) *4=i*4+1+1+1+1 by omega];rfl
theorem rY {w:World}{base:Nat}{e:TypeId}{size n cap g:Nat}{xs:List Value}(h:w.ownsRow base e size (.slice (some ⟨g,0,none⟩) n cap) n xs)(o:Nat):w.frozen? ⟨g,o,none⟩=false:=by
 rcases h.2 with⟨h1,_⟩ |⟨g',cap',cur,h1,hb,hg,_⟩
 . simp at h1
 . simp only[Value.slice.injEq,Option.some.injEq,Addr.mk.injEq,and_true,true_and]at h1;obtain⟨rfl,rfl⟩:=h1;have h4:ar w g e cur.toList:=by unfold ar;simpa using hg
   exact h4.free o
theorem Dk {w:World}{base:Nat}{e:TypeId}{size n cap g:Nat}{xs:List Value}(h:w.ownsRow base e size (.slice (some ⟨g,0,none⟩) n cap) n xs):base<=g/\g<w.heap.size:=by
 rcases h.2 with⟨h1,_⟩ |⟨g',cap',cur,h1,hb,hg,_⟩
 . simp at h1
 . simp only[Value.slice.injEq,Option.some.injEq,Addr.mk.injEq,and_true,true_and]at h1;obtain⟨rfl,rfl⟩:=h1;exact⟨hb,(Array.getElem?_eq_some_iff.1 hg).1⟩
theorem Ma {w:World}{base n cap g:Nat}{e:TypeId}{ts:List aM}(h:w.ownsRow base e 4 (.slice (some ⟨g,0,none⟩) n cap) n (ts.flatMap aX))(k:Nat)(hk:k<ts.length){l:List UInt8}{s:Bool}{m:List UInt8}{ex:Int}(hx:ts[k]=(l,s,m,ex)):
 bH w g (k*4) [ah l,ag s,ah m,af ex]:=by
 obtain⟨a,c,hv,hat,_⟩:=eo h;simp only[Value.slice.injEq,true_and]at hv;obtain⟨rfl,rfl⟩:=hv;obtain⟨b,o,hab,hw⟩:=hat.term k hk hx;simp only[Option.some.injEq,Addr.mk.injEq,and_true]at hab;obtain⟨rfl,rfl⟩:=hab;rwa [Nat.zero_add]at hw
theorem aoG {w:World}{base n cap g:Nat}{e:TypeId}{ts:List aM}(h:w.ownsRow base e 4 (.slice (some ⟨g,0,none⟩) n cap) n (ts.flatMap aX))(i:Nat)(hi:i<ts.length)(l:List UInt8)(s:Bool)(m:List UInt8)(ex:Int):
 ((((w.setCell ⟨g,i*4,none⟩ (ah l)).setCell ⟨g,i*4+1,none⟩ (ag s)).setCell ⟨g,i*4+2,none⟩ (ah m)).setCell ⟨g,i*4+3,none⟩ (af ex)).ownsRow base e 4 (.slice (some ⟨g,0,none⟩) n cap) n ((ts.set i (l,s,m,ex)).flatMap aX):=by
 rw[<-arh ts i hi (l,s,m,ex)];exact mZ (mZ (mZ (mZ h _ _) _ _) _ _) _ _
theorem ab3 {w:World}{base n cap g:Nat}{e:TypeId}{ts:List aM}(h:w.ownsRow base e 4 (.slice (some ⟨g,0,none⟩) n cap) n (ts.flatMap aX))(i:Nat)(hi:i<ts.length)(s:Bool)(m:List UInt8)(ex:Int):
 (((w.setCell ⟨g,i*4+1,none⟩ (ag s)).setCell ⟨g,i*4+2,none⟩ (ah m)).setCell ⟨g,i*4+3,none⟩ (af ex)).ownsRow base e 4 (.slice (some ⟨g,0,none⟩) n cap) n ((ts.set i (ts[i].1,s,m,ex)).flatMap aX):=by
 rw[<-arf ts i hi (s,m,ex)];exact mZ (mZ (mZ h _ _) _ _) _ _
theorem Kn {w w':World}(r:Option Nat)(h:Bw w w'):w.grownBy w' r:=⟨h.os,h.tape,h.output,h.size,λk hk _=>h.block k hk⟩
theorem Ko {w w':World}{g:Nat}(h:w.grownBy w' (some g))(a:Nat)(v:Value):w.grownBy (w'.setCell ⟨g,a,none⟩ v) (some g):=grownBy_trans h (grownBy_set g rfl v)
theorem aig {n:Nat}{w w':World}{r:Option Nat}(h:w.grownBy w' r)(hn:n<=w.heap.size)(hr:∀g,r=some g->n<=g):Below n w w':=((Below.refl _ _).mono hn).grown h hn hr
theorem abH {B:Nat}(a b:List aM)(ha:∀t∈a,Fit B t.2)(hb:∀t∈b,Fit B t.2)(hB:B+1<=268435456):∀t∈il a b,Fit (B+1) t.2:=by
 obtain⟨n,hn⟩:=aG (a.length+b.length);induction n using Nat.strongRecOn generalizing a b with
 | _ n ih=>
   cases a with
   |nil=>rw[Dc];exact λt ht=>(hb t ht).mono zo
   | cons x a=>cases b with
     |nil=>rw[Dd];exact λt ht=>(ha t ht).mono zo
     | cons y b=>
       rw[yi];simp only[List.length_cons]at hn;have ha2:∀t∈a,Fit B t.2:=λt ht=>ha t (by simp[ht]);have hb2:∀t∈b,Fit B t.2:=λt ht=>hb t (by simp[ht]);split
       . intro t ht;rcases List.mem_cons.1 ht with rfl|ht
         . exact(ha _ zm).mono zo
         . exact ih _ (by simp only[List.length_cons];omega) a (y::b) ha2 hb rfl t ht
       . split
         . intro t ht;rcases List.mem_cons.1 ht with rfl|ht
           . exact(hb _ zm).mono zo
           . exact ih _ (by simp only[List.length_cons];omega) (x::a) b ha hb2 rfl t ht
         . intro t ht;rcases List.mem_cons.1 ht with rfl|ht
           . exact((ha x zm).2.add (hb y zm).2).fit hB
           . exact ih _ zo a b ha2 hb2 rfl t ht
theorem Tj {B:Nat}(l:List aM)(h:∀t∈l,Fit B t.2)(hB:B+l.length<=268435456):∀t∈iw l,Fit (B+l.length) t.2:=by
 obtain⟨n,hn⟩:=aG l.length;induction n using Nat.strongRecOn generalizing l with
 | _ n ih=>
   by_cases h2:l.length<2
   . rw[Ml l h2];exact λt ht=>(h t ht).mono zo
   . rw[Tk l zo];have l1:(l.take (l.length/2)).length=l.length/2:=by rw[List.length_take];omega
     have l2:(l.drop (l.length/2)).length=l.length-l.length/2:=List.length_drop;have h3:=ih _ (by rw[<-hn,l1];omega) (l.take (l.length/2)) (λt ht=>h t (List.mem_of_mem_take ht)) (by rw[l1];omega) rfl;have h4:=ih _ (by rw[<-hn,l2];omega) (l.drop (l.length/2)) (λt ht=>h t (List.mem_of_mem_drop ht)) (by rw[l2];omega) rfl;have:=abH (B:=B+(l.length-1)) _ _ (λt ht=>(h3 t ht).mono (by rw[l1];omega)) (λt ht=>(h4 t ht).mono (by rw[l2];omega)) zo;rwa [show B+(l.length-1)+1=B+l.length by omega]at this
end Go.Proofs.YtoopepmmepmfnaaGreatDoor
namespace Go.Proofs.YtoopepmmepmfnaaGreatDoor
open Go.RowKit
attribute [local go_sem ↓] Go.wp_at_zero Go.wp_at_succ
theorem akm {α:Type}(p:α->Bool)(l:List α)(i:Nat)(hi:i<=l.length)(h:∀j (hj:j<i),p (l[j]'zo)=false):(l.take i).filter (λx=>!p x)=l.take i:=by
 rw[List.filter_eq_self];intro x hx;obtain⟨j,hj,rfl⟩:=List.mem_iff_getElem.1 hx;rw[List.getElem_take];have oZ:j<i:=by rw[List.length_take]at hj;omega
 simp[h j oZ]
theorem take_set {α:Type}(l:List α)(a:Nat)(x:α)(h:a<l.length):(l.set a x).take (a+1)=l.take a++[x]:=by rw[List.take_succ_eq_append_getElem (by simpa using h),List.getElem_set_self,List.take_set_of_le (Nat.le_refl _)]
theorem OY {α:Type}(l:List α)(a b:Nat)(x:α)(h:a<b):(l.set a x).drop b=l.drop b:=by rw[List.drop_set];rw[if_pos h]
theorem Tryz.axt (w:World):(zeroValue 93).run Tryz.prog w=.ok (.agg #[.string ⟨#[]⟩,ag false,.string ⟨#[]⟩,af 0]) w:=by kernel_rfl
theorem Xk (ts:List aM)(k:Nat)(hk:k<=ts.length):(ts.flatMap aX).take (k*4)=(ts.take k).flatMap aX:=by
 have e:ts=ts.take k++ts.drop k:=(List.take_append_drop _ _).symm;conv=>lhs;rw[e]
 rw[List.flatMap_append,List.take_left' (by rw[mB,List.length_take,Nat.min_eq_left hk])]
theorem ajA (a:Option Addr)(n cap:Nat)(ts:List aM)(gf:Nat)(p:aM->Bool)(w:World)(hn:ts.length=n)(hl:n<=65536)(ha:At w a (ts.flatMap aX))
 (eg:∀args w,(callFunc gf args).run Tryz.prog w=.ok (.enter gf args) w) (h2:∀x∈ts,p x=false)
 (hcl:∀x∈ts,∀W,Calls Tryz.prog gf #[.agg #[ah x.1,ag x.2.1,ah x.2.2.1,af x.2.2.2]] W λe w'=>e=.returned (ag (p x))/\Bw W w'):
 Calls Tryz.prog 188 #[.slice a n cap,.func (.func gf) #[] #[]] w λe w'=>e=.returned (.slice a n cap)/\Bw w w':=by
 have bK:=RJ a n cap ts gf #[] p w hn zo ha eg (λx hx W _=>by simpa using hcl x hx W);rcases aaW p ts 0 with⟨h1,_⟩ |⟨i,hi,_,h3,_⟩
 . rw[h1]at bK;have Es:=ai bK;clear bK h1 h2 hn hcl eg ha;have Hb:Hid (Bw w w):=Below.refl _ _;go_enter Tryz.func188,Tryz.ntmps188;go_wp2_with fail;refine(Es.out).mono ?_;rintro e w1 ⟨rfl,ae⟩;replace Hb:=aB Hb ae;clear ae;go_wp2;go_ret;exact⟨rfl,Hb.out⟩
 . rw[h2 _ (List.getElem_mem hi)]at h3;cases h3
theorem ajz (g n cap base:Nat)(ts:List aM)(gf:Nat)(p:aM->Bool)(w:World)(hn:ts.length=n)(hl:n<=65536)(hn0:0<n)(ho:w.ownsRow base 93 4 (.slice (some ⟨g,0,none⟩) n cap) n (ts.flatMap aX))
 (eg:∀args w,(callFunc gf args).run Tryz.prog w=.ok (.enter gf args) w)
 (hcl:∀x∈ts,∀W,Calls Tryz.prog gf #[.agg #[ah x.1,ag x.2.1,ah x.2.2.1,af x.2.2.2]] W λe w'=>e=.returned (ag (p x))/\Bw W w'):
 Calls Tryz.prog 188 #[.slice (some ⟨g,0,none⟩) n cap,.func (.func gf) #[] #[]] w λe w'=>∃k,k=(ts.filter λx=>!p x).length/\e=.returned (.slice (some ⟨g,0,none⟩) k cap)/\
  w'.ownsRow base 93 4 (.slice (some ⟨g,0,none⟩) k cap) k ((ts.filter λx=>!p x).flatMap aX)/\w.grownBy w' (some g):=by
 have hat:At w (some ⟨g,0,none⟩) (ts.flatMap aX):=by obtain⟨a,c,hv,hat,_⟩:=eo ho;simp only[Value.slice.injEq,true_and]at hv;rw[hv.1];exact hat
 have hcap:=(uP ho).1;have bK:=RJ (some ⟨g,0,none⟩) n cap ts gf #[] p w hn zo hat eg (λx hx W _=>by simpa using hcl x hx W);have hcm:cap<=9223372036854775807:=by
  rcases ho.2 with⟨h1,_⟩ |⟨g',cap',cur,h1,hb,hg,h4,h5,_⟩
  . simp at h1
  . simp only[Value.slice.injEq]at h1;obtain⟨_,_,rfl⟩:=h1;unfold maxLen at h5;omega
 obtain⟨Ho,iI,Hn,ny,eH⟩:=gJ ho hcl hn eg hat;clear ho hcl hn eg hat;rcases aaW p ts 0 with⟨h1,h2⟩ |⟨i,hi,h1,h2,h3⟩
 . rw[h1]at bK;have hK:(ts.filter λx=>!p x)=ts:=List.filter_eq_self.2 (λx hx=>by simp[h2 x hx]);rw[hK,Hn.out];have Es:=ai bK;clear bK h1 h2 hK;have Hb:Hid (Bw w w):=Below.refl _ _;go_enter Tryz.func188,Tryz.ntmps188;go_wp2_with fail;refine(Es.out).mono ?_;rintro e w1 ⟨rfl,ae⟩;replace Hb:=aB Hb ae;clear ae;go_wp2;go_ret;exact⟨n,rfl,rfl,ownsRow_below Ho.out Hb.out,Kn _ Hb.out⟩
 . rw[h1,Nat.zero_add]at bK;have hin:i<n:=by rw[<-Hn.out];exact hi
   obtain⟨K,hK⟩:=aG (ts.filter λx=>!p x);rw[hK];have hst:(ts.take (i+1)).filter (λx=>!p x)=ts.take i:=by rw[List.take_succ_eq_append_getElem hi,List.filter_append,akm p ts i zo h3];simp[h2]
   have rT:((i:Int)== -1)=false:=by simp
   obtain⟨Es,HK,bX⟩:=cL bK hK hst;clear bK h1 h2 h3 hK hst;have Hb:Hid (Bw w w):=Below.refl _ _;go_enter Tryz.func188,Tryz.ntmps188;go_wp2_with fail;refine(Es.out).mono ?_;rintro e w1 ⟨rfl,ae⟩;replace Hb:=aB Hb ae;clear ae;go_wp2_with fail;go_loopw[5,6] (λs5 s6 wr=>∃(x y:Nat) (C:List aM),s5=af (x:Int)/\s6=af (y:Int)/\x<y/\y<=n/\C.length=n/\C.take x=(ts.take y).filter (λx=>!p x)/\C.drop y=ts.drop y/\wr.ownsRow base 93 4 (.slice (some ⟨g,0,none⟩) n cap) n (C.flatMap aX)/\w.grownBy wr (some g)) (λ_ s6 _=>n-(intOf s6).toNat);case atStart=>exact⟨i,i+1,ts,rfl,by go_num,by omega,by omega,Hn.out,bX.out.symm,rfl,ownsRow_below Ho.out Hb.out,Kn _ Hb.out⟩
   case round=>
    clear Hb rT;obtain⟨x,y,C,rfl,rfl,hxy,rW,hC,htk,hdr,hov,hg⟩:=hrel;by_cases hlt:y<n
    . have RH:y<ts.length:=by rw[Hn.out];exact hlt
      have hyC:y<C.length:=by omega
      have hel:C[y]=ts[y]:=by
       have e1:C[y]?=ts[y]?:=by rw[<-Nat.add_zero y,<-List.getElem?_drop,<-List.getElem?_drop,hdr]
       rw[List.getElem?_eq_getElem hyC,List.getElem?_eq_getElem RH]at e1;exact Option.some.inj e1
      obtain⟨l,s,m,e,hx⟩:∃l s m e,ts[y]=(l,s,m,e):=⟨_,_,_,_,rfl⟩;have hw:=Ma hov y hyC (hel.trans hx);have hcl:=iI.out _ (List.getElem_mem RH);rw[hx]at hcl;have hnx:(ts.take (y+1)).filter (λx=>!p x)=(ts.take y).filter (λx=>!p x)++if p (l,s,m,e)then[]else[(l,s,m,e)]:=by rw[List.take_succ_eq_append_getElem RH,List.filter_append,hx];by_cases hp:p (l,s,m,e)=true<;>simp[hp]
      have hd2:C.drop (y+1)=ts.drop (y+1):=by rw[<-List.drop_drop,<-List.drop_drop,hdr]
      have bK:=kP n cap y (y:Int) (rfl:(some ⟨g,0,none⟩:Option Addr)=_) hlt rfl;rw[Nat.zero_add]at bK;obtain⟨hgb,vN⟩:=Dk hov;obtain⟨dD,Hg,Vw,wO,nE,HC,UA⟩:=jT hov hg htk hd2 hnx hC hcl;have Hz:Hid (bH wr g (y*4) [ah l,ag s,ah m,af e]):=hw;clear hov hg htk hd2 hnx hC hcl hw hdr hel hx;have Hb:Hid (Bw wr wr):=Below.refl _ _;obtain⟨z0,z1,z2,z3⟩:=Hz.out.w4;have P0:=z0;have P1:=z1;have P2:=z2;have P3:=z3;have Kg:=ny.out;obtain⟨W4,lU,ae,Hv⟩:=cd wr 93 [ah l,ag s,ah m,af e];clear z0 z1 z2 z3;replace Hz:=kW Hz ae;obtain⟨z0,z1,z2,z3⟩:=Hz.out.w4;obtain⟨v0,v1,v2,v3⟩:=Hv.out.c4;replace Hb:=aB Hb ae;clear ae;obtain⟨t,ht⟩:=aG (p (l,s,m,e));rw[ht]at UA nE;clear ht;go_wp2_with fail;refine(UA.out _).mono ?_;rintro e w5 ⟨rfl,ae⟩;clear z0 z1 z2 z3 v0 v1 v2 v3;replace Hz:=kW Hz ae;obtain⟨Hv,v0,v1,v2,v3⟩:=dU Hv ae;obtain⟨z0,z1,z2,z3⟩:=Hz.out.w4;replace Hb:=aB Hb ae;clear ae;have jq:=ownsRow_below dD.out Hb.out;have KV:=grownBy_trans Hg.out (Kn _ Hb.out);clear Kg;cases t with
      | true=>
        obtain⟨yT,Nk⟩:=aO jq KV;clear jq KV;go_wp2;go_roundw;case rel=>exact⟨x,y+1,C,rfl,by go_num,by omega,by omega,HC.out,by rw[nE.out,Vw.out];simp,wO.out,yT.out,Nk.out⟩
        case measure=>simp[intOf];omega
      | false=>
        have RD:x<C.length:=by have:=HC.out;omega
        obtain⟨lx,sx,mx,ex,hxx⟩:∃l s m e,C[x]=(l,s,m,e):=⟨_,_,_,_,rfl⟩;obtain⟨u0,u1,u2,u3⟩:=(Ma jq x RD hxx).w4;have rP:=rY jq (x*4);have oX:=rY jq (x*4+1);have Kk:=rY jq (x*4+2);have Xo:=rY jq (x*4+3);have kJ:=kP n cap x (x:Int) (rfl:(some ⟨g,0,none⟩:Option Addr)=_) zo rfl;rw[Nat.zero_add]at kJ;obtain⟨yT,Nk,VD⟩:=cL jq KV RD;clear jq KV hxx RD;go_wp2;refine⟨⟨x+1,y+1,C.set x (l,s,m,e),by go_num,by go_num,by omega,by omega,by rw[List.length_set];exact HC.out,?_,?_,aoG yT.out x VD.out l s m e,?_⟩,by simp[intOf];omega⟩
        . rw[take_set _ _ _ VD.out,Vw.out,nE.out];simp
        . rw[OY _ _ _ _ zo];exact wO.out
        . exact Ko (Ko (Ko (Ko Nk.out _ _) _ _) _ _) _ _
    . obtain rfl:y=n:=by omega
      have hK:C.take x=K:=by rw[htk,<-HK.out,List.take_of_length_le (by rw[Hn.out];exact Nat.le_refl _)]
      have KB:K.length=x:=by rw[<-hK,List.length_take,hC];omega
      have CO:=ab4 hov x zo;rw[Xk C x zo,hK]at CO;obtain⟨w6,atT,Gp,Zi⟩:=acz wr 89 93 _ 4 Tryz.underlying89 Tryz.axt rfl (by intro v hv;simp[Value.cells]at hv;rcases hv with rfl|rfl|rfl|rfl<;>rfl) g x (y-x) cap (cap-x) base (K.flatMap aX) CO zo;have lu:¬cap=x:=by omega
      obtain⟨Ho6,vp,HKl⟩:=cL Gp (grownBy_trans hg Zi) KB;clear htk hdr hC hK KB CO hov hg Gp Zi;go_wp2;go_ret;exact⟨x,HKl.out.symm,rfl,Ho6.out,vp.out⟩
theorem At.first {w:World}{a:Option Addr}{xs:List Value}(h:At w a xs)(k:Nat):At w a (xs.take k):=by
 rcases h with rfl|⟨b,o,rfl,hc⟩
 . exact .inl zm
 . refine .inr ⟨b,o,rfl,λj hj=>?_⟩;rw[List.length_take]at hj;rw[hc j zo,List.getElem?_take_of_lt zo]
def Ov (w:World)(a:Option Addr)(n cap:Nat)(ts:List aM)(e:Ending)(w':World):Prop:=
 ∃v',e=.returned v'/\((n<2/\v'=.slice a n cap)\/(2<=n/\w'.ownsRow w.heap.size 93 4 v' (iw ts).length ((iw ts).flatMap aX)))/\Bw w w'
theorem Ov.at {w:World}{a:Option Addr}{n cap:Nat}{ts:List aM}{e:Ending}{w':World}(h:Ov w a n cap ts e w')(hn:ts.length=n)(hs:Sl a n cap)(ha:At w a (ts.flatMap aX)):
 ∃a' c',e=.returned (.slice a' (iw ts).length c')/\At w' a' ((iw ts).flatMap aX)/\Sl a' (iw ts).length c'/\Bw w w':=by
 obtain⟨v',rfl,h1,hb⟩:=h;rcases h1 with⟨h2,rfl⟩ |⟨h2,ho⟩
 . rw[Ml ts zo,hn];exact⟨a,cap,rfl,ha.below hb,hs,hb⟩
 . obtain⟨a',c',rfl,hat,_⟩:=eo ho;exact⟨a',c',rfl,hat,uP ho,hb⟩
theorem aqy (n:Nat):∀(a:Option Addr) (cap:Nat) (ts:List aM) (B:Nat) (w:World),ts.length=n->Sl a n cap->n<=65536->At w a (ts.flatMap aX)->(∀t∈ts,Fit B t.2)->B+n+2<=268435456->aH w->
 Calls Tryz.prog 189 #[.slice a n cap,.func (.func 155) #[] #[],.func (.func 156) #[] #[]] w (Ov w a n cap ts):=by
 induction n using Nat.strongRecOn with
 | _ n ih=>
   intro a cap ts B w hn hs hl ha hf hB hT;by_cases h2:n<2
   . have h2i:(n:Int)<2:=by omega
     clear ih hn hs ha hf hT;have Hb:Hid (Bw w w):=Below.refl _ _;go_enter Tryz.func189,Tryz.ntmps189;go_wp2;go_ret;exact⟨_,rfl,.inl ⟨h2,rfl⟩,Hb.out⟩
   . obtain⟨k,hk⟩:=aG (n/2);have hk1:1<=k:=by omega
     have hk2:k<n:=by omega
     have Gh:(n:Int)/2=(k:Int):=by omega
     have l1:(ts.take k).length=k:=by rw[List.length_take];omega
     have l2:(ts.drop k).length=n-k:=by rw[List.length_drop];omega
     have hcn:=hs.1;have s1:Sl a k cap:=⟨by omega,hs.2⟩;have s2:Sl (if cap=k then a else a.map (·.add (k*4))) (n-k) (cap-k):=hs.cut zo;have a1:=ha.first (k*4);rw[Xk ts k zo]at a1;have a2:=ha.cut (k:=k) (size:=4) (by rw[mB,hn]) zo hcn;have ed:(ts.flatMap aX).drop (k*4)=(ts.drop k).flatMap aX:=by
      have e:ts=ts.take k++ts.drop k:=(List.take_append_drop _ _).symm;conv=>lhs;rw[e]
      rw[List.flatMap_append,List.drop_left' (by rw[mB,l1])]
     rw[ed]at a2;obtain⟨a',ha'⟩:=aG (if cap=k then a else a.map (·.add (k*4)));rw[ha']at s2 a2;have f1:∀t∈ts.take k,Fit B t.2:=λt ht=>hf t (List.mem_of_mem_take ht);have f2:∀t∈ts.drop k,Fit B t.2:=λt ht=>hf t (List.mem_of_mem_drop ht);have c1:=λW (hW:Bw w W) (FJ:aH W)=>(ih k hk2 a cap (ts.take k) B W l1 s1 zo (a1.below hW) f1 zo FJ).mono (λe w' h=>h.at l1 s1 (a1.below hW));have c2:=λW (hW:Bw w W) (FJ:aH W)=>(ih (n-k) zo a' (cap-k) (ts.drop k) B W l2 s2 zo (a2.below hW) f2 zo FJ).mono (λe w' h=>by obtain⟨x1,x2,x3,x4,x5,x6⟩:=h.at l2 s2 (a2.below hW);exact(⟨x1,x2,x3,x4,x5,Nat.le_trans hW.size x6.size,x6,x6⟩:∃a1 c1,e=.returned (.slice a1 (iw (ts.drop k)).length c1)/\At w' a1 ((iw (ts.drop k)).flatMap aX)/\Sl a1 (iw (ts.drop k)).length c1/\w.heap.size<=w'.heap.size/\Bw W w'/\Bw W w'));have g1:=Tj (B:=B) (ts.take k) f1 zo;have g2:=Tj (B:=B) (ts.drop k) f2 zo;have e1:=IA (ts.take k);have e2:=IA (ts.drop k);have hst:iw ts=il (iw (ts.take k)) (iw (ts.drop k)):=by rw[Tk ts zo,hn,hk]
     obtain⟨L,hL⟩:=aG (iw (ts.take k));obtain⟨R,hR⟩:=aG (iw (ts.drop k));rw[hL]at c1 g1 e1 hst;rw[hR]at c2 g2 e2 hst;have h2i:¬(n:Int)<2:=by omega
     have h2n:2<=n:=by omega
     obtain⟨C1,C2,G1,G2,bX,HT⟩:=gW c1 c2 (λt ht=>(g1 t ht).mono (show B+(ts.take k).length<=B+n by omega)) (λt ht=>(g2 t ht).mono (show B+(ts.drop k).length<=B+n by omega)) hst hT;have Jt:Hid (L.length<=65536/\R.length<=65536):=⟨by omega,by omega⟩;have EK:=ha';clear ih hn hs ha hf hT a1 a2 s1 s2 f1 f2 c1 c2 g1 g2 e1 e2 hst ed l1 l2 hL hR hk ha';have Hb:Hid (Bw w w):=Below.refl _ _;go_enter Tryz.func189,Tryz.ntmps189;go_wp2_with fail;have hkn:k<=n:=by omega
     have hkc:k<=cap:=by omega
     refine bR (λw'=>True) (λi=>Nat.blt i 100000) [(0,true),(1,true),(2,true),(3,true),(4,true),(6,true),(7,true),(8,true),(9,true),(10,true),(12,true),(13,true),(5,false),(11,false),(14,false),(15,true)] zk zk rfl zk zc True.intro ?_;iterate 12 (refine pT rfl rfl ?_;try simp only[UU])
     refine aI rfl rfl (λK hK=>?_);go_simp;with_reducible refine(C1.out _ (by first|exact Hb.out|exact Hb.out.drew) (by first|exact(HT.out.below Hb.out) |exact aH.drew (HT.out.below Hb.out) |exact aH.alloc (HT.out.below Hb.out) _|exact aH.drew (aH.alloc (HT.out.below Hb.out) _) |exact aH.alloc (aH.drew (HT.out.below Hb.out)) _)).mono ?_
     rintro e w1 ⟨b1,d1,rfl,lj,hs1,hq⟩;have ae:Bw w w1:=by first|exact hq|exact aW hq
     replace Hb:=aB Hb ae;clear ae;refine hK _ _ (λ_=>True.intro) ?_;clear hK K;try simp only[UU]
     refine aI rfl rfl (λK hK=>?_);go_simp;with_reducible refine(C2.out _ (by first|exact Hb.out|exact Hb.out.drew) (by first|exact(HT.out.below Hb.out) |exact aH.drew (HT.out.below Hb.out) |exact aH.alloc (HT.out.below Hb.out) _|exact aH.drew (aH.alloc (HT.out.below Hb.out) _) |exact aH.alloc (aH.drew (HT.out.below Hb.out)) _)).mono ?_
     rintro e w2 ⟨b2,d2,rfl,jm,hs2,amf,xy,hq⟩;have ae:Bw w1 w2:=by first|exact hq|exact aW hq
     replace Hb:=aB Hb ae;clear ae;refine hK _ _ (λ_=>True.intro) ?_;clear hK K;try simp only[UU]
     refine aI rfl rfl (λK hK=>?_);go_simp;with_reducible refine(abD b1 L.length d1 L b2 R.length d2 R (B+n) _ rfl rfl hs1 hs2 Jt.out.1 Jt.out.2 (by first|exact lj.below xy|exact(lj.below xy).drew) (by first|exact jm|exact jm.drew) G1.out G2.out zo (by first|exact(HT.out.below Hb.out) |exact aH.drew (HT.out.below Hb.out) |exact aH.alloc (HT.out.below Hb.out) _|exact aH.drew (aH.alloc (HT.out.below Hb.out) _) |exact aH.alloc (aH.drew (HT.out.below Hb.out)) _)).mono ?_
     rintro e w3 ⟨v',rfl,ho,hq⟩;have ae:Bw w2 w3:=by first|exact hq|exact aW hq
     replace Hb:=aB Hb ae;clear ae;refine hK _ _ (λ_=>True.intro) ?_;clear hK K;try simp only[UU]
     refine pT rfl rfl ?_;try simp only[UU]
     simp only[bi];go_wp2;go_ret;exact⟨v',rfl,.inr ⟨h2n,by rw[bX.out];exact rZ ho amf⟩,Hb.out⟩
def Cm (x:aM):aM:=(x.1,canon (az x.2))
theorem abA (f:aM->aM)(K C:List aM)(k:Nat)(hk:k<C.length)(hl:C.length=K.length)(ht:C.take k=(K.map f).take k)(hx:C[k]=K[k]'zo):(C.set k (f C[k])).take (k+1)=(K.map f).take (k+1):=by rw[take_set _ _ _ hk,ht,List.take_succ_eq_append_getElem zi,List.getElem_map,hx]
theorem WV {K C:List aM}{k:Nat}(hd:C.drop k=K.drop k)(h1:k<C.length)(h2:k<K.length):C[k]=K[k]:=by
 have e1:C[k]?=K[k]?:=by rw[<-Nat.add_zero k,<-List.getElem?_drop,<-List.getElem?_drop,hd]
 rw[List.getElem?_eq_getElem h1,List.getElem?_eq_getElem h2]at e1;exact Option.some.inj e1
theorem aiX (V:Int)(v:Value)(n:Nat)(ts:List aM)(B:Nat)(w0 w:World)(hb0:Bw w0 w)(hn:ts.length=n)(hl:n<=4096)(ho:w.ownsRow w0.heap.size 93 4 v n (ts.flatMap aX))(hf:∀t∈ts,Fit B t.2)(hB:B+n+2<=268435456)(hT:aH w0):
 Calls Tryz.prog 152 #[af V,v] w λe w'=>∃v',e=.returned (.tuple #[.agg #[af V,v'],af 0])/\w'.ownsRow w0.heap.size 93 4 v' (bY ts).length ((bY ts).flatMap aX)/\Bw w0 w':=by
 obtain⟨a,cap,rfl,hat,_⟩:=eo ho;have hs:=uP ho;have KW:=Tj ts hf zo;have hsl:=IA ts;have eg:∀args w,(callFunc 190 args).run Tryz.prog w=.ok (.enter 190 args) w:=enters_of Tryz.func190 zk rfl;obtain⟨S,hS⟩:=aG (iw ts);have c1:∀W,Bw w W->Calls Tryz.prog 189 #[.slice a n cap,.func (.func 155) #[] #[],.func (.func 156) #[] #[]] W λe w'=>∃v1,e=.returned v1/\w'.ownsRow w0.heap.size 93 4 v1 S.length (S.flatMap aX)/\Bw W w':=by
  intro W hW;refine(aqy n a cap ts B W hn hs zo (hat.below hW) hf hB (hT.below (aJ hb0 hW))).mono ?_;rintro e w' ⟨v1,rfl,h1,hb⟩;refine⟨v1,rfl,?_,hb⟩;rcases h1 with⟨h2,rfl⟩ |⟨h2,ej⟩
  . rw[<-hS,Ml ts zo,hn];exact ownsRow_below ho (aJ hW hb)
  . rw[<-hS];exact rZ ej (by have:=hW.size;have:=hb0.size;omega)
 obtain⟨K,hK⟩:=aG (S.filter iG);have KB:K.length<=4096:=by have:=List.length_filter_le iG S;rw[hK]at this;rw[hS]at hsl;omega
 rw[hS]at KW hsl;have c2:∀W v1,Bw w0 W->W.ownsRow w0.heap.size 93 4 v1 S.length (S.flatMap aX)->Calls Tryz.prog 188 #[v1,.func (.func 190) #[] #[]] W λe w'=>∃v2,e=.returned v2/\w'.ownsRow w0.heap.size 93 4 v2 K.length (K.flatMap aX)/\W.grownBy w' v1.ownBlock:=by
  intro W v1 hW ej;have hcl:∀x∈S,∀W,Calls Tryz.prog 190 #[.agg #[ah x.1,ag x.2.1,ah x.2.2.1,af x.2.2.2]] W λe w'=>e=.returned (ag (!iG x))/\Bw W w':=λx hx W=>aiW x.1 x.2.1 x.2.2.1 x.2.2.2 W (KW x hx).1;by_cases h0:0<S.length
  . obtain⟨g,c,rfl,_,_,_⟩:=Dl ej h0;refine(ajz g S.length c w0.heap.size S _ (λx=>!iG x) W rfl zo h0 ej eg hcl).mono ?_;rintro e w' ⟨k,hk,rfl,eO,hg2⟩;simp only[Bool.not_not]at hk eO;rw[hK]at hk eO;subst hk;exact⟨_,rfl,eO,hg2⟩
  . have pU:S=[]:=List.eq_nil_of_length_eq_zero zo;obtain⟨a1,c,rfl,lj,_⟩:=eo ej;refine(ajA a1 S.length c S _ (λx=>!iG x) W rfl zo lj eg (λx hx=>by rw[pU]at hx;cases hx) hcl).mono ?_;rintro e w' ⟨rfl,hb⟩;have vI:K=S:=by rw[<-hK,pU];rfl
    rw[vI];exact⟨_,rfl,ownsRow_below ej hb,Kn _ hb⟩
 have XQ:∀t∈K,Fit (B+ts.length) t.2:=λt ht=>by rw[<-hK]at ht;exact KW t (List.mem_filter.1 ht).1
 have hcl:bY ts=K.map Cm:=by unfold bY;rw[hS,hK];rfl
 rw[hcl,List.length_map];have hz:=hb0.size;obtain⟨m,hm⟩:=aG K.length;rw[hm]at KB c2⊢;obtain⟨Hm,C1,C2,HKf,Ob,HT⟩:=gW hm c1 c2 XQ hb0 hT;clear c1 c2 hm XQ hcl hb0 hT KW hS hK ho hat hs hf eg hsl;have Hb:Hid (Bw w w):=Below.refl _ _;go_enter Tryz.func152,Tryz.ntmps152;go_wp2_with fail;obtain⟨R,hR⟩:∃R:World->Prop,(λW=>ar W (w.heap.size) 91 [af 0,.slice none 0 0]/\Bw w W)=R:=⟨_,rfl⟩;first|refine cf R ?hR ?_|refine bZ R ?hR ?_
 case hR=>subst hR;exact⟨(ar.newAt w _ _ (b:=w.heap.size) rfl),zl⟩
 subst hR;rintro W ⟨qr,ae⟩;have Hr:=ai qr;clear qr;obtain⟨r0,aj,r1,ak⟩:=Hr.out.g2;replace Hb:=aB Hb ae;clear ae;go_wp2_with fail;refine(C1.out _ Hb.out).mono ?_;rintro e w1 ⟨v1,rfl,ej,ae⟩;clear r0 aj r1 ak;obtain⟨Hr,r0,aj,r1,ak⟩:=bE Hr ae;replace Hb:=aB Hb ae;clear ae;have hw1:=aJ Ob.out Hb.out;go_wp2_with fail;refine(C2.out _ v1 hw1 ej).mono ?_;rintro e w2 ⟨v2,rfl,eO,hg2⟩;have hr2:=Hr.out.row zd ej hg2;have hw2:=aig (hg2) (Nat.le_trans hz Hb.out.size) (λg e=>dz ej g e);obtain⟨Vz,yS⟩:=aO (hw1.trans hw2) eO;replace Hr:=ai hr2;clear C1 C2 ej hg2 hw1 hw2 hr2 eO r0 aj r1 ak Hb;have hKi:¬(4096:Int)<(m:Int):=by omega
 obtain⟨a2,cap2,rfl,_,_⟩:=eo yS.out;go_wp2_with fail;go_loopw[16] (λx wr=>∃(k:Nat) (C:List aM),k<=m/\x=af (k:Int)/\C.length=m/\C.take k=(K.map Cm).take k/\C.drop k=K.drop k/\wr.ownsRow w0.heap.size 93 4 (.slice a2 m cap2) m (C.flatMap aX)/\ar wr w.heap.size 91 [af 0,.slice none 0 0]/\Bw w0 wr) (λx _=>m-(intOf x).toNat);case atStart=>exact⟨0,K,Nat.zero_le _,rfl,Hm.out,rfl,rfl,yS.out,Hr.out,Vz.out⟩
 case round=>
  clear Hr yS Vz;obtain⟨k,C,hk,rfl,hC,htk,hdr,hov,hr,pb⟩:=hrel;by_cases hlt:k<m
  . obtain⟨g,cc,he,hg1,hg2,hg3⟩:=Dl hov zo;simp only[Value.slice.injEq,true_and]at he;obtain⟨rfl,rfl⟩:=he;have vO:k<C.length:=by omega
    have Ac:k<K.length:=by have:=Hm.out;omega
    have hel:=WV hdr vO Ac;obtain⟨l,s,q,e,hx⟩:∃l s m e,C[k]=(l,s,m,e):=⟨_,_,_,_,rfl⟩;have eJ:=HKf.out _ (List.getElem_mem Ac);rw[<-hel,hx]at eJ;obtain⟨D,hD⟩:=aG (az (s,q,e));have jG:=abA Cm K C k vO (by rw[hC,Hm.out]) htk hel;have Ga:Cm C[k]=(l,canon D):=by rw[hx,<-hD];rfl
    rw[Ga]at jG;have lu:C[k].1=l:=by rw[hx]
    have hw:=Ma hov k vO hx;have hd2:C.drop (k+1)=K.drop (k+1):=by rw[<-List.drop_drop,<-List.drop_drop,hdr]
    have bK:=kP m cap2 k (k:Int) (rfl:(some ⟨g,0,none⟩:Option Addr)=_) hlt rfl;rw[Nat.zero_add]at bK;have Hfm:Hid (∀W,aH W->Calls Tryz.prog 111 #[.agg #[ag s,ah q,af e]] W λex w'=>ex=.returned (bL D)/\Bw W w'):=λW FJ=>sV s q e D hD W eJ.1 FJ;obtain⟨dD,bu,EJ,wO,HC,MU,yE⟩:=jT hov pb jG hd2 hC lu (HT.out.below pb);have Hr:Hid (ar wr w.heap.size 91 [af 0,.slice none 0 0]):=hr;have Hz:Hid (bH wr g (k*4) [ah l,ag s,ah q,af e]):=hw;clear hov pb jG hd2 hC hr hw htk hdr hel hx eJ hD Ga lu Ac;have Hb:Hid (Bw wr wr):=Below.refl _ _;obtain⟨z0,z1,z2,z3⟩:=Hz.out.w4;have y2:wr.cell? ⟨g,k*4+1+1,none⟩=some (ah q):=z2;have y3:wr.cell? ⟨g,k*4+1+2,none⟩=some (af e):=z3;go_wp2_with fail;refine(Hfm.out _ yE.out).mono ?_;rintro e w5 ⟨rfl,ae⟩;clear z0 z1 z2 z3;replace Hz:=kW Hz ae;obtain⟨z0,z1,z2,z3⟩:=Hz.out.w4;replace Hb:=aB Hb ae;clear ae;have jq:=ownsRow_below dD.out Hb.out;clear y2 y3;have y2:w5.cell? ⟨g,k*4+1+1,none⟩=some (ah q):=z2;have y3:w5.cell? ⟨g,k*4+1+2,none⟩=some (af e):=z3;have oX:=rY jq (k*4+1);have Kk:=rY jq (k*4+1+1);have Xo:=rY jq (k*4+1+2);have hgb:=(Dk jq).2;have Rn:=Hr.out.below Hb.out;have ez:=aJ bu.out Hb.out;have QI:g≠w.heap.size:=λe=>Rn.not_row zd jq (by rw[e];rfl);obtain⟨yT,Hr5,gD⟩:=cL jq Rn ez;clear jq Rn ez;go_wp2;refine⟨⟨k+1,C.set k (l,canon D),by omega,by go_num,by rw[List.length_set];exact HC.out,EJ.out,by rw[OY _ _ _ _ zo];exact wO.out,?_,?_,?_⟩,by simp[intOf];omega⟩
    . have h:=ab3 yT.out k vO (au (dN D)) (nt (dN D).natAbs) (dE D);rw[MU.out]at h;exact h
    . exact((Hr5.out.aw3 _ QI _).aw3 _ QI _).aw3 _ QI _
    . exact((gD.out.setCell zp _).setCell zp _).setCell zp _
  . obtain rfl:k=m:=by omega
    have Fl:C=K.map Cm:=by rw[List.take_of_length_le zo,List.take_of_length_le (by rw[List.length_map];have:=Hm.out;omega)]at htk;exact htk
    rw[Fl]at hov;obtain⟨dD,bu⟩:=aO hov pb;have Hr:Hid (ar wr w.heap.size 91 [af 0,.slice none 0 0]):=hr;clear hov pb hr htk hdr hC Fl;obtain⟨r0,aj,r1,ak⟩:=Hr.out.g2;go_wp2;have hne:=(Hr.out.not_row zd dD.out).symm;have hrs:=Hr.out.lt;refine dW (λw9=>ar w9 w.heap.size 91 [af V,.slice a2 k cap2]/\w9.ownsRow w0.heap.size 93 4 (.slice a2 k cap2) k ((K.map Cm).flatMap aX)/\Bw w0 w9) ⟨(Hr.out.set 0 _).set 1 _,ownsRow_setCell_other (ownsRow_setCell_other dD.out hne _) hne _,(bu.out.setCell hz _).setCell hz _⟩ ?_;rintro w9 ⟨qE,iD,jE⟩;obtain⟨q0,q1⟩:=qE.c2;exact bodyPost_ret (v:=.tuple #[.agg #[af V,.slice a2 k cap2],af 0]) (by simp[results,Tryz.results152,go_sem,q0,q1]) rfl ⟨_,rfl,iD,jE⟩
theorem OL (V:Int)(v:Value)(n:Nat)(ts C:List aM)(B:Nat)(w0 w:World)(hb0:Bw w0 w)(hn:ts.length=n)(hl:n<=4096)(ho:w.ownsRow w0.heap.size 93 4 v n (ts.flatMap aX))(hf:∀t∈ts,Fit B t.2)(hB:B+n+2<=268435456)(hT:aH w0)(hC:bY ts=C):
 Calls Tryz.prog 152 #[af V,v] w λe w'=>∃a c,e=.returned (.tuple #[.agg #[af V,.slice a C.length c],af 0])/\w'.ownsRow w0.heap.size 93 4 (.slice a C.length c) C.length (C.flatMap aX)/\Bw w0 w':=by
 subst hC;refine(aiX V v n ts B w0 w hb0 hn hl ho hf hB hT).mono ?_;rintro e w' ⟨v',rfl,h1,h2⟩;obtain⟨a,c,rfl,_,_⟩:=eo h1;exact⟨a,c,rfl,h1,h2⟩
theorem aoD {w W:World}{b base k:Nat}{v x0 x1:Value}{xs:List Value}(hr:ar W b 91 [x0,x1])(ho:W.ownsRow base 93 4 v k xs)(hb:Bw w W)(hbs:w.heap.size<=b)(y0 y1:Value):
 ar ((W.setCell ⟨b,0,none⟩ y0).setCell ⟨b,1,none⟩ y1) b 91 [y0,y1]/\((W.setCell ⟨b,0,none⟩ y0).setCell ⟨b,1,none⟩ y1).ownsRow base 93 4 v k xs/\Bw w ((W.setCell ⟨b,0,none⟩ y0).setCell ⟨b,1,none⟩ y1):=by
 have hne:=(hr.not_row zd ho).symm;exact⟨(hr.set 0 _).set 1 _,ownsRow_setCell_other (ownsRow_setCell_other ho hne _) hne _,(hb.setCell hbs _).setCell hbs _⟩
theorem Cl {P:Program}{fn:Func}{R:Ending->World->Prop}{e:Exit}{a:Act}{w W:World}{b base k:Nat}{v x0 x1 y0 y1:Value}{xs:List Value}(hr:ar W b 91 [x0,x1])(ho:W.ownsRow base 93 4 v k xs)(hb:Bw w W)(hbs:w.heap.size<=b)
 (h:∀W',ar W' b 91 [y0,y1]->W'.ownsRow base 93 4 v k xs->Bw w W'->bodyPost P fn R e a W'):bodyPost P fn R e a ((W.setCell ⟨b,0,none⟩ y0).setCell ⟨b,1,none⟩ y1):=by
 obtain⟨h1,h2,h3⟩:=aoD hr ho hb hbs y0 y1;exact h _ h1 h2 h3
theorem Wu (a:Option Addr)(n cap:Nat)(ts:List aM)(w:World)(hn:ts.length=n)(hl:n<=1048576)(hs:Sl a n cap)(ha:At w a (ts.flatMap aX)):
 Calls Tryz.prog 151 #[.slice a n cap] w λe w'=>∃v',e=.returned v'/\w'.ownsRow w.heap.size 93 4 v' n (ts.flatMap aX)/\Bw w w':=by
 obtain⟨i0,hi,hz0,hz1,hz2⟩:=info_parts Tryz.aw6;have q:=λ(w:World) (a:Option Addr) (n c n' c':Nat)=>Lib.run_eql_slice_nil (P:=Tryz.prog) w 89 93 a n c n' c' Tryz.underlying89;have hlen:(ts.flatMap aX).length=n*4:=by rw[nM aX 4 (λ_=>rfl),hn]
 obtain⟨cs,hcs⟩:=aG (ts.flatMap aX);have h1:=tX ts;rw[hcs]at hlen ha h1⊢;obtain⟨mE,Ha,H1,Hs,Hi,dF,dG,dm⟩:=nZ hlen ha h1 hs hi hz0 hz1 hz2;clear hlen ha h1 hs hi hz0 hz1 hz2 hn hcs;cases a with
 | none=>
   have hc:=Hs.out.2 rfl;have hn0:n=0:=by have:=Hs.out.1;omega
   subst hc;subst hn0;go_enter Tryz.func151,Tryz.ntmps151;go_wp2;go_ret;refine⟨_,rfl,?_,Below.refl _ _⟩;have e:cs=[]:=List.eq_nil_of_length_eq_zero (by have:=mE.out;omega);rw[e];exact World.ownsRow_nil _ _ _ _
 |some ad=>go_enter Tryz.func151,Tryz.ntmps151;go_wp2_with (at_builtin;refine rp rfl _ _ 89 rfl w.heap.size 93 i0 _ 4 48 Tryz.underlying89 Hi.out dF.out dG.out dm.out rfl zd _ 0 [] rfl (World.ownsRow_made w #[] 0 (Nat.le_refl _) (Nat.zero_le _) zm) (some ad) n cap cs rfl Hs.out mE.out (Ha.out.below ((Below.refl _ w).alloc (Nat.le_refl _) _)) H1.out zx zo zm ?_;intro v' w1 hown hgrow iE);go_ret;refine⟨v',rfl,by simpa using hown,?_⟩;exact((Below.refl _ w).alloc (Nat.le_refl _) _).grown hgrow zm (λk hk=>by have h9:w.heap.size=k:=Option.some.inj hk;omega)
theorem anJ (V:Int)(ts:List aM)(h:∀t∈ts,gp t.1 V=true):(ts.any λt=>!gp t.1 V)=false:=by rw[List.any_eq_false];intro t ht;rw[h t ht];simp
theorem abz (V:Nat)(a:Option Addr)(n cap:Nat)(ts:List aM)(B:Nat)(w:World)(hV:V<=12)(hn:ts.length=n)(hl:n<=4096)(hs:Sl a n cap)(ha:At w a (ts.flatMap aX))(hm:∀t∈ts,gp t.1 V=true)(hl2:∀t∈ts,t.1.length<=9223372036854775807)
 (hf:∀t∈ts,Fit B t.2) (hB:B+n+2<=268435456) (hT:aH w):
 Calls Tryz.prog 147 #[af (V:Int),.slice a n cap] w λe w'=>∃a' c',e=.returned (.tuple #[.agg #[af (V:Int),.slice a' (bY ts).length c'],af 0])/\w'.ownsRow w.heap.size 93 4 (.slice a' (bY ts).length c') (bY ts).length ((bY ts).flatMap aX)/\Bw w w':=by
 have eg:∀args w,(callFunc 186 args).run Tryz.prog w=.ok (.enter 186 args) w:=enters_of Tryz.func186 zk rfl;have hct:∀W bv,Bw w W->W.cell? ⟨bv,0,none⟩=some (af (V:Int))->Calls Tryz.prog 185 #[.slice a n cap,.func (.func 186) #[] #[.pointer (some ⟨bv,0,none⟩)]] W λe w'=>e=.returned (ag false)/\Bw W w':=by intro W bv hW hc;have h:=ajf a n cap ts 186 #[.pointer (some ⟨bv,0,none⟩)] (λt=>!gp t.1 V) W hn zo (ha.below hW) eg (λx hx W2 hW2=>by simpa using anH x.1 x.2.1 x.2.2.1 x.2.2.2 V bv W2 (cell_later hW2 hc) (hl2 x hx));rwa [anJ V ts hm]at h
 obtain⟨C,hC⟩:=aG (bY ts);have hcn:=λW (hW:Bw w W)=>(Wu a n cap ts W hn zo hs (ha.below hW)).mono (λe w' h=>(match h with|⟨v,h1,h2,h3⟩=>⟨v,h1,h2,h3,h3⟩:∃v',e=.returned v'/\w'.ownsRow W.heap.size 93 4 v' n (ts.flatMap aX)/\Bw W w'/\Bw W w'));have hcl:=λw0 W v (hw0:Bw w w0) (hb0:Bw w0 W) (ho:W.ownsRow w0.heap.size 93 4 v n (ts.flatMap aX))=>OL (V:Int) v n ts C B w0 W hb0 hn hl ho hf hB (hT.below hw0) hC;rw[hC];obtain⟨MR,vd,iI⟩:=cL hct hcn hcl;clear hct hcn hcl hC ha hT hf hm hl2 hs hn eg;have tE:=λW=>Kj (V:Int) W;have hd:decide (0<=(V:Int)/\(V:Int)<=12)=true:=by simp;omega
 rw[hd]at tE;have Ep:=ai tE;clear tE hd;have hni:¬(65536:Int)<(n:Int):=by omega
 have Hb:Hid (Bw w w):=Below.refl _ _;go_enter Tryz.func147,Tryz.ntmps147;go_wp2_with fail;obtain⟨R,hR⟩:∃R:World->Prop,(λW=>ar W (w.heap.size) 3 [af (V:Int)]/\ar W (w.heap.size+1) 91 [af 0,.slice none 0 0]/\Bw w W)=R:=⟨_,rfl⟩;first|refine cf R ?hR ?_|refine bZ R ?hR ?_
 case hR=>subst hR;exact⟨((ar.newAt w _ _ (b:=w.heap.size) rfl).alloc _),(ar.newAt (w.alloc _) _ _ (b:=w.heap.size+1) zm),(zl.alloc zj _)⟩
 subst hR;rintro W ⟨qv,qr,ae⟩;have Hv:=ai qv;clear qv;have Hr:=ai qr;clear qr;have v0:=Hv.out.c1;obtain⟨r0,aj,r1,ak⟩:=Hr.out.g2;replace Hb:=aB Hb ae;clear ae;go_wp2_with fail;refine(Ep.out _).mono ?_;rintro e w1 ⟨rfl,ae⟩;clear v0 r0 aj r1 ak;replace Hv:=kB Hv ae;replace Hr:=kB Hr ae;have v0:=Hv.out.c1;obtain⟨r0,aj,r1,ak⟩:=Hr.out.g2;replace Hb:=aB Hb ae;clear ae;go_wp2_with fail;refine(MR.out _ _ Hb.out v0).mono ?_;rintro e w2 ⟨rfl,ae⟩;clear v0 r0 aj r1 ak;replace Hv:=kB Hv ae;replace Hr:=kB Hr ae;have v0:=Hv.out.c1;obtain⟨r0,aj,r1,ak⟩:=Hr.out.g2;replace Hb:=aB Hb ae;clear ae;go_wp2_with fail;refine bR (λw'=>aC w' (w.heap.size) 0 (af (V:Int))) (λi=>Nat.blt i 6) [(0,true),(1,true),(2,false),(3,false),(4,true),(5,true),(6,false),(7,false)] zk zk rfl zk zc v0 ?_;iterate 2 (refine pT rfl rfl ?_;try simp only[UU])
 have agX:=Hv;have ky:=Hr;have fq:=Hb;refine aI rfl rfl (λK hK=>?_);go_simp;with_reducible refine(vd.out _ (by first|exact Hb.out|exact Hb.out.drew)).mono ?_
 rintro e w3 ⟨v1,rfl,ej,alo,hq⟩;have ae:Bw w2 w3:=by first|exact hq|exact aW hq
 clear v0 r0 aj r1 ak;replace Hv:=kB Hv ae;replace Hr:=kB Hr ae;have v0:=Hv.out.c1;obtain⟨r0,aj,r1,ak⟩:=Hr.out.g2;replace Hb:=aB Hb ae;clear ae;refine hK _ _ (λ_=>v0) ?_;clear hK K;try simp only[UU]
 refine aI rfl rfl (λK hK=>?_);go_simp;with_reducible refine(iI.out _ _ v1 (by first|exact fq.out|exact fq.out.drew) alo ej).mono ?_
 rintro e w4 ⟨a2,c2,rfl,eO,hq⟩;have ae:Bw w2 w4:=by first|exact hq|exact aW hq
 clear v0 r0 aj r1 ak;replace Hv:=ai (agX.out.below ae);replace Hr:=ai (ky.out.below ae);have v0:=Hv.out.c1;obtain⟨r0,aj,r1,ak⟩:=Hr.out.g2;replace Hb:=ai (aJ fq.out ae);clear ae;refine hK _ _ (λ_=>v0) ?_;clear hK K;try simp only[UU]
 iterate 2 (refine pT rfl rfl ?_;try simp only[UU])
 refine aI rfl rfl (λK hK=>?_);go_simp;refine hK _ _ (by first|exact λh=>absurd h zd|exact λ_=>v0|exact λ_=>gG zg v0) ?_;clear hK K;try simp only[UU]
 refine aI rfl rfl (λK hK=>?_);go_simp;refine hK _ _ (λh=>absurd h zd) ?_;clear hK K;try simp only[UU]
 simp only[bi];go_wp2;refine Cl (Hr.out) eO Hb.out zo ?_;intro w9 qE iD jE;obtain⟨p0,p1⟩:=qE.c2;exact bodyPost_ret (v:=.tuple #[.agg #[af (V:Int),.slice a2 C.length c2],af 0]) (by simp[results,Tryz.results147,go_sem,p0,p1]) rfl ⟨_,_,rfl,rZ iD (by have:=fq.out.size;exact this),jE⟩
def zn (w:World)(a:Option Addr)(C:List aM):Prop:=C=[]\/∃b o cur,a=some ⟨b,o,none⟩/\w.heap[b]?=some (.cells cur 93)
theorem zn.below {w w':World}{a:Option Addr}{C:List aM}(h:zn w a C)(hb:Bw w w'):zn w' a C:=by
 rcases h with h|⟨b,o,cur,h1,h2⟩
 . exact .inl h
 . exact .inr ⟨b,o,cur,h1,by rw[hb.block b (Array.getElem?_eq_some_iff.1 h2).1];exact h2⟩
theorem zn.off {w:World}{a:Option Addr}{C:List aM}{g:Nat}{cur:Array Value}{t:TypeId}(h:zn w a C)(hg:w.heap[g]?=some (.cells cur t))(ht:t≠93)(i:Nat)(u:Value):zn (w.setCell ⟨g,i,none⟩ u) a C:=by
 rcases h with h|⟨b,o,cur',h1,h2⟩
 . exact .inl h
 . refine .inr ⟨b,o,cur',h1,?_⟩;have hne:b≠g:=λe=>by subst e;rw[hg]at h2;simp at h2;exact ht h2.2
   rw[Below.heap_setCell _ _ _ _ hne];exact h2
def cz (w:World)(a:Option Addr)(c:Nat)(C:List aM):Prop:=At w a (C.flatMap aX)/\Sl a C.length c/\zn w a C
theorem cz.below {w w':World}{a:Option Addr}{c:Nat}{C:List aM}(h:cz w a c C)(hb:Bw w w'):cz w' a c C:=⟨h.1.below hb,h.2.1,h.2.2.below hb⟩
theorem cz.off {w:World}{a:Option Addr}{c:Nat}{C:List aM}{g:Nat}{cur:Array Value}{t:TypeId}(h:cz w a c C)(hg:w.heap[g]?=some (.cells cur t))(ht:t≠93)(i:Nat)(u:Value):cz (w.setCell ⟨g,i,none⟩ u) a c C:=by
 refine⟨?_,h.2.1,h.2.2.off hg ht i u⟩;rcases h.2.2 with h'|⟨b,o,cur',rfl,h2⟩
 . subst h';exact .inl rfl
 . have hne:b≠g:=λe=>by subst e;rw[hg]at h2;simp at h2;exact ht h2.2
   rcases h.1 with h1|⟨b1,o1,e1,hc⟩
   . exact .inl h1
   . simp only[Option.some.injEq,Addr.mk.injEq,and_true]at e1;obtain⟨rfl,rfl⟩:=e1;refine .inr ⟨b,o,rfl,λj hj=>?_⟩;have h9:=hc j hj;rw[List.getElem?_eq_getElem hj]at h9⊢;exact aK (.inl hne) h9
theorem cz.store {w:World}{a:Option Addr}{c b:Nat}{t:TypeId}{C:List aM}{cs:List Value}(h:cz w a c C)(hb:ar w b t cs)(ht:t≠93)(u v:Value):cz ((w.setCell ⟨b,0,none⟩ u).setCell ⟨b,1,none⟩ v) a c C:=
 (h.off hb ht 0 u).off (hb.set 0 u) ht 1 v
theorem Ih {w:World}{base c:Nat}{a:Option Addr}{C:List aM}(h:w.ownsRow base 93 4 (.slice a C.length c) C.length (C.flatMap aX)):cz w a c C:=by
 obtain⟨a',c',hv,hat,_⟩:=eo h;have hs:=uP h;simp only[Value.slice.injEq,true_and]at hv;obtain⟨rfl,rfl⟩:=hv;refine⟨hat,hs,?_⟩;rcases h.2 with⟨_,h2⟩ |⟨g,cap,cur,hv,hb,hg,_⟩
 . exact .inl (List.length_eq_zero_iff.1 h2)
 . simp only[Value.slice.injEq,true_and]at hv;exact .inr ⟨g,0,cur,hv.1,hg⟩
theorem TK (V:Nat):((List.range V).map λ_=>UInt8.ofNat 0)=jc V:=by
 unfold jc;apply List.ext_getElem
 . simp
 . intro i h1 h2;simp
theorem aba (V:Nat)(D:Dyadic)(x:Raw)(l:Nat->Dyadic)(h:az x=D):bY [(jc V,x)]=dO V D l 0:=by unfold dO;refine Cn (λm=>?_);simp only[iO,List.range_zero,List.map_nil,cF,bD,h]
theorem WC (V:Nat)(s:Bool)(m:List UInt8)(e:Int)(D:Dyadic)(B:Nat)(l:Nat->Dyadic)(w:World)(hV:V<=12)(hf:Fit B (s,m,e))(hB:B+3<=268435456)(hT:aH w)(hD:az (s,m,e)=D):
 Calls Tryz.prog 97 #[af (V:Int),.agg #[ag s,ah m,af e]] w λex w'=>∃a' c',ex=.returned (.tuple #[.agg #[af (V:Int),.slice a' (dO V D l 0).length c'],af 0])/\cz w' a' c' (dO V D l 0)/\Bw w w':=by
 have hC:=aba V D (s,m,e) l hD;obtain⟨C,uv⟩:=aG (dO V D l 0);rw[uv]at hC⊢;have hmk:=λW (hW:Bw w W) b (hb:ar W b 93 [ah (jc V),ag s,ah m,af e])=>abz V (some ⟨b,0,none⟩) 1 1 [(jc V,(s,m,e))] B W hV rfl zo (Sl.some _ _ _ (Nat.le_refl _)) (At.aw2 hb) (by intro t ht;simp at ht;subst ht;exact adN V) (by intro t ht;simp at ht;subst ht;simp[jc];omega) (by intro t ht;simp at ht;subst ht;exact hf) zo (hT.below hW);rw[hC]at hmk;have tE:=λW=>Kj (V:Int) W;have hd:decide (0<=(V:Int)/\(V:Int)<=12)=true:=by simp;omega
 rw[hd]at tE;have hmb:=λW=>rX (V:Int) V rfl zo W;have hcv:∀W b,Hid (ar W b 5 (cZ V λ_=>0))->(convert 94 9 (.slice (some ⟨b,0,none⟩) V V)).run Tryz.prog W=.ok (ah (jc V)) W:=λW b h=>by rw[<-TK];exact wB h.out V
 obtain⟨lJ,Ep⟩:=aO hmk tE;clear hmk tE hd hC uv hT hf hD;have Hb:Hid (Bw w w):=Below.refl _ _;go_enter Tryz.func97,Tryz.ntmps97;go_wp2_with fail;obtain⟨R,hR⟩:∃R:World->Prop,(λW=>ar W (w.heap.size) 39 [ag s,ah m,af e]/\ar W (w.heap.size+1) 91 [af 0,.slice none 0 0]/\Bw w W)=R:=⟨_,rfl⟩;first|refine cf R ?hR ?_|refine bZ R ?hR ?_
 case hR=>subst hR;exact⟨((ar.newAt w _ _ (b:=w.heap.size) rfl).alloc _),(ar.newAt (w.alloc _) _ _ (b:=w.heap.size+1) zm),(zl.alloc zj _)⟩
 subst hR;rintro W ⟨qc,qr,ae⟩;have Hc:=ai qc;clear qc;have Hr:=ai qr;clear qr;obtain⟨c0,c1,c2⟩:=Hc.out.c3;obtain⟨r0,aj,r1,ak⟩:=Hr.out.g2;replace Hb:=aB Hb ae;clear ae;go_wp2_with fail;refine(Ep.out _).mono ?_;rintro e w1 ⟨rfl,ae⟩;clear c0 c1 c2 r0 aj r1 ak;obtain⟨Hc,c0,c1,c2⟩:=aQ Hc ae;obtain⟨Hr,r0,aj,r1,ak⟩:=bE Hr ae;replace Hb:=aB Hb ae;clear ae;go_wp2_with fail;refine bR (λw'=>aC w' (w.heap.size) 0 (ag s)/\aC w' (w.heap.size) 1 (ah m)/\aC w' (w.heap.size) 2 (af e)) (λi=>Nat.blt i 10) [(0,true),(1,true),(4,true),(2,false),(3,false),(5,true),(6,false),(7,false),(8,true),(9,true),(10,false),(11,false)] zk zk rfl zk zc ⟨c0,c1,c2⟩ ?_;iterate 3 (refine pT rfl rfl ?_ (by intro w' ⟨q0,q1,q2⟩;go_simp;try with_reducible rfl);try simp only[UU])
 refine aI rfl rfl (λK hK=>?_);go_simp;refine hK _ _ (λ_=>⟨aL c0,aL c1,aL c2⟩) ?_;clear hK K;try simp only[UU]
 refine bV (λW3=>ar W3 (w1.heap.size) 5 (cZ V (λ_=>0))/\Bw w1 W3) (by first|exact fe|exact fg) ?_;rintro W3 ⟨qq,ae⟩;clear c0 c1 c2 r0 aj r1 ak;have RZ:=Hc.out.lt;have GY:=Hr.out.lt;replace Hc:=kB Hc ae;replace Hr:=kB Hr ae;have Hq:=ai qq;clear qq;obtain⟨c0,c1,c2⟩:=Hc.out.c3;obtain⟨r0,aj,r1,ak⟩:=Hr.out.g2;replace Hb:=aB Hb ae;clear ae;refine aI rfl rfl (λK hK=>?_);go_simp;refine hK _ _ (λ_=>⟨c0,c1,c2⟩) ?_;clear hK K;try simp only[UU]
 refine pT rfl rfl ?_;try simp only[UU]
 refine aI rfl rfl (λK hK=>?_);go_simp;refine hK _ _ (λ_=>⟨aL c0,aL c1,aL c2⟩) ?_;clear hK K;try simp only[UU]
 refine bV (λW4=>ar W4 (W3.heap.size) 93 [ah (jc V),ag s,ah m,af e]/\Bw W3 W4) (by first|exact fe|exact fg) ?_;rintro W4 ⟨qz,ae⟩;clear c0 c1 c2 r0 aj r1 ak;have abp:=Hc.out.lt;have GZ:=Hr.out.lt;have anr:=Hq.out.lt;replace Hc:=kB Hc ae;replace Hr:=kB Hr ae;replace Hq:=kB Hq ae;have Hz:=ai qz;clear qz;obtain⟨c0,c1,c2⟩:=Hc.out.c3;obtain⟨r0,aj,r1,ak⟩:=Hr.out.g2;obtain⟨z0,z1,z2,z3⟩:=Hz.out.c4;replace Hb:=aB Hb ae;clear ae;refine aI rfl rfl (λK hK=>?_);go_simp;with_reducible refine(lJ.out _ Hb.out _ Hz.out).mono ?_
 rintro e w5 ⟨a2,d2,rfl,eO,hq⟩;have ae:Bw W4 w5:=by first|exact hq|exact aW hq
 clear c0 c1 c2 r0 aj r1 ak z0 z1 z2 z3;obtain⟨Hc,c0,c1,c2⟩:=aQ Hc ae;obtain⟨Hr,r0,aj,r1,ak⟩:=bE Hr ae;replace Hq:=kB Hq ae;obtain⟨Hz,z0,z1,z2,z3⟩:=dU Hz ae;replace Hb:=aB Hb ae;clear ae;refine hK _ _ (λ_=>⟨c0,c1,c2⟩) ?_;clear hK K;try simp only[UU]
 iterate 2 (refine pT rfl rfl ?_;try simp only[UU])
 refine aI rfl rfl (λK hK=>?_);go_simp;refine hK _ _ (by first|exact λh=>absurd h zd|exact λ_=>⟨c0,c1,c2⟩ |exact λ_=>⟨(by first|exact c0|exact aK zf c0|exact aK zf (aK zf c0) |exact aK zf (aK zf (aK zf c0))),(by first|exact c1|exact aK zf c1|exact aK zf (aK zf c1) |exact aK zf (aK zf (aK zf c1))),(by first|exact c2|exact aK zf c2|exact aK zf (aK zf c2) |exact aK zf (aK zf (aK zf c2)))⟩) ?_;clear hK K;try simp only[UU]
 refine aI rfl rfl (λK hK=>?_);go_simp;refine hK _ _ (λh=>absurd h zd) ?_;clear hK K;try simp only[UU]
 simp only[bi];go_wp2;refine Cl (Hr.out) eO Hb.out zo ?_;intro w9 qE iD jE;obtain⟨p0,p1⟩:=qE.c2;exact bodyPost_ret (v:=.tuple #[.agg #[af (V:Int),.slice a2 C.length d2],af 0]) (by simp[results,Tryz.results97,go_sem,p0,p1]) rfl ⟨_,_,rfl,Ih iD,jE⟩
theorem ads (V k:Nat):((List.range V).map λj=>UInt8.ofNat (if j=k then 1 else 0))=dt V k:=by
 unfold dt;apply List.ext_getElem
 . simp
 . intro i h1 h2;rw[List.getElem_map,List.getElem_range,List.getElem_set];by_cases h:k=i
   . subst h;simp
   . rw[if_neg (λe=>h e.symm),if_neg h];simp
theorem arz :Fit 1 (canon (1:Dyadic)):=Sm.one.fit zd
theorem arC (V k:Nat)(w:World)(hV:V<=12)(hk:k<V)(hT:aH w):
 Calls Tryz.prog 149 #[af (V:Int),af (k:Int)] w λex w'=>∃a' c',ex=.returned (.tuple #[.agg #[af (V:Int),.slice a' (bY [(dt V k,canon 1)]).length c'],af 0])/\cz w' a' c' (bY [(dt V k,canon 1)])/\Bw w w':=by
 obtain⟨C,hC⟩:=aG (bY [(dt V k,canon 1)]);rw[hC];obtain⟨O,hO⟩:∃O:Dyadic,(1:Dyadic)=O:=⟨_,rfl⟩;have hmk:=λW (hW:Bw w W) b (hb:ar W b 93 [ah (dt V k),ag (au (dN O)),ah (nt (dN O).natAbs),af (dE O)])=>abz V (some ⟨b,0,none⟩) 1 1 [(dt V k,canon 1)] 1 W hV rfl zo (Sl.some _ _ _ (Nat.le_refl _)) (by rw[hO];exact At.aw2 hb) (by intro t ht;simp at ht;subst ht;exact Tz V k) (by intro t ht;simp at ht;subst ht;simp[dt];omega) (by intro t ht;simp at ht;subst ht;exact arz) zo (hT.below hW);rw[hC]at hmk;have hof:=λW (hW:Bw w W)=>xj 1 O hO W zd (hT.below hW);have tE:=λW=>Kj (V:Int) W;have hd:decide (0<=(V:Int)/\(V:Int)<=12)=true:=by simp;omega
 rw[hd]at tE;have hmb:=λW=>rX (V:Int) V rfl zo W;have hcv:∀W b,Hid (ar W b 5 (cZ V λj=>if j=k then 1 else 0))->(convert 94 9 (.slice (some ⟨b,0,none⟩) V V)).run Tryz.prog W=.ok (ah (dt V k)) W:=λW b h=>by rw[<-ads V k];exact wB h.out V
 have bK:=λb=>xV V V k (k:Int) (rfl:(some ⟨b,0,none⟩:Option Addr)=_) hk rfl;simp only[Nat.zero_add,Nat.mul_one]at bK;have hget:(cZ V λ_=>0)[k]?=some (.int .u8 0):=mC _ _ _ hk;have jG:(cZ V λ_=>0).set k (.int .u8 1)=cZ V λj=>if j=k then 1 else 0:=Bh V _ k 1
 obtain⟨lJ,rA,Ep⟩:=cL hmk hof tE;clear hmk hof tE hd hC hT hO;have Gh:¬(k:Int)<0:=by omega
 have Hb:Hid (Bw w w):=Below.refl _ _;go_enter Tryz.func149,Tryz.ntmps149;go_wp2_with fail;obtain⟨R,hR⟩:∃R:World->Prop,(λW=>ar W (w.heap.size) 91 [af 0,.slice none 0 0]/\Bw w W)=R:=⟨_,rfl⟩;first|refine cf R ?hR ?_|refine bZ R ?hR ?_
 case hR=>subst hR;exact⟨(ar.newAt w _ _ (b:=w.heap.size) rfl),zl⟩
 subst hR;rintro W ⟨qr,ae⟩;have Hr:=ai qr;clear qr;obtain⟨r0,aj,r1,ak⟩:=Hr.out.g2;replace Hb:=aB Hb ae;clear ae;go_wp2_with fail;refine(Ep.out _).mono ?_;rintro e w1 ⟨rfl,ae⟩;clear r0 aj r1 ak;obtain⟨Hr,r0,aj,r1,ak⟩:=bE Hr ae;replace Hb:=aB Hb ae;clear ae;go_wp2_with fail;obtain⟨R,hR⟩:∃R:World->Prop,(λW3=>ar W3 w1.heap.size 5 (cZ V λj=>if j=k then 1 else 0)/\Bw w1 W3)=R:=⟨_,rfl⟩;first|refine cf R ?hR ?_|refine bZ R ?hR ?_
 case hR=>subst hR;exact⟨ar.newAt w1 _ _ (b:=w1.heap.size) rfl,zl⟩
 subst hR;intro W3 ⟨qm,ae⟩;clear r0 aj r1 ak;obtain⟨Hr,r0,aj,r1,ak⟩:=bE Hr ae;replace Hb:=ai (aJ Hb.out ae);have Hm:=ai qm;clear qm ae hget jG bK hmb;have iT:∀w',fL W3 w'->(convert 94 9 (.slice (some ⟨w1.heap.size,0,none⟩) V V)).run Tryz.prog w'=.ok (ah (dt V k)) w':=λw' h=>hcv w' _ (ai (Hm.out.below h));have bz:Hid (fL W3 W3):=Below.refl _ _;refine bR (λw'=>fL W3 w') (λi=>Nat.blt i 9) [(0,true),(1,true),(2,true),(3,false),(4,true),(5,false),(6,false),(7,true),(8,true),(9,false),(10,false)] zk zk rfl zk zc bz.out.drew ?_;iterate 3 (refine SG rfl rfl (v:=?_) (λw' hw'=>?_) ?_;rotate_left;(focus have hw':=iT w' hw';go_simp;try with_reducible rfl);try simp only[UU])
 refine aI rfl rfl (λK hK=>?_);go_simp;with_reducible refine(rA.out _ (by first|exact Hb.out|exact Hb.out.drew)).mono ?_
 rintro e w4 ⟨rfl,hq⟩;have ae:Bw W3 w4:=by first|exact hq|exact aW hq
 clear r0 aj r1 ak;replace bz:=ai (bz.out.below ae);obtain⟨Hr,r0,aj,r1,ak⟩:=bE Hr ae;replace Hb:=aB Hb ae;clear ae;refine hK _ _ (λ_=>bz.out) ?_;clear hK K;try simp only[UU]
 refine pT rfl rfl ?_;try simp only[UU]
 refine aI rfl rfl (λK hK=>?_);go_simp;refine hK _ _ (λ_=>by first|exact bz.out.alloc _|exact(bz.out.alloc _).drew|exact(bz.out.drew).alloc _) ?_;clear hK K;try simp only[UU]
 refine bV (λW5=>ar W5 (w4.heap.size) 93 [ah (dt V k),ag (au (dN O)),ah (nt (dN O).natAbs),af (dE O)]/\Bw w4 W5) (by first|exact fe|exact fg) ?_;rintro W5 ⟨qz,ae⟩;clear r0 aj r1 ak;have Ia:=Hr.out.lt;replace bz:=ai (bz.out.below ae);replace Hr:=kB Hr ae;have Hz:=ai qz;clear qz;obtain⟨r0,aj,r1,ak⟩:=Hr.out.g2;obtain⟨z0,z1,z2,z3⟩:=Hz.out.c4;replace Hb:=aB Hb ae;clear ae;refine aI rfl rfl (λK hK=>?_);go_simp;with_reducible refine(lJ.out _ Hb.out _ Hz.out).mono ?_
 rintro e w6 ⟨a2,d2,rfl,eO,hq⟩;have ae:Bw W5 w6:=by first|exact hq|exact aW hq
 clear r0 aj r1 ak z0 z1 z2 z3;replace bz:=ai (bz.out.below ae);obtain⟨Hr,r0,aj,r1,ak⟩:=bE Hr ae;obtain⟨Hz,z0,z1,z2,z3⟩:=dU Hz ae;replace Hb:=aB Hb ae;clear ae;refine hK _ _ (λ_=>bz.out) ?_;clear hK K;try simp only[UU]
 iterate 2 (refine pT rfl rfl ?_;try simp only[UU])
 refine aI rfl rfl (λK hK=>?_);go_simp;refine hK _ _ (by first|exact λh=>absurd h zd|exact λ_=>bz.out|exact λ_=>gG zg bz.out) ?_;clear hK K;try simp only[UU]
 refine aI rfl rfl (λK hK=>?_);go_simp;refine hK _ _ (λh=>absurd h zd) ?_;clear hK K;try simp only[UU]
 simp only[bi];go_wp2;refine Cl (Hr.out) eO Hb.out zo ?_;intro w9 qE iD jE;obtain⟨p0,p1⟩:=qE.c2;exact bodyPost_ret (v:=.tuple #[.agg #[af (V:Int),.slice a2 C.length d2],af 0]) (by simp[results,Tryz.results149,go_sem,p0,p1]) rfl ⟨_,_,rfl,Ih iD,jE⟩
end Go.Proofs.YtoopepmmepmfnaaGreatDoor
