/- The reference of chapters 4 and 24: Mul;Simplices. -/
import Derived.Test.YtoopepmmepmfnaaGreatDoorZ33
import Derived.Test.YtoopepmmepmfnaaGreatDoorZ16
import Derived.Test.YtoopepmmepmfnaaGreatDoorZ29
import Derived.Test.YtoopepmmepmfnaaGreatDoorZ31
import Derived.Test.YtoopepmmepmfnaaGreatDoorZ19
import Derived.Test.YtoopepmmepmfnaaGreatDoorZ7
set_option linter.unusedVariables false
set_option linter.unusedSimpArgs false
set_option maxRecDepth 100000
set_option maxHeartbeats 16000000
namespace Go.Proofs.YtoopepmmepmfnaaGreatDoor
open Go.RowKit
attribute [local go_sem ↓] Go.wp_at_zero Go.wp_at_succ
def od (l:List Dyadic):Nat->Dyadic
 |0=>1
 |k+1=>od l k*l.getD k 1
theorem abG {C:Nat}{l:List Dyadic}(h:∀x∈l,Sm C x)(k:Nat):Sm (C*k+1) (od l k):=by
 induction k with
 |zero=>exact(Lr 0).mono zo
 | succ k ih=>
   show Sm _ (od l k*l.getD k 1)
   by_cases hk:k<l.length
   . have e:l.getD k 1=l[k]:=by simp[hk]
     rw[e];exact(Sm.mul ih (h _ (List.getElem_mem hk))).mono (by rw[Nat.mul_succ];omega)
   . have e:l.getD k 1=1:=by simp[List.getD_eq_getElem?_getD,List.getElem?_eq_none (by omega:l.length<=k)]
     rw[e,show od l k*1=od l k by grind];exact ih.mono (by rw[Nat.mul_succ];omega)
theorem acu (xs:List Raw)(n:Nat)(C:Nat)(a:Option Addr)(cap:Nat)(Z:Dyadic)(hZ:od (xs.map az) n=Z)(w:World)(hn:xs.length=n)(hl:n<=100)(ha:At w a (xs.flatMap bI))(hx:∀x∈xs,ey C x)(hC:C*n+1<=16384):
 Calls Tryz.prog 64 #[.slice a n cap] w λe w'=>e=.returned (bL Z)/\Bw w w':=by
 subst hZ;have hP:∀k,k<=n->Sm 16384 (od (xs.map az) k):=λk hk=>(abG (C:=C) (l:=xs.map az) (λx h=>by obtain⟨y,hy,rfl⟩:=List.mem_map.1 h;exact(hx y hy).2) k).mono (by have:=Nat.mul_le_mul_left C hk;omega);have hst:∀k (h:k<xs.length),od (xs.map az) (k+1)=od (xs.map az) k*az xs[k]:=λk h=>by
  have e:(xs.map az).getD k 1=az xs[k]:=by simp[h]
  rw[<-e];rfl
 have h0:od (xs.map az) 0=1:=rfl;replace hx:∀x∈xs,dv x:=λx h=>(hx x h).1;obtain⟨P,PV⟩:=aG (od (xs.map az));rw[PV]at h0⊢;simp only[PV]at hP hst;clear PV hC;have h1:=λW=>Mf 1 (P 0) (by rw[h0];rfl) W zd;obtain⟨Ha,Hn,bX,Hx,HP,H1⟩:=gW ha hn hst hx hP h1;clear ha hn hst hx hP h0 h1;obtain⟨W,cg,Hb,Hr⟩:=fJ w 39 [ag false,.string ⟨#[]⟩,af 0];obtain⟨r0,aj,r1,ak,r2,aF⟩:=Hr.out.g3;go_enter Tryz.func64,Tryz.ntmps64;go_wp2_with fail;refine(H1.out _).mono ?_;rintro e w1 ⟨rfl,ae⟩;clear r0 aj r1 ak r2 aF;obtain⟨Hr,r0,aj,r1,ak,r2,aF⟩:=aN Hr ae;replace Hb:=aB Hb ae;clear ae;have qK:=Hr.out.lt;obtain⟨W2,mM,ae,Hs⟩:=cd w1 39 [ag (au (dN (P 0))),ah (nt (dN (P 0)).natAbs),af (dE (P 0))];clear r0 aj r1 ak r2 aF;obtain⟨Hr,r0,aj,r1,ak,r2,aF⟩:=aN Hr ae;obtain⟨s0,bf,s1,bg,s2,bB⟩:=Hs.out.g3;replace Hb:=aB Hb ae;clear ae;have lr:=Hr.out.lt;have ls:=Hs.out.lt;have Br:=Hr;go_wp2_with fail;clear r0 r1 r2 aj ak aF s0 s1 s2 bf bg bB;have hws:w.heap.size<w1.heap.size:=by omega
 go_loopw[4] (λx wr=>∃k:Nat,k<=n/\x=af (k:Int)/\ar wr w.heap.size 39 [ag false,.string ⟨#[]⟩,af 0]/\ar wr w1.heap.size 39 (bI (canon (P k)))/\Bw w wr) (λx _=>n-(intOf x).toNat);case atStart=>exact⟨0,Nat.zero_le _,rfl,Hr.out,Hs.out,Hb.out⟩
 case round=>
  clear Hr Hs Hb Br;obtain⟨k,hk,rfl,pr,ps,pb⟩:=hrel;by_cases hlt:k<n
  . have gA:k<xs.length:=by rw[Hn.out];exact hlt
    obtain⟨s,m,e,hx⟩:=oW (xs[k]);obtain⟨b,o,hab,p0,p1,p2⟩:=Ha.out.num k gA hx;have lb:=World.block_lt_of_cell? w _ p0;have hw:bH wr b (o+k*3) [ag s,ah m,af e]:=(kv p0 p1 p2).below pb;have bK:=qH n cap k (k:Int) hab hlt rfl;have hst:=bX.out k gA;have eJ:=Hx.out _ (List.getElem_mem gA);rw[hx]at hst eJ;obtain⟨Y,hY⟩:=aG (P k);obtain⟨Z,hZ⟩:=aG (P (k+1));have fT:=HP.out k hk;rw[hY]at ps hst fT;rw[hZ]at hst;have qZ:Hid (az (zT3 Y) *az (s,m,e)=Z):=by show az (canon Y) *_=Z;rw[bD];exact hst.symm
    have FY:Hid (dv (zT3 Y)):=fT.aw1 zo;obtain⟨Fx,HZ,Hr,Hb⟩:=dx eJ hZ pr pb;have Hs:Hid (ar wr w1.heap.size 39 (zL3 Y)):=ps;have Hv:Hid (bH wr b (o+k*3) [ag s,ah m,af e]):=hw;have aay:=pb.size;have aas:=ps.lt;clear hst eJ fT hZ hY hx hw hab pr ps pb p0 p1 p2;obtain⟨s0,bf,s1,bg,s2,bB⟩:=Hs.out.g3;obtain⟨v0,v1,v2⟩:=Hv.out.w3;go_wp2_with fail;refine bR (λw'=>aC w' (w1.heap.size) 0 (ag (au (dN Y)))/\aC w' (w1.heap.size) 1 (ah (nt (dN Y).natAbs))/\aC w' (w1.heap.size) 2 (af (dE Y))/\aC w' b (o+k*3) (ag s)/\aC w' b (o+k*3+1) (ah m)/\aC w' b (o+k*3+2) (af e)) (λi=>Nat.blt i 6) [(0,true),(1,true),(2,true),(3,true),(4,true),(5,false),(6,false)] zk zk rfl zk zc ⟨s0,s1,s2,v0,v1,v2⟩ ?_;iterate 5 (refine pT rfl rfl ?_ (by intro w' ⟨q0,q1,q2,q3,q4,q5⟩;go_simp;try with_reducible rfl))
    refine aI rfl rfl (λK hK=>?_);go_simp;with_reducible refine(Bf _ _ _ s m e Z qZ.out _ FY.out Fx.out).mono ?_
    rintro e w5 ⟨rfl,hq⟩;have ae:Bw wr w5:=by first|exact hq|exact aW hq
    clear s0 bf s1 bg s2 bB v0 v1 v2;replace Hr:=kB Hr ae;obtain⟨Hs,s0,bf,s1,bg,s2,bB⟩:=aN Hs ae;replace Hv:=kW Hv ae;obtain⟨v0,v1,v2⟩:=Hv.out.w3;replace Hb:=aB Hb ae;clear ae;refine hK _ _ (λ_=>⟨s0,s1,s2,v0,v1,v2⟩) ?_;clear hK K
    refine aI rfl rfl (λK hK=>?_);go_simp;refine hK _ _ (λh=>absurd h zd) ?_;clear hK K
    clear s0 bf s1 bg s2 bB v0 v1 v2;refine bV (bC w5 (w1.heap.size) 0 (zL3 Z)) bJ ?_;intro W6 hs;replace Hr:=kS Hr hs zo;replace Hs:=bP Hs hs;replace Hv:=LH Hv hs zo;obtain⟨s0,bf,s1,bg,s2,bB⟩:=Hs.out.g3;obtain⟨v0,v1,v2⟩:=Hv.out.w3;replace Hb:=bS Hb hs ZS;clear hs;simp only[bi];go_wp2;go_roundw;case rel=>exact⟨k+1,by omega,by go_num,Hr.out,by rw[HZ.out];exact Hs.out,Hb.out⟩
    case measure=>simp[intOf];omega
  . obtain rfl:k=n:=by omega
    obtain⟨Y,hY⟩:=aG (P k);rw[hY]at ps;obtain⟨Hr,Hb,HY⟩:=cL pr pb hY;have Hs:Hid (ar wr w1.heap.size 39 (zL3 Y)):=ps;clear pr ps pb hY;obtain⟨r0,aj,r1,ak,r2,aF⟩:=Hr.out.g3;obtain⟨s0,s1,s2⟩:=Hs.out.c3;go_wp2;clear r0 aj r1 ak r2 aF s0 s1 s2;refine dW (bC wr (w.heap.size) 0 (zL3 Y)) bJ ?_;intro w9 hs;replace Hr:=bP Hr hs;replace Hs:=kS Hs hs zo;obtain⟨r0,aj,r1,ak,r2,aF⟩:=Hr.out.g3;obtain⟨s0,s1,s2⟩:=Hs.out.c3;replace Hb:=bS Hb hs ZS;clear hs;refine bodyPost_ret (v:=bL Y) (by simp[results,Tryz.results64,go_sem,r0,r1,r2]) rfl ⟨by rw[HY.out],Hb.out⟩
theorem aps (a:Option Addr)(cap n B d:Nat)(rows:List (List Raw))(gs:Bool)(gl:List UInt8)(ge:Int)(ms:Bool)(ml:List UInt8)(me:Int)(w:World)(hL:rows.length=n+1)(hn:1<=n)(bO:n<=4)(hrow:∀r∈rows,r.length=n)(hfit:∀r∈rows,∀c∈r,ey B c)(Zg:∀r∈rows,∀c∈r,Fit B c)(cm:10<=B)(hB:B<=200)(ha:cC w a rows)(h0:dw n (bT rows)≠0)(hd:d<=1099511627776)
 (hg:ey 300 (gs,gl,ge)) (hm:ey 300 (ms,ml,me)):
 Calls Tryz.prog 23 #[.slice a (n+1) cap,af (d:Int),.agg #[ag gs,ah gl,af ge],.agg #[ag ms,ah ml,af me]] w λe w'=>e=.returned (af (((ot (d:Int) (az (gs,gl,ge)) (az (ms,ml,me)) n (stA (ir n) (fy n (bT rows) n) (n+1)) (iP (gq rows n) (n+1)).2.2 (dw n (bT rows))).getD 1025:Nat):Int))/\Bw w w':=by
 have hfo:=λW (hW:Bw w W)=>apE a cap n B rows W hL hn bO hrow hfit zo zo (ha.below hW) h0;have hsz:=λW (hW:Bw w W)=>Mg a cap n B rows W hL hn bO hrow hfit zo (ha.below hW);obtain⟨U,hU⟩:∃S,dw n (bT rows)=S:=⟨_,rfl⟩;have FM:Sm (4*B+10) U:=by
  rw[<-hU,vE];refine(zF (B:=B+1) hn bO (λi j hi hj=>?_)).mono zo;have h0:0<rows.length:=by omega
  have h1:i+1<rows.length:=by omega
  have l0:=hrow _ (List.getElem_mem h0);have l1:=hrow _ (List.getElem_mem h1);rw[se rows (i+1) j h1 zo,se rows 0 j h0 zo];exact Sm.sub (hfit _ (List.getElem_mem h1) _ (List.getElem_mem _)).2 (hfit _ (List.getElem_mem h0) _ (List.getElem_mem _)).2
 obtain⟨⟨i0,j0,l⟩,QO⟩:∃x,iP (gq rows n) (n+1)=x:=⟨_,rfl⟩;have hls:=abh (n:=n) (L:=n+1) Zg zo;have qw:=λW (hW:Bw w W)=>apH a (n+1) cap n rows B i0 j0 l W hL zo zo zo hrow (ha.below hW) hfit zo QO;rw[QO]at hls⊢;dsimp only at hls⊢;rw[hU]at hsz⊢;have hmo:=λj=>Xn n (bT rows) n j;have hlen:=λj=>Pk n (bT rows) n j;obtain⟨T,hT⟩:=aG (fy n (bT rows) n);simp only[hT]at hmo hlen hfo⊢;have hst:∀j,stA (ir n) T (j+1)=lf (ir n) (stA (ir n) T j) (T j) (T j).length:=λj=>rfl;have Ap:stA (ir n) T 0=0:=rfl;have hsm:(∀j,j<n+1->(∀t∈T j,Sm (5*B+50) (az t.2)))->∀j,j<=n+1->Sm (10*B+125) (stA (ir n) T j):=λh j hj=>(Tm (N:=5) (L:=n+1) (λj hj=>⟨h j hj,by have:=hlen j;omega⟩) j hj).mono zo;have vU:(∀j,j<n+1->(∀t∈T j,Sm (5*B+50) (az t.2)))->∀j,j<n+1->∀k,Sm (10*B+125+k) (lf (ir n) (stA (ir n) T j) (T j) k):=λh j hj k=>Oy (hsm h j zo) zo (h j hj) k;obtain⟨S,hS⟩:=aG (stA (ir n) T);simp only[hS]at hsm vU hst Ap⊢;have jl:∀X ts k,lf (ir n) X ts (k+1)=if ir n (ts.getD k ([],false,[],0)).1 then lf (ir n) X ts k+az (ts.getD k ([],false,[],0)).2*az (ts.getD k ([],false,[],0)).2 else lf (ir n) X ts k:=λX ts k=>rfl
 have zU:∀X ts,lf (ir n) X ts 0=X:=λX ts=>rfl;obtain⟨Q,hQ⟩:=aG (lf (ir n));simp only[hQ]at vU hst jl zU;obtain⟨c0,hc0⟩:∃c,bA (az (gs,gl,ge)-az (ms,ml,me))=c:=⟨_,rfl⟩;have hFn:dv (canon (-az (ms,ml,me))):=akn hm zd;obtain⟨R,hR⟩:=aG (ot (d:Int) (az (gs,gl,ge)) (az (ms,ml,me)) n (S (n+1)) l U);rw[hR];obtain⟨G,hG⟩:=aG (az (gs,gl,ge));obtain⟨M,hM⟩:=aG (az (ms,ml,me));obtain⟨E,hE⟩:=aG (S (n+1));obtain⟨D,hD⟩:=aG (Dyadic.ofIntWithPrec (d:Int) 0);obtain⟨I,hI⟩:=aG (Dyadic.ofIntWithPrec ((n+1:Nat):Int) 0);obtain⟨V,hV⟩:=aG (Dyadic.ofIntWithPrec ((4:Nat):Int) 0);obtain⟨X,hX⟩:=aG (Iz (d:Int) G n E l);obtain⟨Y,hY⟩:=aG (Mi M U);have td:c0<0->R=some 0:=λh=>by rw[<-hR];unfold ot;rw[if_pos (by rw[hc0];exact h)]
 have xp:0<=c0->xZ (sk X Y) n=R:=λh=>by rw[<-hR];unfold ot;rw[if_neg (by rw[hc0];omega),hG,hM,hE,hX,hY]
 have eV:Sm 128 D:=by rw[<-hD];exact wm _ zo
 have zN:Sm 128 I:=by rw[<-hI];exact wm _ zo
 have CC:Sm 128 V:=by rw[<-hV];exact wm _ zo
 have KG:od [D,D,G,G,I,E,l] 7=X:=by
  rw[<-hX];show 1*D*D*G*G*I*E*l=_
  unfold Iz AL;rw[hD,show((n:Int)+1)=((n+1:Nat):Int)by omega,hI];grind
 have Qs:od [V,M,M,U,U] 5=Y:=by
  rw[<-hY];show 1*V*M*M*U*U=_
  have e:wH 2=V:=by rw[<-hV];rfl
  unfold Mi;rw[e];grind
 have fT:Sm (13*B+3000) Y:=by
  rw[<-Qs];refine(abG (C:=4*B+300) (λx hx=>?_) 5).mono zo;simp only[List.mem_cons,List.not_mem_nil,or_false]at hx;rcases hx with rfl|rfl|rfl|rfl|rfl
  . exact CC.mono zo
  . rw[<-hM];exact hm.2.mono zo
  . rw[<-hM];exact hm.2.mono zo
  . exact FM.mono zo
  . exact FM.mono zo
 have ux:Sm 300 G:=by rw[<-hG];exact hg.2
 have dM:Sm (10*B+125) E->Sm (13*B+3000) X:=λh=>by rw[<-hX];unfold Iz AL;rw[hD,show((n:Int)+1)=((n+1:Nat):Int)by omega,hI,show l*1=l by grind];exact(Sm.mul (Sm.mul eV ux) (Sm.mul (Sm.mul eV ux) (Sm.mul zN (Sm.mul h hls)))).mono zo
 have ZK:Sm (10*B+125) E->∀W b,ar W b 39 [ag (au (dN D)),ah (nt (dN D).natAbs),af (dE D),ag (au (dN D)),ah (nt (dN D).natAbs),af (dE D),ag gs,ah gl,af ge,ag gs,ah gl,af ge,ag (au (dN I)),ah (nt (dN I).natAbs),af (dE I),ag (au (dN E)),ah (nt (dN E).natAbs),af (dE E),ag (au (dN l)),ah (nt (dN l).natAbs),af (dE l)]->Calls Tryz.prog 64 #[.slice (some ⟨b,0,none⟩) 7 7] W λe w'=>e=.returned (bL X)/\Bw W w':=λfN W b hb=>
  acu [(zT3 D),(zT3 D),(gs,gl,ge),(gs,gl,ge),(zT3 I),(zT3 E),(zT3 l)] 7 (10*B+200) _ 7 X (by simp only[List.map_cons,List.map_nil];show od [az (canon D),az (canon D),az (gs,gl,ge),az (gs,gl,ge),az (canon I),az (canon E),az (canon l)] 7=X;rw[bD,bD,bD,bD,hG];exact KG) W rfl zd (At.aw2 hb) (by
   intro x h;simp only[List.mem_cons,List.not_mem_nil,or_false]at h;rcases h with rfl|rfl|rfl|rfl|rfl|rfl|rfl
   . exact ey.canon (eV.mono zo) zo
   . exact ey.canon (eV.mono zo) zo
   . exact⟨hg.1,hg.2.mono zo⟩
   . exact⟨hg.1,hg.2.mono zo⟩
   . exact ey.canon (zN.mono zo) zo
   . exact ey.canon (fN.mono zo) zo
   . exact ey.canon (hls.mono zo) zo) zo
 have ZL:∀W b,ar W b 39 [ag (au (dN V)),ah (nt (dN V).natAbs),af (dE V),ag ms,ah ml,af me,ag ms,ah ml,af me,ag (au (dN U)),ah (nt (dN U).natAbs),af (dE U),ag (au (dN U)),ah (nt (dN U).natAbs),af (dE U)]->Calls Tryz.prog 64 #[.slice (some ⟨b,0,none⟩) 5 5] W λe w'=>e=.returned (bL Y)/\Bw W w':=λW b hb=>
  acu [(zT3 V),(ms,ml,me),(ms,ml,me),(zT3 U),(zT3 U)] 5 (10*B+200) _ 5 Y (by simp only[List.map_cons,List.map_nil];show od [az (canon V),az (ms,ml,me),az (ms,ml,me),az (canon U),az (canon U)] 5=Y;rw[bD,bD,hM];exact Qs) W rfl zd (At.aw2 hb) (by
   intro x h;simp only[List.mem_cons,List.not_mem_nil,or_false]at h;rcases h with rfl|rfl|rfl|rfl|rfl
   . exact ey.canon (CC.mono zo) zo
   . exact⟨hm.1,hm.2.mono zo⟩
   . exact⟨hm.1,hm.2.mono zo⟩
   . exact ey.canon (FM.mono zo) zo
   . exact ey.canon (FM.mono zo) zo) zo
 have XO:∀W,Calls Tryz.prog 52 #[af ((n:Int)+1)] W λe w'=>e=.returned (bL I)/\Bw W w':=λW=>by have h:=Ir (n+1) I hI W zo;rw[show((n+1:Nat):Int)=(n:Int)+1 by omega]at h;exact h
 have Yx:∀W,Calls Tryz.prog 52 #[af 4] W λe w'=>e=.returned (bL V)/\Bw W w':=λW=>Ir 4 V hV W zd;have Um:=ai Yx;clear Yx;have hmb:=λW=>rX (n:Int) n rfl zo W;have hcv:∀W b,Hid (ar W b 5 (cZ n λ_=>0))->(convert 94 9 (.slice (some ⟨b,0,none⟩) n n)).run Tryz.prog W=.ok (ah (jc n)) W:=λW b h=>by rw[<-TK];exact wB h.out n
 have hw1:IntKind.i64.wrap (((n+1:Nat):Int)-1)=(n:Int):=by rw[IntKind.wrap_i64];omega
 obtain⟨pK,wP,jN,Ew,Vg,mE,bX,JC,pP,JB,wM,Jh⟩:=gB hc0 hfo hsz qw hmo hlen hst Ap hsm vU jl zU;obtain⟨Hn,yD,DZ,HE,HD,HI,HV,pI,sw,Jv,Vf,Qg⟩:=gB hFn td xp hE hD XO hV dM fT ZK ZL hg;have Qm:=ai hm;clear hc0 hfo hsz qw hmo hlen hst Ap hsm vU jl zU hFn td xp hE hD hI XO hV dM fT ZK ZL hg hm KG Qs hX hY eV zN CC FM ux hls QO hG hM hR hQ hS hT hU ha hfit Zg hrow hL h0;obtain⟨W,cg,Hb,Hg,Hm⟩:=iq w 39 [ag gs,ah gl,af ge] 39 [ag ms,ah ml,af me];obtain⟨g0,g1,g2⟩:=Hg.out.c3;obtain⟨m0,m1,m2⟩:=Hm.out.c3;go_enter Tryz.func23,Tryz.ntmps23;go_wp2_with fail;refine(SP gs gl ge ms ml me c0 pK.out _ Qg.out.1 Qm.out.1 Hn.out).mono ?_;rintro e w1 ⟨rfl,ae⟩;clear g0 g1 g2 m0 m1 m2;obtain⟨Hg,g0,g1,g2⟩:=aQ Hg ae;obtain⟨Hm,m0,m1,m2⟩:=aQ Hm ae;replace Hb:=aB Hb ae;clear ae;by_cases hc0:c0<0
 . have hR:=yD.out hc0;subst hR;go_wp2;refine bodyPost_ret (results_tmp rfl _ _ _) rfl ⟨rfl,Hb.out⟩
 . have hR:=DZ.out zo;have HR:=ai hR;clear hR;go_wp2_with fail;refine(wP.out _ Hb.out).mono ?_;rintro e w4 ⟨fa,fc,ps,rfl,hfc,hpl,hat,hpo,ae⟩;clear g0 g1 g2 m0 m1 m2;obtain⟨Hg,g0,g1,g2⟩:=aQ Hg ae;obtain⟨Hm,m0,m1,m2⟩:=aQ Hm ae;replace Hb:=aB Hb ae;clear ae;have hTs:∀j,j<n+1->(∀t∈T j,Sm (5*B+50) (az t.2)):=λj hj t ht=>by obtain⟨_,_,_,_,h⟩:=hpo j zo;exact(h.2 t ht).2
   obtain⟨Jy,mF,Jd,HA,HP,jY⟩:=gW (pP.out hTs) (JB.out hTs) hTs hat hpo hpl;have kx:=Hb;have Bg:=Hg;have Bm:=Hm;have Tq:=Hb.out.size;clear Hb hat hpo hpl hTs g0 g1 g2 m0 m1 m2;have Hb:Hid (Bw w4 w4):=Below.refl _ _;obtain⟨V5,atz,ae,Hs⟩:=cd w4 39 [ag false,.string ⟨#[]⟩,af 0];obtain⟨s0,bf,s1,bg,s2,bB⟩:=Hs.out.g3;replace Hb:=aB Hb ae;clear ae;go_wp2_with fail;clear s0 bf s1 bg s2 bB;first|refine cf (bC V5 (w4.heap.size) 0 [ag false,.string ⟨#[]⟩,af 0]) bJ ?_|refine bZ (bC V5 (w4.heap.size) 0 [ag false,.string ⟨#[]⟩,af 0]) bJ ?_
   intro V6 hs;replace Hs:=bP Hs hs;obtain⟨s0,bf,s1,bg,s2,bB⟩:=Hs.out.g3;replace Hb:=bS Hb hs ZS;clear hs;go_wp2_with fail;clear s0 s1 s2 bf bg bB;go_loopw[12] (λx wr=>∃j:Nat,j<=n+1/\x=af (j:Int)/\ar wr w4.heap.size 39 (bI (canon (S j)))/\Bw w4 wr) (λx _=>n+1-(intOf x).toNat);case atStart=>exact⟨0,Nat.zero_le _,rfl,by rw[JC.out];exact Hs.out,Hb.out⟩
   case round=>
    clear Hs Hb;obtain⟨j,hj,rfl,ps',pb⟩:=hrel;by_cases hlt:j<n+1
    . obtain⟨pa,pc,Gw,Ak,hft⟩:=HP.out j (by rw[jY.out];exact hlt);obtain⟨b,o,hab,hwn⟩:=HA.out.aw5 j (by rw[jY.out];exact hlt) Gw;have lb:b<w4.heap.size:=World.block_lt_of_cell? w4 _ (hwn 0 zm);have bK:=uH (n+1) fc j (j:Int) hab hlt rfl;obtain⟨ts,hts⟩:=aG (T j);obtain⟨nn,hnn⟩:∃k,ts.length=k:=⟨_,rfl⟩;obtain⟨Y1,Qr⟩:∃Y,S j=Y:=⟨_,rfl⟩;have hs1:=mF.out j hlt;have hnx:=bX.out j;have hmo:=Vg.out j;have ZE:=mE.out j;have CB:=Jd.out j hlt;rw[hts]at Ak hft hnx hmo ZE CB;rw[Qr]at hnx ps';simp only[hts,Qr]at hs1;rw[hts,hnn]at hwn;rw[hnn]at hnx ZE;obtain⟨eH,vh,EI,nE,Hmj,Hnn,Hs,HTj⟩:=nZ Ak.1 hft hs1 hnx hmo hnn ps' CB;have Vy:Hid (bH w4 b (o+j*2) [af (n:Int),.slice pa nn pc]):=hwn;have bu:=ai pb;have szw:=pb.size;clear Ak hft hs1 hnx hmo hnn ps' pb hwn hab Gw hts Qr CB;have Le:(j:Int)<(n:Int)+1:=by omega
      obtain⟨wo,hwo⟩:∃wo,wo=wr:=⟨_,rfl⟩;subst hwo;go_wp2_with fail;go_loopw[13] (λx wr=>∃k:Nat,k<=nn/\x=af (k:Int)/\ar wr w4.heap.size 39 (bI (canon (Q Y1 ts k)))/\Bw w4 wr) (λx _=>nn-(intOf x).toNat);case atStart=>exact⟨0,Nat.zero_le _,rfl,by rw[Jh.out];exact Hs.out,bu.out⟩
      case round=>
       clear Hs bu;obtain⟨k,hk,rfl,ps',pb⟩:=hrel;by_cases bG:k<nn
       . have gA:k<ts.length:=by rw[Hnn.out];exact bG
         obtain⟨l2,s,m,e,hx⟩:∃l s m e,ts[k]=(l,s,m,e):=⟨_,_,_,_,rfl⟩;obtain⟨b2,o2,fA,hw2⟩:=eH.out.term k gA hx;have kr:b2<w4.heap.size:=World.block_lt_of_cell? w4 _ (hw2 0 zm);have kJ:=kP nn pc k (k:Int) fA bG rfl;have hmem:(l2,s,m,e)∈ts:=by rw[<-hx];exact List.getElem_mem gA
         have GK:=HTj.out _ hmem;have hcn:=(vh.out.1.1.2 _ hmem).2;have hmk:=Hmj.out _ hmem;have jl:=wM.out Y1 ts k;have lw:ts.getD k ([],false,[],0)=(l2,s,m,e):=by rw[<-hx];simp[gA]
         rw[lw]at jl;dsimp only at GK hcn hmk jl;obtain⟨A,hA⟩:=aG (Q Y1 ts k);obtain⟨Z,hZ⟩:=aG (Q Y1 ts (k+1));obtain⟨P,hP⟩:=aG (az (s,m,e) *az (s,m,e));have kF:=EI.out k;rw[hA]at ps' jl kF;rw[hZ,hP]at jl;have Fe:Hid (dv (s,m,e)):=by show dv (s,m,e);rw[hcn];exact GK.aw1 zo
         have FA:Hid (dv (zT3 A)):=kF.aw1 zo;have FP:Hid (dv (zT3 P)):=by
          have xo:Sm (10*B+200) P:=by rw[<-hP];exact(Sm.mul GK GK).mono zo
          exact xo.aw1 zo
         obtain⟨c,hc⟩:=aG (ir n l2);rw[hc]at jl;have aui:((bs l2).toList==(bs (jc n)).toList)= !c:=by
          rw[gu,gu,<-hc];unfold ir;by_cases h:l2=jc n
          . subst h;simp
          . rw[decide_eq_true h];simpa using h
         obtain⟨Bu,Ec,Ed,Hb⟩:=dx hP hZ jl pb;have Hs:Hid (ar wr w4.heap.size 39 (zL3 A)):=ps';have Hu:=ai (Vy.out.below pb);have Hv:Hid (bH wr b2 (o2+k*4) [ah l2,ag s,ah m,af e]):=hw2.below pb;have aay:=pb.size;have aas:=ps'.lt;clear hw2 fA hmem GK hcn hmk jl lw hA hZ hP kF hx ps' pb hc;obtain⟨u0,u1⟩:=Hu.out.w2;obtain⟨v0,v1,v2,v3⟩:=Hv.out.w4;obtain⟨s0,bf,s1,bg,s2,bB⟩:=Hs.out.g3;have Ol:=u0;have Om:=u1;have Oo:=v0;have Oq:=v1;have Ot:=v2;have Ou:=v3;have anv:=Hs.out.lt;obtain⟨W5,xt,ae,Hf⟩:=cd wr 93 [ah l2,ag s,ah m,af e];clear u0 u1;replace Hu:=kW Hu ae;clear v0 v1 v2 v3;replace Hv:=kW Hv ae;clear s0 bf s1 bg s2 bB;obtain⟨Hs,s0,bf,s1,bg,s2,bB⟩:=aN Hs ae;obtain⟨u0,u1⟩:=Hu.out.w2;obtain⟨v0,v1,v2,v3⟩:=Hv.out.w4;obtain⟨f0,f1,f2,f3⟩:=Hf.out.c4;replace Hb:=aB Hb ae;clear ae;go_wp2_with fail;clear Ol Om Oo Oq Ot Ou u0 u1 Hu v0 v1 v2 v3 Hv kJ;refine bR (λw'=>aC w' (wr.heap.size) 0 (ah l2)) (λi=>Nat.blt i 100000) [(0,true),(1,true),(2,true),(3,false),(4,false),(5,true)] zk zk rfl zk zc f0 ?_;iterate 3 (refine pT rfl rfl ?_)
         refine aI rfl rfl (λK hK=>?_);go_simp;refine hK _ _ (λ_=>aL f0) ?_;clear hK K
         refine bV (λW6=>ar W6 (W5.heap.size) 5 (cZ n (λ_=>0))/\Bw W5 W6) (by first|exact fe|exact fg) ?_;rintro W6 ⟨qq,ae⟩;clear s0 bf s1 bg s2 bB f0 f1 f2 f3;have abr:=Hs.out.lt;have avd:=Hf.out.lt;replace Hs:=kB Hs ae;replace Hf:=kB Hf ae;have Hq:=ai qq;clear qq;obtain⟨s0,bf,s1,bg,s2,bB⟩:=Hs.out.g3;obtain⟨f0,f1,f2,f3⟩:=Hf.out.c4;replace Hb:=aB Hb ae;clear ae;refine aI rfl rfl (λK hK=>?_);go_simp;refine hK _ _ (λ_=>f0) ?_;clear hK K
         refine pT rfl rfl ?_
         simp only[bi];clear hmb hcv;cases c with
         | true=>
           have HZ:Hid (az (zT3 A)+az (zT3 P)=Z):=by
            show az (canon A)+az (canon P)=Z
            rw[bD,bD,Ed.out,if_pos rfl]
           go_wp2_with fail;refine bR (λw'=>aC w' (w4.heap.size) 0 (ag (au (dN A)))/\aC w' (w4.heap.size) 1 (ah (nt (dN A).natAbs))/\aC w' (w4.heap.size) 2 (af (dE A))/\aC w' (wr.heap.size) 0 (ah l2)/\aC w' (wr.heap.size) 1 (ag s)/\aC w' (wr.heap.size) 2 (ah m)/\aC w' (wr.heap.size) 3 (af e)) (λi=>Nat.blt i 7) [(0,true),(1,true),(2,true),(3,true),(4,true),(5,false),(6,false),(7,false)] zk zk rfl zk zc ⟨s0,s1,s2,f0,f1,f2,f3⟩ ?_;iterate 5 (refine pT rfl rfl ?_ (by intro w' ⟨q0,q1,q2,q3,q4,q5,q6⟩;go_simp;try with_reducible rfl))
           refine aI rfl rfl (λK hK=>?_);go_simp;with_reducible refine(Bf s m e s m e P Bu.out _ Fe.out Fe.out).mono ?_
           rintro e w8 ⟨rfl,hq⟩;have ae:Bw W6 w8:=by first|exact hq|exact aW hq
           clear s0 bf s1 bg s2 bB f0 f1 f2 f3;obtain⟨Hs,s0,bf,s1,bg,s2,bB⟩:=aN Hs ae;obtain⟨Hf,f0,f1,f2,f3⟩:=dU Hf ae;replace Hq:=kB Hq ae;replace Hb:=aB Hb ae;clear ae;refine hK _ _ (λ_=>⟨s0,s1,s2,f0,f1,f2,f3⟩) ?_;clear hK K
           refine aI rfl rfl (λK hK=>?_);go_simp;with_reducible refine(Iw _ _ _ _ _ _ Z HZ.out _ FA.out FP.out).mono ?_
           rintro e dQ ⟨rfl,hq⟩;have ae:Bw w8 dQ:=by first|exact hq|exact aW hq
           clear s0 bf s1 bg s2 bB f0 f1 f2 f3;obtain⟨Hs,s0,bf,s1,bg,s2,bB⟩:=aN Hs ae;obtain⟨Hf,f0,f1,f2,f3⟩:=dU Hf ae;replace Hq:=kB Hq ae;replace Hb:=aB Hb ae;clear ae;refine hK _ _ (λ_=>⟨s0,s1,s2,f0,f1,f2,f3⟩) ?_;clear hK K
           refine aI rfl rfl (λK hK=>?_);go_simp;refine hK _ _ (λh=>absurd h zd) ?_;clear hK K
           clear s0 bf s1 bg s2 bB f0 f1 f2 f3;refine bV (bC dQ (w4.heap.size) 0 (zL3 Z)) bJ ?_;intro VN hs;replace Hs:=bP Hs hs;replace Hf:=kS Hf hs zo;replace Hq:=kS Hq hs zo;obtain⟨s0,bf,s1,bg,s2,bB⟩:=Hs.out.g3;obtain⟨f0,f1,f2,f3⟩:=Hf.out.c4;replace Hb:=bS Hb hs ZS;clear hs;simp only[bi];go_wp2;go_roundw;case rel=>exact⟨k+1,by omega,by go_num,by rw[Ec.out];exact Hs.out,Hb.out⟩
           case measure=>simp[intOf];omega
         | false=>
           have HZ:Hid (Z=A):=by show _=_;rw[Ed.out];rfl
           go_wp2;go_roundw;case rel=>exact⟨k+1,by omega,by go_num,by rw[Ec.out,HZ.out];exact Hs.out,Hb.out⟩
           case measure=>simp[intOf];omega
       . obtain rfl:k=nn:=by omega
         obtain⟨Hs,Hb,Hu⟩:=cL ps' pb (Vy.out.below pb);clear ps' pb;obtain⟨u0,u1⟩:=Hu.out.w2;go_wp2;go_roundw;case rel=>exact⟨j+1,by omega,by go_num,by rw[nE.out];exact Hs.out,Hb.out⟩
         case measure=>simp[intOf];omega
    . obtain rfl:j=n+1:=by omega
      have fN:=Jy.out (n+1) (Nat.le_refl _);rw[HE.out]at fN ps';have dM:=pI.out fN;have Ve:=ai (Jv.out fN);have Hs:Hid (ar wr w4.heap.size 39 (zL3 E)):=ps';obtain⟨Hg,Hm,Hb⟩:=cL (Bg.out.below pb) (Bm.out.below pb) (aJ kx.out pb);have iy:=pb.size;have at7:=ps'.lt;have aeO:=ai dM;clear pb ps' fN dM Jv pI HA HP jY Jy mF Jd hmb hcv Vg mE bX JC wM Jh pP JB HE Bg Bm wP kx;obtain⟨g0,g1,g2⟩:=Hg.out.c3;obtain⟨m0,m1,m2⟩:=Hm.out.c3;obtain⟨s0,s1,s2⟩:=Hs.out.c3;go_wp2_with fail;refine(Ew.out _ Hb.out).mono ?_;rintro e w5 ⟨rfl,ae⟩;clear g0 g1 g2 m0 m1 m2 s0 s1 s2;obtain⟨Hg,g0,g1,g2⟩:=aQ Hg ae;obtain⟨Hm,m0,m1,m2⟩:=aQ Hm ae;obtain⟨Hs,s0,s1,s2⟩:=aQ Hs ae;replace Hb:=aB Hb ae;clear ae;have Sa:=Hg.out.lt;have abq:=Hm.out.lt;have abr:=Hs.out.lt;obtain⟨W6,nO,ae,Hp⟩:=cd w5 39 (zL3 l);clear g0 g1 g2;replace Hg:=kB Hg ae;clear m0 m1 m2;replace Hm:=kB Hm ae;clear s0 s1 s2;obtain⟨Hs,s0,s1,s2⟩:=aQ Hs ae;obtain⟨g0,g1,g2⟩:=Hg.out.c3;obtain⟨m0,m1,m2⟩:=Hm.out.c3;obtain⟨p0,p1,p2⟩:=Hp.out.c3;replace Hb:=aB Hb ae;clear ae;go_wp2_with fail;refine(jN.out _ Hb.out).mono ?_;rintro e w7 ⟨rfl,ae⟩;clear g0 g1 g2 m0 m1 m2 s0 s1 s2 p0 p1 p2;obtain⟨Hg,g0,g1,g2⟩:=aQ Hg ae;obtain⟨Hm,m0,m1,m2⟩:=aQ Hm ae;obtain⟨Hs,s0,s1,s2⟩:=aQ Hs ae;obtain⟨Hp,p0,p1,p2⟩:=aQ Hp ae;replace Hb:=aB Hb ae;clear ae;have avk:=Hg.out.lt;have avw:=Hm.out.lt;have avR:=Hs.out.lt;have avG:=Hp.out.lt;obtain⟨W8,Qi,ae,Hz⟩:=cd w7 39 (zL3 U);clear g0 g1 g2;replace Hg:=kB Hg ae;clear m0 m1 m2;replace Hm:=kB Hm ae;clear s0 s1 s2;replace Hs:=kB Hs ae;clear p0 p1 p2;obtain⟨Hp,p0,p1,p2⟩:=aQ Hp ae;obtain⟨g0,g1,g2⟩:=Hg.out.c3;obtain⟨m0,m1,m2⟩:=Hm.out.c3;obtain⟨s0,s1,s2⟩:=Hs.out.c3;obtain⟨z0,z1,z2⟩:=Hz.out.c3;replace Hb:=aB Hb ae;clear ae;have sz8:=Hb.out.size;have gY:=Hb;have Jg:=Hg;have Jm:=Hm;have Js:=Hs;have Jp:=Hp;have Jz:=Hz;clear Hb;have Hb:Hid (Bw W8 W8):=Below.refl _ _;have hw2:IntKind.i64.wrap ((n:Int)+1)=(n:Int)+1:=by rw[IntKind.wrap_i64];omega
      go_upto_region 17 with fail
      go_cut[19] (λs19 wx=>∃x:Nat,s19=.pointer (some ⟨x,0,none⟩)/\W8.heap.size<=x/\ar wx x 39 (zL3 X)/\Bw W8 wx);case first=>
       have iT:∀w',fL W8 w'->aC w' (w.heap.size) 0 (ag gs)/\aC w' (w.heap.size) 1 (ah gl)/\aC w' (w.heap.size) 2 (af ge)/\aC w' (w4.heap.size) 0 (ag (au (dN E)))/\aC w' (w4.heap.size) 1 (ah (nt (dN E).natAbs))/\aC w' (w4.heap.size) 2 (af (dE E))/\aC w' (w5.heap.size) 0 (ag (au (dN l)))/\aC w' (w5.heap.size) 1 (ah (nt (dN l).natAbs))/\aC w' (w5.heap.size) 2 (af (dE l)):=λw' h=>⟨cell_later h g0,cell_later h g1,cell_later h g2,cell_later h s0,cell_later h s1,cell_later h s2,cell_later h p0,cell_later h p1,cell_later h p2⟩;refine DL (λw'=>fL W8 w') (λi=>Nat.blt i 14) 13 39 [ag false,.string ⟨#[]⟩,af 0] [(0,true),(2,true),(4,true),(5,true),(6,true),(7,true),(9,true),(10,true),(1,false),(3,false),(8,false),(11,false),(12,false)] [(14,false)] zk zk rfl rfl rfl zk zk zc zc (λK a w h=>Di rfl rfl (λK' hK=>by go_simp;exact hK _ _ h)) ?_;clear g0 g1 g2 m0 m1 m2 s0 s1 s2 p0 p1 p2 z0 z1 z2 Hg Hm Hs Hp Hz;intro W8f ae;replace Hb:=ai (aJ Hb.out ae);refine⟨Hb.out,?_⟩;clear ae;iterate 8 (refine Ba rfl rfl (v:=?_) (λw' hw'=>?_) ?_;rotate_left;(focus have hw':=iT w' hw';obtain⟨q0,q1,q2,q3,q4,q5,q6,q7,q8⟩:=hw';go_simp;try with_reducible rfl))
       refine lF rfl rfl (λK hK=>?_);go_simp;with_reducible refine(Ir d D HD.out _ zo).mono ?_
       rintro e w9 ⟨rfl,hq⟩;refine hK _ _ hq (λw9 ae hb2=>?_);replace Hb:=ai (aJ Hb.out ae);refine⟨Hb.out,?_⟩;clear ae hb2 hq hK K
       refine lF rfl rfl (λK hK=>?_);go_simp;with_reducible refine(Ir d D HD.out _ zo).mono ?_
       rintro e w9 ⟨rfl,hq⟩;refine hK _ _ hq (λdQ ae hb2=>?_);replace Hb:=ai (aJ Hb.out ae);refine⟨Hb.out,?_⟩;clear ae hb2 hq hK K
       refine lF rfl rfl (λK hK=>?_);go_simp;with_reducible refine(HI.out _).mono ?_
       rintro e w9 ⟨rfl,hq⟩;refine hK _ _ hq (λdX ae hb2=>?_);replace Hb:=ai (aJ Hb.out ae);refine⟨Hb.out,?_⟩;clear ae hb2 hq hK K
       refine lF rfl rfl (λK hK=>?_);go_simp;refine hK _ _ zl (λmH ae hb2=>?_);have qv:=(ar.new dX 39 [ag (au (dN D)),ah (nt (dN D).natAbs),af (dE D),ag (au (dN D)),ah (nt (dN D).natAbs),af (dE D),ag gs,ah gl,af ge,ag gs,ah gl,af ge,ag (au (dN I)),ah (nt (dN I).natAbs),af (dE I),ag (au (dN E)),ah (nt (dN E).natAbs),af (dE E),ag (au (dN l)),ah (nt (dN l).natAbs),af (dE l)]).below hb2;replace Hb:=ai (aJ Hb.out ae);refine⟨Hb.out,?_⟩;have Hv:=ai qv;clear qv ae hb2 hK K
       refine lF rfl rfl (λK hK=>?_);go_simp;with_reducible refine(Ve.out _ _ Hv.out).mono ?_
       rintro e w9 ⟨rfl,hq⟩;refine hK _ _ hq (λjU ae hb2=>?_);replace Hb:=ai (aJ Hb.out ae);replace Hv:=ai (Hv.out.below ae);refine⟨Hb.out,?_⟩;clear ae hb2 hq hK K
       intro TJ hb0 qx;have Hx:=ai qx;clear qx;obtain⟨x0,aY,x1,aZ,x2,bj⟩:=Hx.out.g3
       refine aI rfl rfl (λK hK=>?_);go_simp;refine hK _ _ (λh=>absurd h zd) ?_;clear hK K
       simp only[bi];go_wp2_with fail;go_meet;exact⟨TJ,rfl,hb0,((Hx.out.set 0 _).set 1 _).set 2 _,((Hb.out.setCell zp _).setCell zp _).setCell zp _⟩
      case rest=>
       obtain⟨x,rfl,hx,qx,qb⟩:=hcut;obtain⟨Hg,Hm,Hz,Hx,lI⟩:=gJ (Jg.out.below qb) (Jm.out.below qb) (Jz.out.below qb) qx (aJ gY.out qb);have hzx:=qx.lt;clear qx qb Hb gY Jg Jm Js Jp Jz Hs Hp;obtain⟨W7,xq⟩:∃W7,W7=wc:=⟨_,rfl⟩;subst xq;have Hb:Hid (Bw W7 W7):=Below.refl _ _;go_upto_region 18 with fail
       go_cut[20] (λSZ wx=>∃y:Nat,SZ=.pointer (some ⟨y,0,none⟩)/\W7.heap.size<=y/\ar wx y 39 (zL3 Y)/\Bw W7 wx);case first=>
        obtain⟨m0,m1,m2⟩:=Hm.out.c3;obtain⟨z0,z1,z2⟩:=Hz.out.c3;have iT:∀w',fL W7 w'->aC w' (w.heap.size+1) 0 (ag ms)/\aC w' (w.heap.size+1) 1 (ah ml)/\aC w' (w.heap.size+1) 2 (af me)/\aC w' (w7.heap.size) 0 (ag (au (dN U)))/\aC w' (w7.heap.size) 1 (ah (nt (dN U).natAbs))/\aC w' (w7.heap.size) 2 (af (dE U)):=λw' h=>⟨cell_later h m0,cell_later h m1,cell_later h m2,cell_later h z0,cell_later h z1,cell_later h z2⟩;refine DL (λw'=>fL W7 w') (λi=>Nat.blt i 8) 7 39 [ag false,.string ⟨#[]⟩,af 0] [(1,true),(2,true),(3,true),(4,true),(0,false),(5,false),(6,false)] [(8,false)] zk zk rfl rfl rfl zk zk zc zc (λK a w h=>Di rfl rfl (λK' hK=>by go_simp;exact hK _ _ h)) ?_;clear m0 m1 m2 z0 z1 z2 Hm Hz;intro W7f ae;replace Hb:=ai (aJ Hb.out ae);refine⟨Hb.out,?_⟩;clear ae;iterate 4 (refine Ba rfl rfl (v:=?_) (λw' hw'=>?_) ?_;rotate_left;(focus have hw':=iT w' hw';obtain⟨q0,q1,q2,q3,q4,q5⟩:=hw';go_simp;try with_reducible rfl))
        refine lF rfl rfl (λK hK=>?_);go_simp;with_reducible refine(Um.out _).mono ?_
        rintro e w9 ⟨rfl,hq⟩;refine hK _ _ hq (λw9 ae hb2=>?_);replace Hb:=ai (aJ Hb.out ae);refine⟨Hb.out,?_⟩;clear ae hb2 hq hK K
        refine lF rfl rfl (λK hK=>?_);go_simp;refine hK _ _ zl (λmH ae hb2=>?_);have qv:=(ar.new w9 39 [ag (au (dN V)),ah (nt (dN V).natAbs),af (dE V),ag ms,ah ml,af me,ag ms,ah ml,af me,ag (au (dN U)),ah (nt (dN U).natAbs),af (dE U),ag (au (dN U)),ah (nt (dN U).natAbs),af (dE U)]).below hb2;replace Hb:=ai (aJ Hb.out ae);refine⟨Hb.out,?_⟩;have Hv:=ai qv;clear qv ae hb2 hK K
        refine lF rfl rfl (λK hK=>?_);go_simp;with_reducible refine(Vf.out _ _ Hv.out).mono ?_
        rintro e w9 ⟨rfl,hq⟩;refine hK _ _ hq (λjU ae hb2=>?_);replace Hb:=ai (aJ Hb.out ae);replace Hv:=ai (Hv.out.below ae);refine⟨Hb.out,?_⟩;clear ae hb2 hq hK K
        intro y_b hb0 qx;have Hy:=ai qx;clear qx;obtain⟨y0,aS,y1,aV,y2,bo⟩:=Hy.out.g3
        refine aI rfl rfl (λK hK=>?_);go_simp;refine hK _ _ (λh=>absurd h zd) ?_;clear hK K
        simp only[bi];go_wp2_with fail;go_meet;exact⟨y_b,rfl,hb0,((Hy.out.set 0 _).set 1 _).set 2 _,((Hb.out.setCell zp _).setCell zp _).setCell zp _⟩
       case rest=>
        obtain⟨y,rfl,hy,qy,qb⟩:=hcut;obtain⟨oN,Hy,jy⟩:=cL (Hx.out.below qb) qy (aJ lI.out qb);have hzy:=qy.lt;have hne:x≠y:=by omega
        clear qy qb Hb lI Hm Hz Hg Hx Ve Vf;obtain⟨W9,hW9⟩:∃W9,W9=wc:=⟨_,rfl⟩;subst hW9;have hstep:∀k,k<=1025->tN (sk X Y) n (1026-k) k=if 1024<n*k then none else if sk X Y k then some (n*k)else tN (sk X Y) n (1026-(k+1)) (k+1):=λk hk=>by rw[show 1026-k=(1026-(k+1))+1 by omega];rfl
        have fW:=ai hstep;have hzw:=jy.out.size;have hT3:Hid (Dyadic.ofIntWithPrec ((3:Nat):Int) 0=Dyadic.ofIntWithPrec 3 0):=rfl;obtain⟨O3,Fy⟩:∃O,Dyadic.ofIntWithPrec 3 0=O:=⟨_,rfl⟩;have hlk:∀k,pq X (k+1)=pq X k*O3:=λk=>by rw[<-Fy];rfl
        have hrk:∀k,pE Y (k+1)=pE Y k*V:=λk=>by rw[<-HV.out];rfl
        have Xr:Sm 128 O3:=by rw[<-Fy];exact wm _ zd
        have CC:Sm 128 V:=by rw[<-HV.out];exact wm _ zd
        have ZF:=λk=>RO aeO.out k;have aao:=λk=>SV sw.out k;have XZ:∀W,Calls Tryz.prog 52 #[af 3] W λe w'=>e=.returned (bL O3)/\Bw W w':=λW=>Ir 3 O3 Fy W zd;have HOo:=ai XZ;clear XZ;obtain⟨Ev,Hrk,HO3,H3s,HVs,afL,agF⟩:=jT hlk hrk Fy Xr CC ZF aao;clear hstep hT3 hlk hrk Fy Xr CC ZF aao;go_wp2_with fail;go_loopw[21] (λs wr=>∃k:Nat,k<=1025/\s=af (k:Int)/\ar wr x 39 (bI (canon (pq X k)))/\ar wr y 39 (bI (canon (pE Y k)))/\tN (sk X Y) n (1026-k) k=R/\Bw w wr) (λs _=>1025-(intOf s).toNat);case atStart=>exact⟨0,by omega,rfl,oN.out,Hy.out,HR.out,jy.out⟩
        case round=>
         clear oN Hy jy;obtain⟨k,hk,rfl,px,py,pF,pb⟩:=hrel;have hs:=fW.out k hk;rw[pF]at hs;have qo:k<=n*k:=Nat.le_mul_of_pos_left k hn;obtain⟨q,hq⟩:=aG (n*k);have hqi:(n:Int) * (k:Int)=(q:Int):=by rw[<-hq];simp
         rw[hq]at hs qo;have hq2:q<=5000:=by rw[<-hq];exact Nat.le_trans (Nat.mul_le_mul bO hk) zd
         have hwq:IntKind.i64.wrap ((n:Int) * (k:Int))=(q:Int):=by rw[IntKind.wrap_i64,hqi];omega
         have Hs:=ai hs;clear hs pF hq hqi;by_cases h1:q<=1024
         . have h1i:(q:Int)<=1024:=by omega
           have hk2:k<=1024:=by omega
           have hs:=Hs.out;rw[if_neg zo]at hs;obtain⟨A,hA⟩:=aG (pq X k);obtain⟨C,hC⟩:=aG (pE Y k);obtain⟨A2,Pw⟩:∃A,pq X (k+1)=A:=⟨_,rfl⟩;obtain⟨C2,uv⟩:∃C,pE Y (k+1)=C:=⟨_,rfl⟩;obtain⟨c,hc⟩:=aG (bA (A-C));have hsm:sk X Y k=decide (c<0):=by unfold sk;rw[hA,hC,hc]
           rw[hsm]at hs;have h2:=Ev.out k;have h3:=Hrk.out k;have h4:=afL.out k;have h5:=agF.out k;rw[hA,Pw]at h2;rw[hC,uv]at h3;rw[hA]at h4 px;rw[hC]at h5 py;have FA:Hid (dv (zT3 A)):=h4.aw1 zo;have FC:Hid (dv (zT3 C)):=h5.aw1 zo;have FN:Hid (dv (canon (-az (zT3 C)))):=by
            show dv (canon (-az (canon C)))
            rw[bD];exact(Sm.neg h5).aw1 zo
           have F3:Hid (dv (zT3 O3)):=H3s.out.aw1 zo;have FV:Hid (dv (zT3 V)):=HVs.out.aw1 zo;have qc:Hid (bA (az (zT3 A)-az (zT3 C))=c):=by show bA (az (canon A)-az (canon C))=c;rw[bD,bD];exact hc
           have qA:Hid (az (zT3 A) *az (zT3 O3)=A2):=by show az (canon A) *az (canon O3)=A2;rw[bD,bD];exact h2.symm
           have qC:Hid (az (zT3 C) *az (zT3 V)=C2):=by show az (canon C) *az (canon V)=C2;rw[bD,bD];exact h3.symm
           replace Hs:=ai hs;obtain⟨uW,HC2⟩:=aO Pw uv;have Hx:Hid (ar wr x 39 (zL3 A)):=px;have Hy:Hid (ar wr y 39 (zL3 C)):=py;have Hb:=ai pb;have iy:=pb.size;clear px py pb h2 h3 h4 h5 hA hC Pw uv hc hsm hs;obtain⟨x0,aY,x1,aZ,x2,bj⟩:=Hx.out.g3;obtain⟨y0,aS,y1,aV,y2,bo⟩:=Hy.out.g3;go_wp2_with fail;refine(SP _ _ _ _ _ _ c qc.out _ FA.out FC.out FN.out).mono ?_;rintro e dQ ⟨rfl,ae⟩;clear x0 aY x1 aZ x2 bj y0 aS y1 aV y2 bo;obtain⟨Hx,x0,aY,x1,aZ,x2,bj⟩:=aN Hx ae;obtain⟨Hy,y0,aS,y1,aV,y2,bo⟩:=aN Hy ae;replace Hb:=aB Hb ae;clear ae;by_cases hcn:c<0
           . have hs:=Hs.out;rw[decide_eq_true hcn,if_pos rfl]at hs;subst hs;go_wp2;refine bodyPost_ret (results_tmp rfl _ _ _) rfl ⟨rfl,Hb.out⟩
           . have hs:=Hs.out;rw[decide_eq_false hcn,if_neg zm]at hs;replace Hs:=ai hs;clear hs;go_wp2_with fail;refine bR (λw'=>aC w' x 0 (ag (au (dN A)))/\aC w' x 1 (ah (nt (dN A).natAbs))/\aC w' x 2 (af (dE A))) (λi=>Nat.blt i 3) [(0,true),(1,false),(2,false),(3,false)] zk zk rfl zk zc ⟨x0,x1,x2⟩ ?_;refine pT rfl rfl ?_ (by intro w' ⟨q0,q1,q2⟩;go_simp;try with_reducible rfl)
             refine aI rfl rfl (λK hK=>?_);go_simp;with_reducible refine(HOo.out _).mono ?_
             rintro e dX ⟨rfl,hq⟩;have ae:Bw dQ dX:=by first|exact hq|exact aW hq
             clear x0 aY x1 aZ x2 bj y0 aS y1 aV y2 bo;obtain⟨Hx,x0,aY,x1,aZ,x2,bj⟩:=aN Hx ae;obtain⟨Hy,y0,aS,y1,aV,y2,bo⟩:=aN Hy ae;replace Hb:=aB Hb ae;clear ae;refine hK _ _ (λ_=>⟨x0,x1,x2⟩) ?_;clear hK K
             refine aI rfl rfl (λK hK=>?_);go_simp;with_reducible refine(Bf _ _ _ _ _ _ A2 qA.out _ FA.out F3.out).mono ?_
             rintro e gP ⟨rfl,hq⟩;have ae:Bw dX gP:=by first|exact hq|exact aW hq
             clear x0 aY x1 aZ x2 bj y0 aS y1 aV y2 bo;obtain⟨Hx,x0,aY,x1,aZ,x2,bj⟩:=aN Hx ae;obtain⟨Hy,y0,aS,y1,aV,y2,bo⟩:=aN Hy ae;replace Hb:=aB Hb ae;clear ae;refine hK _ _ (λ_=>⟨x0,x1,x2⟩) ?_;clear hK K
             refine aI rfl rfl (λK hK=>?_);go_simp;refine hK _ _ (λh=>absurd h zd) ?_;clear hK K
             clear x0 aY x1 aZ x2 bj y0 aS y1 aV y2 bo;refine bV (bC gP (x) 0 (zL3 A2)) bJ ?_;intro jB hs;replace Hx:=bP Hx hs;replace Hy:=kS Hy hs zo;obtain⟨x0,aY,x1,aZ,x2,bj⟩:=Hx.out.g3;obtain⟨y0,aS,y1,aV,y2,bo⟩:=Hy.out.g3;replace Hb:=bS Hb hs ZS;clear hs;simp only[bi];go_wp2_with fail;refine bR (λw'=>aC w' y 0 (ag (au (dN C)))/\aC w' y 1 (ah (nt (dN C).natAbs))/\aC w' y 2 (af (dE C))) (λi=>Nat.blt i 3) [(0,true),(1,false),(2,false),(3,false)] zk zk rfl zk zc ⟨y0,y1,y2⟩ ?_;refine pT rfl rfl ?_ (by intro w' ⟨q0,q1,q2⟩;go_simp;try with_reducible rfl)
             refine aI rfl rfl (λK hK=>?_);go_simp;with_reducible refine(Um.out _).mono ?_
             rintro e DF ⟨rfl,hq⟩;have ae:Bw jB DF:=by first|exact hq|exact aW hq
             clear x0 aY x1 aZ x2 bj y0 aS y1 aV y2 bo;obtain⟨Hx,x0,aY,x1,aZ,x2,bj⟩:=aN Hx ae;obtain⟨Hy,y0,aS,y1,aV,y2,bo⟩:=aN Hy ae;replace Hb:=aB Hb ae;clear ae;refine hK _ _ (λ_=>⟨y0,y1,y2⟩) ?_;clear hK K
             refine aI rfl rfl (λK hK=>?_);go_simp;with_reducible refine(Bf _ _ _ _ _ _ C2 qC.out _ FC.out FV.out).mono ?_
             rintro e w15 ⟨rfl,hq⟩;have ae:Bw DF w15:=by first|exact hq|exact aW hq
             clear x0 aY x1 aZ x2 bj y0 aS y1 aV y2 bo;obtain⟨Hx,x0,aY,x1,aZ,x2,bj⟩:=aN Hx ae;obtain⟨Hy,y0,aS,y1,aV,y2,bo⟩:=aN Hy ae;replace Hb:=aB Hb ae;clear ae;refine hK _ _ (λ_=>⟨y0,y1,y2⟩) ?_;clear hK K
             refine aI rfl rfl (λK hK=>?_);go_simp;refine hK _ _ (λh=>absurd h zd) ?_;clear hK K
             clear x0 aY x1 aZ x2 bj y0 aS y1 aV y2 bo;refine bV (bC w15 (y) 0 (zL3 C2)) bJ ?_;intro W16 hs;replace Hx:=kS Hx hs zo;replace Hy:=bP Hy hs;obtain⟨x0,aY,x1,aZ,x2,bj⟩:=Hx.out.g3;obtain⟨y0,aS,y1,aV,y2,bo⟩:=Hy.out.g3;replace Hb:=bS Hb hs ZS;clear hs;simp only[bi];go_wp2;go_roundw;case rel=>exact⟨k+1,by omega,by go_num,by rw[uW.out];exact Hx.out,by rw[HC2.out];exact Hy.out,Hs.out.symm,Hb.out⟩
             case measure=>simp[intOf];omega
         . have h1i:¬(q:Int)<=1024:=by omega
           have hs:=Hs.out;rw[if_pos zo]at hs;subst hs;have Hb:=ai pb;clear px py pb;go_wp2;refine bodyPost_ret (results_tmp rfl _ _ _) rfl ⟨rfl,Hb.out⟩
end Go.Proofs.YtoopepmmepmfnaaGreatDoor
