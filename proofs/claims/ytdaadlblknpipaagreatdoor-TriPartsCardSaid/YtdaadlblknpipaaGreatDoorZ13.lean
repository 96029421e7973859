/- Package tri: the square of an edge. -/
import Derived.Test.YtdaadlblknpipaaGreatDoorZ12
import Derived.Test.YtdaadlblknpipaaGreatDoorZ7
import Derived.Test.YtdaadlblknpipaaGreatDoorZ10
set_option linter.unusedVariables false
set_option linter.unusedSimpArgs false
set_option maxRecDepth 100000
set_option maxHeartbeats 16000000
namespace Go.Proofs.YtdaadlblknpipaaGreatDoor
open Go.RowKit
attribute [local go_sem ↓] Go.wp_at_zero Go.wp_at_succ
def lK (p q:List Dyadic):Nat->Dyadic
 |0=>0
 |k+1=>lK p q k+(p.getD k 0-q.getD k 0) * (p.getD k 0-q.getD k 0)
theorem Gy {B:Nat}{p q:List Dyadic}(hp:∀c∈p,Sm B c)(hq:∀c∈q,Sm B c)(k:Nat):Sm (2*B+2+k) (lK p q k):=by
 induction k with
 |zero=>exact Sm.zero _
 |succ k ih=>have h1:=Sm.sub (RI hp k) (RI hq k);have h2:=Sm.mul h1 h1;exact Sm.add ih (h2.mono (show B+1+(B+1)<=2*B+2+k by omega))
theorem ajL (a:Option Addr)(n cap:Nat)(P:List Raw)(a':Option Addr)(cap':Nat)(Q:List Raw)(B:Nat)(w:World)(hP:P.length=n)(hQ:Q.length=n)(hn:n<=8)(ha:At w a (P.flatMap bB))(ha':At w a' (Q.flatMap bB))
 (vY:∀x∈P,Fit B x) (vZ:∀x∈Q,Fit B x) (hB:B<=10000000) (hT:aF w):
 Calls Tryz.prog 89 #[.slice a n cap,.slice a' n cap'] w λe w'=>e=.returned (bC (lK (P.map aB) (Q.map aB) n))/\Bw w w':=by
 have Cw:∀c∈P.map aB,Sm B c:=λc hc=>by obtain⟨x,hx,rfl⟩:=List.mem_map.1 hc;exact(vY x hx).2
 have Cx:∀c∈Q.map aB,Sm B c:=λc hc=>by obtain⟨x,hx,rfl⟩:=List.mem_map.1 hc;exact(vZ x hx).2
 have kE:=λk=>Gy Cw Cx k;have hstep:∀k (h1:k<P.length) (h2:k<Q.length),lK (P.map aB) (Q.map aB) (k+1)=lK (P.map aB) (Q.map aB) k+(aB P[k]-aB Q[k]) * (aB P[k]-aB Q[k]):=λk h1 h2=>by
  have e1:(P.map aB).getD k 0=aB P[k]:=by simp[h1]
  have e2:(Q.map aB).getD k 0=aB Q[k]:=by simp[h2]
  rw[lK,e1,e2]
 have hs0:lK (P.map aB) (Q.map aB) 0=0:=rfl;obtain⟨F,hF⟩:=aC (lK (P.map aB) (Q.map aB));rw[hF]at hs0⊢;simp only[hF]at kE hstep;obtain⟨HP,HQ,Ha,nz,Ah,vq,HT,Jz,fA,mI⟩:=wT hP hQ ha ha' vY vZ hT kE hstep hs0;clear hP hQ ha ha' vY vZ hT kE hstep hs0 hF Cw Cx;obtain⟨W,cO,Hb,Hr,Hs⟩:=ni w 30 [.bool false,.string ⟨#[]⟩,.int .i64 0] 30 [.bool false,.string ⟨#[]⟩,.int .i64 0];obtain⟨r0,aj,r1,ar,r2,aG⟩:=Hr.out.g3;obtain⟨s0,bM,s1,bN,s2,cm⟩:=Hs.out.g3;go_enter Tryz.func89,Tryz.ntmps89;go_wp2_with fail;clear r0 aj r1 ar r2 aG s0 bM s1 bN s2 cm;obtain⟨R,hR⟩:∃R:World->Prop,(λw1=>ai w1 (w.heap.size) 30 [.bool false,.string ⟨#[]⟩,.int .i64 0]/\ai w1 (w.heap.size+1) 30 [.bool false,.string ⟨#[]⟩,.int .i64 0]/\Bw w w1)=R:=⟨_,rfl⟩;first|refine bG R ?hR ?_|refine bF R ?hR ?_
 case hR=>subst hR;exact⟨(((Hr.out.so (w.heap.size+1) 0 zo _).so (w.heap.size+1) 1 zo _).so (w.heap.size+1) 2 zo _),(((Hs.out.set 0 _).set 1 _).set 2 _),(((Hb.out.sc (w.heap.size+1) 0 ZS _).sc (w.heap.size+1) 1 ZS _).sc (w.heap.size+1) 2 ZS _)⟩
 subst hR;rintro w1 ⟨qr,qs,ae⟩;replace Hr:=ah qr;clear qr;replace Hs:=ah qs;clear qs;obtain⟨r0,aj,r1,ar,r2,aG⟩:=Hr.out.g3;obtain⟨s0,bM,s1,bN,s2,cm⟩:=Hs.out.g3;replace Hb:=ah ae;clear ae;have lr:=Hr.out.lt;have ls:=Hs.out.lt;go_wp2_with fail;go_loopw[11] (λi wr=>∃(k:Nat) (X:Dyadic),k<=n/\i=.int .i64 (k:Int)/\F k=X/\ai wr w.heap.size 30 [.bool false,.string ⟨#[]⟩,.int .i64 0]/\ai wr (w.heap.size+1) 30 (bB (canon X))/\Bw w wr) (λi _=>n-(intOf i).toNat);case atStart=>exact⟨0,0,Nat.zero_le _,rfl,mI.out,Hr.out,Hs.out,Hb.out⟩
 case round=>
  clear r0 r1 r2 aj ar aG s0 s1 s2 bM bN cm Hr Hs;obtain⟨k,X,hk,rfl,hX,pr,ps,pb⟩:=hrel;by_cases hlt:k<n
  . have k1:k<P.length:=by rw[HP.out];exact hlt
    have k2:k<Q.length:=by rw[HQ.out];exact hlt
    obtain⟨sp,mp,ep,fh⟩:=jf (P[k]);obtain⟨sq,mq,eq,iY⟩:=jf (Q[k]);have dv:=Ah.out _ (List.getElem_mem k1);have fS:=vq.out _ (List.getElem_mem k2);have hst:=fA.out k k1 k2;rw[fh]at dv hst;rw[iY]at fS hst;obtain⟨D,hD⟩:=aC (aB (sp,mp,ep)-aB (sq,mq,eq));obtain⟨E,hE⟩:=aC (D*D);obtain⟨Y,hY⟩:=aC (X+E);rw[hX,hD,hE,hY]at hst;have gS:Sm (B+1) D:=by rw[<-hD];exact Sm.sub dv.2 fS.2
    have BB:Sm (2*B+2) E:=by rw[<-hE];exact(Sm.mul gS gS).mono zo
    have gw:Sm (2*B+2+k) X:=by rw[<-hX];exact Jz.out k
    obtain⟨b1,o1,cj,p0,p1,p2⟩:=(Ha.out.below pb).num k k1 fh;obtain⟨b2,o2,eQ,q0,q1,q2⟩:=(nz.out.below pb).num k k2 iY;have iV:=jW n cap k (k:Int) cj hlt rfl;have mg:=jW n cap' k (k:Int) eQ hlt rfl;have Hp:Hid (aZ wr b1 (o1+k*3) [.bool sp,.string (bs mp),.int .i64 ep]):=gM p0 p1 p2;have Hq:Hid (aZ wr b2 (o2+k*3) [.bool sq,.string (bs mq),.int .i64 eq]):=gM q0 q1 q2;obtain⟨jb,mE,HD,HE,HY,bS,GV,GX,xE,Hr⟩:=wT dv fS hD hE hY hst gS BB gw pr;have Hs:Hid (ai wr (w.heap.size+1) 30 [.bool (au (dN X)),.string (bs (nt (dN X).natAbs)),.int .i64 (dE X)]):=ps;obtain⟨iw,cz⟩:=aM pb (HT.out.below pb);have Xn:=pb.size;clear pr ps pb dv fS hst hD hE hY gS BB gw p0 p1 p2 q0 q1 q2 fh iY hX cj eQ;have Hb:Hid (Bw wr wr):=Below.refl _ _;go_upto_region 5 with fail
    go_cut[7] (λs7 wx=>∃g:Nat,s7=.pointer (some ⟨g,0,none⟩)/\wr.heap.size<=g/\ai wx g 30 [.bool (au (dN D)),.string (bs (nt (dN D).natAbs)),.int .i64 (dE D)]/\Bw wr wx);case first=>
     have p0:wr.cell? ⟨b1,o1+k*3,none⟩=some (.bool sp):=Hp.out.cell 0 zm;have p1:wr.cell? ⟨b1,o1+k*3+1,none⟩=some (.string (bs mp)):=Hp.out.cell 1 zm;have p2:wr.cell? ⟨b1,o1+k*3+2,none⟩=some (.int .i64 ep):=Hp.out.cell 2 zm;have q0:wr.cell? ⟨b2,o2+k*3,none⟩=some (.bool sq):=Hq.out.cell 0 zm;have q1:wr.cell? ⟨b2,o2+k*3+1,none⟩=some (.string (bs mq)):=Hq.out.cell 1 zm;have q2:wr.cell? ⟨b2,o2+k*3+2,none⟩=some (.int .i64 eq):=Hq.out.cell 2 zm;obtain⟨p0,p1,p2⟩:=Hp.out.w3;obtain⟨q0,q1,q2⟩:=Hq.out.w3;refine GM (λw'=>w'.cell? ⟨b1,o1+k*3,none⟩=some (.bool sp)/\w'.cell? ⟨b1,o1+k*3+1,none⟩=some (.string (bs mp))/\w'.cell? ⟨b1,o1+k*3+2,none⟩=some (.int .i64 ep)/\w'.cell? ⟨b2,o2+k*3,none⟩=some (.bool sq)/\w'.cell? ⟨b2,o2+k*3+1,none⟩=some (.string (bs mq))/\w'.cell? ⟨b2,o2+k*3+2,none⟩=some (.int .i64 eq)) (λi=>Nat.blt i 10) 8 9 [(9,false),(10,false)] [(8,false),(10,false)] [0,1,2,3,4,5,6,7] zk zk rfl rfl zk zc ⟨p0,p1,p2,q0,q1,q2⟩ ?_;iterate 8 (refine Gu rfl rfl (v:=?_) (λw' hw'=>?_) ?_;rotate_left;(focus obtain⟨q0,q1,q2,q3,q4,q5⟩:=hw';go_simp;try with_reducible rfl);try simp only[UU])
     refine Gt rfl rfl rfl rfl (λK hK=>?_) (λK hK=>?_)
     . go_simp;with_reducible refine(yj sp mp ep sq mq eq D B HD.out _ jb.out mE.out zo (by first|exact cz.out|exact aF.drew cz.out|exact aF.alloc cz.out _|exact aF.drew (aF.alloc cz.out _) |exact aF.alloc (aF.drew cz.out) _)).mono ?_
       rintro e w5 ⟨rfl,hq⟩;have bI:Bw wr w5:=aO hq;refine hK _ _ ⟨cell_later bI p0,cell_later bI p1,cell_later bI p2,cell_later bI q0,cell_later bI q1,cell_later bI q2⟩ ?_;try simp only[UU]
       refine aJ rfl rfl (λK hK=>?_);go_simp;refine hK _ _ (λ_=>⟨aI (cell_later bI p0),aI (cell_later bI p1),aI (cell_later bI p2),aI (cell_later bI q0),aI (cell_later bI q1),aI (cell_later bI q2)⟩) ?_;try simp only[UU]
       refine aJ rfl rfl (λK hK=>?_);go_simp;refine hK _ _ (λh=>absurd h zd) ?_;simp only[aU];go_wp2_with fail;go_meet;exact⟨w5.heap.size,rfl,bI.size,ai.new _ _ _,bI.alloc bI.size _⟩
     . go_simp;refine hK _ _ ⟨aI p0,aI p1,aI p2,aI q0,aI q1,aI q2⟩ ?_;try simp only[UU]
       refine aJ rfl rfl (λK hK=>?_);go_simp;with_reducible refine(yj sp mp ep sq mq eq D B HD.out _ jb.out mE.out zo (by first|exact cz.out|exact aF.drew cz.out|exact aF.alloc cz.out _|exact aF.drew (aF.alloc cz.out _) |exact aF.alloc (aF.drew cz.out) _)).mono ?_
       rintro e w5 ⟨rfl,hq⟩;have bI:Bw wr w5:=nR hq;have Hn:ai w5 wr.heap.size 30 [.bool false,.string ⟨#[]⟩,.int .i64 0]:=ai.below (ai.new wr.drew 30 [.bool false,.string ⟨#[]⟩,.int .i64 0]) hq;obtain⟨n0,ft,n1,fu,n2,fw⟩:=Hn.g3;refine hK _ _ (λ_=>⟨cell_later bI p0,cell_later bI p1,cell_later bI p2,cell_later bI q0,cell_later bI q1,cell_later bI q2⟩) ?_;try simp only[UU]
       refine aJ rfl rfl (λK hK=>?_);go_simp;refine hK _ _ (λh=>absurd h zd) ?_;simp only[aU];go_wp2_with fail;go_meet;exact⟨wr.heap.size,rfl,Nat.le_refl _,((Hn.set 0 _).set 1 _).set 2 _,((bI.sc wr.heap.size 0 (Nat.le_refl _) _).sc wr.heap.size 1 (Nat.le_refl _) _).sc wr.heap.size 2 (Nat.le_refl _) _⟩
    case rest=>
     obtain⟨g,rfl,hg,qd,qb⟩:=hcut;have vp:Hid (Fit (B+1) (au (dN D),nt (dN D).natAbs,dE D)):=GV.out.fit zo;have IU:Hid (Fit (2*B+10) (au (dN X),nt (dN X).natAbs,dE X)):=(xE.out.mono zo).fit zo;have IR:Hid (Fit (2*B+10) (au (dN E),nt (dN E).natAbs,dE E)):=(GX.out.mono zo).fit zo;have Je:Hid (aB (au (dN D),nt (dN D).natAbs,dE D) *aB (au (dN D),nt (dN D).natAbs,dE D)=E):=by show aB (canon D) *aB (canon D)=E;rw[bP];exact HE.out
     have Ip:Hid (aB (au (dN X),nt (dN X).natAbs,dE X)+aB (au (dN E),nt (dN E).natAbs,dE E)=Y):=by show aB (canon X)+aB (canon E)=Y;rw[bP,bP];exact HY.out
     have VD:=Hs.out.lt;replace Hr:=ah (Hr.out.below qb);replace Hs:=ah (Hs.out.below qb);have Hd:=ah qd;replace cz:=ah (cz.out.below qb);clear Hb;have Hb:=ah (aK iw.out qb);have lg:=Hd.out.lt;clear qd qb;obtain⟨r0,r1,r2⟩:=Hr.out.c3;obtain⟨s0,bM,s1,bN,s2,cm⟩:=Hs.out.g3;obtain⟨d0,d1,d2⟩:=Hd.out.c3;have cz:Hid (aF wc):=cz.out;go_wp2_with fail;refine bD (λw'=>w'.cell? ⟨w.heap.size+1,0,none⟩=some (.bool (au (dN X)))/\w'.cell? ⟨w.heap.size+1,1,none⟩=some (.string (bs (nt (dN X).natAbs)))/\w'.cell? ⟨w.heap.size+1,2,none⟩=some (.int .i64 (dE X))/\w'.cell? ⟨g,0,none⟩=some (.bool (au (dN D)))/\w'.cell? ⟨g,1,none⟩=some (.string (bs (nt (dN D).natAbs)))/\w'.cell? ⟨g,2,none⟩=some (.int .i64 (dE D))) (λi=>Nat.blt i 7) [(0,true),(1,true),(2,true),(3,false),(4,false),(5,false),(6,false),(7,false)] zk zk rfl zk zc ⟨s0,s1,s2,d0,d1,d2⟩ ?_;iterate 3 (refine pT rfl rfl ?_ (by intro w' ⟨q0,q1,q2,q3,q4,q5⟩;go_simp;try with_reducible rfl);try simp only[UU])
     refine aJ rfl rfl (λK hK=>?_);go_simp;refine hK _ _ (λ_=>⟨aI s0,aI s1,aI s2,aI d0,aI d1,aI d2⟩) ?_;clear hK K;try simp only[UU]
     refine bE (λw6=>ai w6 (wc.heap.size) 30 [.bool (au (dN D)),.string (bs (nt (dN D).natAbs)),.int .i64 (dE D),.bool (au (dN D)),.string (bs (nt (dN D).natAbs)),.int .i64 (dE D)]/\Bw wc w6) (by first|exact dW|exact dX) ?_;rintro w6 ⟨Df,ae⟩;clear r0 r1 r2 s0 bM s1 bN s2 cm d0 d1 d2;have am9:=Hr.out.lt;have ane:=Hs.out.lt;have amJ:=Hd.out.lt;replace Hr:=kB Hr ae;replace Hs:=kB Hs ae;replace Hd:=kB Hd ae;replace cz:=kT cz ae;have kS:=ah Df;clear Df;obtain⟨r0,r1,r2⟩:=Hr.out.c3;obtain⟨s0,bM,s1,bN,s2,cm⟩:=Hs.out.g3;obtain⟨d0,d1,d2⟩:=Hd.out.c3;obtain⟨ux,uy,uz,qP,qQ,m15⟩:=kS.out.c6;replace Hb:=az Hb ae;clear ae;refine aJ rfl rfl (λK hK=>?_);go_simp;with_reducible refine(Bi _ _ _ _ _ _ E (B+1) Je.out _ 2 _ _ vp.out vp.out zo kS.out (by first|exact cz.out|exact aF.drew cz.out|exact aF.alloc cz.out _|exact aF.drew (aF.alloc cz.out _) |exact aF.alloc (aF.drew cz.out) _)).mono ?_
     rintro e w7 ⟨rfl,hq⟩;have ae:Bw w6 w7:=by first|exact hq|exact aO hq
     clear r0 r1 r2 s0 bM s1 bN s2 cm d0 d1 d2 ux uy uz qP qQ m15;replace Hr:=kB Hr ae;replace Hs:=kB Hs ae;replace Hd:=kB Hd ae;replace cz:=kT cz ae;replace kS:=kB kS ae;obtain⟨r0,r1,r2⟩:=Hr.out.c3;obtain⟨s0,bM,s1,bN,s2,cm⟩:=Hs.out.g3;obtain⟨d0,d1,d2⟩:=Hd.out.c3;obtain⟨ux,uy,uz,qP,qQ,m15⟩:=kS.out.c6;replace Hb:=az Hb ae;clear ae;refine hK _ _ (λ_=>⟨s0,s1,s2,d0,d1,d2⟩) ?_;clear hK K;try simp only[UU]
     refine aJ rfl rfl (λK hK=>?_);go_simp;refine hK _ _ (λ_=>⟨aI s0,aI s1,aI s2,aI d0,aI d1,aI d2⟩) ?_;clear hK K;try simp only[UU]
     refine bE (λw8=>ai w8 (w7.heap.size) 30 [.bool (au (dN X)),.string (bs (nt (dN X).natAbs)),.int .i64 (dE X),.bool (au (dN E)),.string (bs (nt (dN E).natAbs)),.int .i64 (dE E)]/\Bw w7 w8) (by first|exact dW|exact dX) ?_;rintro w8 ⟨Dg,ae⟩;clear r0 r1 r2 s0 bM s1 bN s2 cm d0 d1 d2 ux uy uz qP qQ m15;have ana:=Hr.out.lt;have anf:=Hs.out.lt;have amK:=Hd.out.lt;have amW:=kS.out.lt;replace Hr:=kB Hr ae;replace Hs:=kB Hs ae;replace Hd:=kB Hd ae;replace cz:=kT cz ae;replace kS:=kB kS ae;have tA:=ah Dg;clear Dg;obtain⟨r0,r1,r2⟩:=Hr.out.c3;obtain⟨s0,bM,s1,bN,s2,cm⟩:=Hs.out.g3;obtain⟨d0,d1,d2⟩:=Hd.out.c3;obtain⟨ux,uy,uz,qP,qQ,m15⟩:=kS.out.c6;obtain⟨Gf,Gg,Gh,Gi,Gj,Gk⟩:=tA.out.c6;replace Hb:=az Hb ae;clear ae;refine aJ rfl rfl (λK hK=>?_);go_simp;with_reducible refine(Bh _ _ _ _ _ _ Y (2*B+10) Ip.out _ 2 _ _ IU.out IR.out zo tA.out (by first|exact cz.out|exact aF.drew cz.out|exact aF.alloc cz.out _|exact aF.drew (aF.alloc cz.out _) |exact aF.alloc (aF.drew cz.out) _)).mono ?_
     rintro e w9 ⟨rfl,hq⟩;have ae:Bw w8 w9:=by first|exact hq|exact aO hq
     clear r0 r1 r2 s0 bM s1 bN s2 cm d0 d1 d2 ux uy uz qP qQ m15 Gf Gg Gh Gi Gj Gk;replace Hr:=kB Hr ae;replace Hs:=kB Hs ae;replace Hd:=kB Hd ae;replace cz:=kT cz ae;replace kS:=kB kS ae;replace tA:=kB tA ae;obtain⟨r0,r1,r2⟩:=Hr.out.c3;obtain⟨s0,bM,s1,bN,s2,cm⟩:=Hs.out.g3;obtain⟨d0,d1,d2⟩:=Hd.out.c3;obtain⟨ux,uy,uz,qP,qQ,m15⟩:=kS.out.c6;obtain⟨Gf,Gg,Gh,Gi,Gj,Gk⟩:=tA.out.c6;replace Hb:=az Hb ae;clear ae;refine hK _ _ (λ_=>⟨s0,s1,s2,d0,d1,d2⟩) ?_;clear hK K;try simp only[UU]
     refine aJ rfl rfl (λK hK=>?_);go_simp;refine hK _ _ (λh=>absurd h zd) ?_;clear hK K;try simp only[UU]
     clear r0 r1 r2 s0 bM s1 bN s2 cm d0 d1 d2 ux uy uz qP qQ m15 Gf Gg Gh Gi Gj Gk;refine bE (λdz=>ai dz (w.heap.size) 30 [.bool false,.string ⟨#[]⟩,.int .i64 0]/\ai dz (w.heap.size+1) 30 [.bool (au (dN Y)),.string (bs (nt (dN Y).natAbs)),.int .i64 (dE Y)]/\ai dz (g) 30 [.bool (au (dN D)),.string (bs (nt (dN D).natAbs)),.int .i64 (dE D)]/\ai dz (wc.heap.size) 30 [.bool (au (dN D)),.string (bs (nt (dN D).natAbs)),.int .i64 (dE D),.bool (au (dN D)),.string (bs (nt (dN D).natAbs)),.int .i64 (dE D)]/\ai dz (w7.heap.size) 30 [.bool (au (dN X)),.string (bs (nt (dN X).natAbs)),.int .i64 (dE X),.bool (au (dN E)),.string (bs (nt (dN E).natAbs)),.int .i64 (dE E)]/\Bw w dz) ⟨(((Hr.out.so (w.heap.size+1) 0 zo _).so (w.heap.size+1) 1 zo _).so (w.heap.size+1) 2 zo _),(((Hs.out.set 0 _).set 1 _).set 2 _),(((Hd.out.so (w.heap.size+1) 0 zo _).so (w.heap.size+1) 1 zo _).so (w.heap.size+1) 2 zo _),(((kS.out.so (w.heap.size+1) 0 zo _).so (w.heap.size+1) 1 zo _).so (w.heap.size+1) 2 zo _),(((tA.out.so (w.heap.size+1) 0 zo _).so (w.heap.size+1) 1 zo _).so (w.heap.size+1) 2 zo _),by first|exact(((Hb.out.sc (w.heap.size+1) 0 ZS _).sc (w.heap.size+1) 1 ZS _).sc (w.heap.size+1) 2 ZS _) |exact Below.drew (((Hb.out.sc (w.heap.size+1) 0 ZS _).sc (w.heap.size+1) 1 ZS _).sc (w.heap.size+1) 2 ZS _)⟩ ?_;rintro dz ⟨qr,qs,qd,Df,Dg,ae⟩;replace Hr:=ah qr;clear qr;replace Hs:=ah qs;clear qs;replace Hd:=ah qd;clear qd;replace kS:=ah Df;clear Df;replace tA:=ah Dg;clear Dg;obtain⟨r0,r1,r2⟩:=Hr.out.c3;obtain⟨s0,bM,s1,bN,s2,cm⟩:=Hs.out.g3;obtain⟨d0,d1,d2⟩:=Hd.out.c3;obtain⟨ux,uy,uz,qP,qQ,m15⟩:=kS.out.c6;obtain⟨Gf,Gg,Gh,Gi,Gj,Gk⟩:=tA.out.c6;replace Hb:=ah ae;clear ae;simp only[aU];go_wp2;go_roundw;case rel=>exact⟨k+1,Y,by omega,by go_num,bS.out,Hr.out,Hs.out,Hb.out⟩
     case measure=>simp[intOf];omega
  . obtain rfl:k=n:=by omega
    have Hr:=ah pr;have Hs:Hid (ai wr (w.heap.size+1) 30 [.bool (au (dN X)),.string (bs (nt (dN X).natAbs)),.int .i64 (dE X)]):=ps;have HX:=ah hX;replace Hb:=ah pb;clear pr ps pb hX;obtain⟨r0,aj,r1,ar,r2,aG⟩:=Hr.out.g3;obtain⟨s0,s1,s2⟩:=Hs.out.c3;go_wp2;clear r0 aj r1 ar r2 aG s0 s1 s2;refine gu (λw9=>ai w9 (w.heap.size) 30 [.bool (au (dN X)),.string (bs (nt (dN X).natAbs)),.int .i64 (dE X)]/\ai w9 (w.heap.size+1) 30 [.bool (au (dN X)),.string (bs (nt (dN X).natAbs)),.int .i64 (dE X)]/\Bw w w9) ⟨(((Hr.out.set 0 _).set 1 _).set 2 _),(((Hs.out.so (w.heap.size) 0 zo _).so (w.heap.size) 1 zo _).so (w.heap.size) 2 zo _),(((Hb.out.sc (w.heap.size) 0 ZS _).sc (w.heap.size) 1 ZS _).sc (w.heap.size) 2 ZS _)⟩ ?_;rintro w9 ⟨qr,qs,ae⟩;replace Hr:=ah qr;clear qr;replace Hs:=ah qs;clear qs;obtain⟨r0,aj,r1,ar,r2,aG⟩:=Hr.out.g3;obtain⟨s0,s1,s2⟩:=Hs.out.c3;replace Hb:=ah ae;clear ae;refine bodyPost_ret (v:=bC X) (by simp[results,Tryz.results89,go_sem,r0,r1,r2]) rfl ⟨by rw[HX.out],Hb.out⟩
def eW (rows:List (List Raw))(n a b:Nat):Dyadic:=lK ((rows.getD a []).map aB) ((rows.getD b []).map aB) n
def uw (sq:Nat->Nat->Dyadic)(a b:Nat)(s:Nat×Nat×Dyadic):Nat×Nat×Dyadic:=if 0<bW (sq a b-s.2.2)then(a,b,sq a b)else s
def qN (sq:Nat->Nat->Dyadic)(a:Nat):Nat->Nat->Nat×Nat×Dyadic->Nat×Nat×Dyadic
 |0,_,s=>s
 |k+1,b,s=>qN sq a k (b+1) (uw sq a b s)
def mz (sq:Nat->Nat->Dyadic)(L:Nat):Nat->Nat->Nat×Nat×Dyadic->Nat×Nat×Dyadic
 |0,_,s=>s
 |k+1,a,s=>mz sq L k (a+1) (qN sq a (L-(a+1)) (a+1) s)
def gm (sq:Nat->Nat->Dyadic)(L:Nat):Nat×Nat×Dyadic:=mz sq L L 0 (0,1,sq 0 1)
theorem agx (sq:Nat->Nat->Dyadic)(Q:Nat×Nat×Dyadic->Prop)(L a k b:Nat)(s:Nat×Nat×Dyadic)(hs:Q s)(hab:a<b)(hb:b+k<=L)(h:∀a b,a<b->b<L->Q (a,b,sq a b)):Q (qN sq a k b s):=by
 induction k generalizing b s with
 |zero=>exact hs
 | succ k ih=>
   unfold qN;refine ih (b+1) _ ?_ zo zo;unfold uw;split
   . exact h a b hab zo
   . exact hs
theorem agw (sq:Nat->Nat->Dyadic)(Q:Nat×Nat×Dyadic->Prop)(L k a:Nat)(s:Nat×Nat×Dyadic)(hs:Q s)(hb:a+k<=L)(h:∀a b,a<b->b<L->Q (a,b,sq a b)):Q (mz sq L k a s):=by
 induction k generalizing a s with
 |zero=>exact hs
 |succ k ih=>unfold mz;exact ih (a+1) _ (agx sq Q L a _ (a+1) s hs zo zo h) zo
theorem MH (sq:Nat->Nat->Dyadic)(L:Nat)(hL:2<=L):(gm sq L).1<(gm sq L).2.1/\(gm sq L).2.1<L/\(gm sq L).2.2=sq (gm sq L).1 (gm sq L).2.1:=
 agw sq (λs=>s.1<s.2.1/\s.2.1<L/\s.2.2=sq s.1 s.2.1) L L 0 (0,1,sq 0 1) ⟨Nat.zero_lt_one,hL,rfl⟩ zo (λa b h1 h2=>⟨h1,h2,rfl⟩)
abbrev Bl (s:Nat×Nat×Dyadic):List Value:=[.int .i64 (s.1:Int),.int .i64 (s.2.1:Int),.bool (au (dN s.2.2)),.string (bs (nt (dN s.2.2).natAbs)),.int .i64 (dE s.2.2)]
theorem At.drew {w:World}{a:Option Addr}{cs:List Value}(h:At w a cs):At w.drew a cs:=h
theorem At.alloc {w:World}{a:Option Addr}{cs:List Value}(h:At w a cs)(o:Obj):At (w.alloc o) a cs:=h.below zl
theorem ajM (rows:List (List Raw))(n B x y:Nat)(a:Option Addr)(cap:Nat)(a':Option Addr)(cap':Nat)(D:Dyadic)(w:World)(hx:x<rows.length)(hy:y<rows.length)(hn:n<=8)(hrow:∀r∈rows,r.length=n)(hfit:∀r∈rows,∀c∈r,Fit B c)(hB:B<=10000000)
 (hD:eW rows n x y=D) (ha:At w a (rows[x].flatMap bB)) (ha':At w a' (rows[y].flatMap bB)) (hT:aF w):
 Calls Tryz.prog 89 #[.slice a rows[x].length cap,.slice a' rows[y].length cap'] w λe w'=>e=.returned (bC D)/\Bw w w':=by
 have h1:=hrow _ (List.getElem_mem hx);have h2:=hrow _ (List.getElem_mem hy);have e1:rows.getD x []=rows[x]:=by simp[hx]
 have e2:rows.getD y []=rows[y]:=by simp[hy]
 unfold eW at hD;rw[e1,e2]at hD;rw[h1,h2,<-hD];exact ajL a n cap rows[x] a' cap' rows[y] B w h1 h2 hn ha ha' (hfit _ (List.getElem_mem hx)) (hfit _ (List.getElem_mem hy)) hB hT
theorem ajJ {rows:List (List Raw)}{n B:Nat}(hfit:∀r∈rows,∀c∈r,Fit B c)(x y:Nat):Sm (2*B+2+n) (eW rows n x y):=by
 have h:∀z,∀c∈(rows.getD z []).map aB,Sm B c:=λz c hc=>by
  obtain⟨u,hu,rfl⟩:=List.mem_map.1 hc;by_cases hz:z<rows.length
  . have e:rows.getD z []=rows[z]:=by simp[hz]
    rw[e]at hu;exact(hfit _ (List.getElem_mem hz) u hu).2
  . have e:rows.getD z []=[]:=by simp[List.getD_eq_getElem?_getD,List.getElem?_eq_none (by omega:rows.length<=z)]
    rw[e]at hu;cases hu
 exact Gy (h x) (h y) n
theorem agA (a:Option Addr)(L cap n:Nat)(rows:List (List Raw))(B:Nat)(w:World)(hL:rows.length=L)(hL2:2<=L)(rW:L<=9)(hn:n<=8)(hrow:∀r∈rows,r.length=n)(ha:aX w a rows)
 (hfit:∀r∈rows,∀c∈r,Fit B c) (hB:B<=10000000) (hT:aF w):
 Calls Tryz.prog 47 #[.slice a L cap] w λe w'=>e=.returned (.agg (Bl (gm (eW rows n) L)).toArray)/\Bw w w':=by
 obtain⟨sq,kE⟩:=aC (eW rows n);have hsm:∀x y,Sm (2*B+10) (sq x y):=λx y=>by rw[<-kE];exact(ajJ hfit x y).mono zo
 have hcall:∀x y (hx:x<rows.length) (hy:y<rows.length) (a1:Option Addr) (c1:Nat) (a2:Option Addr) (c2:Nat) (W:World),At W a1 (rows[x].flatMap bB)->At W a2 (rows[y].flatMap bB)->aF W->
  Calls Tryz.prog 89 #[.slice a1 rows[x].length c1,.slice a2 rows[y].length c2] W λe w'=>e=.returned (bC (sq x y))/\Bw W w':=λx y hx hy a1 c1 a2 c2 W h1 h2 h3=>
  ajM rows n B x y a1 c1 a2 c2 (sq x y) W hx hy hn hrow hfit hB (by rw[<-kE]) h1 h2 h3
 obtain⟨F,hF⟩:=aC (gm (eW rows n) L);rw[hF];rw[kE]at hF;obtain⟨HL,Ha,AL,kj,HF,HT,fX⟩:=na hL ha hsm hcall hF hT hT;clear hL ha hsm hcall hF hT hfit hrow kE;obtain⟨X,hX⟩:=aC (sq 0 1);have HX:=ah hX;clear hX;obtain⟨W,cO,Hb,Hr⟩:=iF w 83 [.int .i64 0,.int .i64 0,.bool false,.string ⟨#[]⟩,.int .i64 0];obtain⟨r0,aj,r1,ar,r2,aG,r3,cF,r4,cX⟩:=Hr.out.g5;have HT:Hid (aF W):=HT.out.below Hb.out;have HS:Hid (aX W a rows):=Ha.out.below Hb.out;go_enter Tryz.func47,Tryz.ntmps47;have lr:=Hr.out.lt;obtain⟨b0,o0,a1,c1,dI,hc0,gy⟩:=HS.out.row 0 (by rw[HL.out];omega);obtain⟨dL,ey,a2,c2,cj,hc1,iD⟩:=HS.out.row 1 (by rw[HL.out];omega);obtain⟨rfl,rfl⟩:dL=b0/\ey=o0:=by rw[dI]at cj;simp at cj;exact⟨cj.1.symm,cj.2.symm⟩
 clear cj;have i0:=gz L cap 0 0 dI zo rfl;have i1:=gz L cap 1 1 dI zo rfl;rw[Nat.mul_one]at i0 i1;rw[Nat.add_zero]at i0 hc0;have jI:=ah dI;have qK:dL<W.heap.size:=World.block_lt_of_cell? W _ hc0;have sJ:=λW'=>kj.out 0 1 (by rw[HL.out];omega) (by rw[HL.out];omega) a1 c1 a2 c2 W';rw[HX.out]at sJ;obtain⟨n0,hn0⟩:=aC ((rows[0]'(by rw[HL.out];omega)).length);obtain⟨n1,dA⟩:=aC ((rows[1]'(by rw[HL.out];omega)).length);rw[hn0]at hc0;rw[dA]at hc1;simp only[hn0,dA]at sJ;obtain⟨vB,gY,jJ⟩:=cH sJ gy iD;have Hu:Hid (aZ W dL ey [.slice a1 n0 c1]):=λj hj=>by
  obtain rfl:j=0:=by simp at hj;omega
  exact hc0
 have Hv:Hid (aZ W dL (ey+1) [.slice a2 n1 c2]):=λj hj=>by
  obtain rfl:j=0:=by simp at hj;omega
  exact hc1
 clear sJ gy iD dI hn0 dA hc0 hc1;go_upto_region 1 with fail
 go_cut[3] (λs3 wx=>∃g:Nat,s3=.pointer (some ⟨g,0,none⟩)/\W.heap.size<=g/\ai wx g 83 (Bl (0,1,X))/\Bw W wx);case first=>
  have u0:=Hu.out.w1;have v0:=Hv.out.w1;have HT:Hid (aF W):=HT.out;refine GM (λw'=>w'.cell? ⟨dL,ey,none⟩=some (.slice a1 n0 c1)/\w'.cell? ⟨dL,ey+1,none⟩=some (.slice a2 n1 c2)) (λi=>Nat.blt i 10) 7 9 [(8,true),(9,false),(10,false)] [(7,false),(8,true),(10,false)] [0,1,2,3,4,5,6] zk zk rfl rfl zk zc ⟨u0,v0⟩ ?_;iterate 7 (refine Gu rfl rfl (v:=?_) (λw' hw'=>?_) ?_;rotate_left;(focus obtain⟨q0,q1⟩:=hw';go_simp;try with_reducible rfl);try simp only[UU])
  refine Gt rfl rfl rfl rfl (λK hK=>?_) (λK hK=>?_)
  . go_simp;with_reducible refine(vB.out _ (by first|exact gY.out|exact At.drew gY.out) (by first|exact jJ.out|exact At.drew jJ.out) (by first|exact HT.out|exact aF.drew HT.out|exact aF.alloc HT.out _|exact aF.drew (aF.alloc HT.out _) |exact aF.alloc (aF.drew HT.out) _)).mono ?_
    rintro e w5 ⟨rfl,hq⟩;have bI:Bw W w5:=aO hq;refine hK _ _ ⟨cell_later bI u0,cell_later bI v0⟩ ?_;try simp only[UU]
    refine pT rfl rfl ?_;try simp only[UU]
    refine aJ rfl rfl (λK hK=>?_);go_simp;refine hK _ _ (λ_=>⟨aI (cell_later bI u0),aI (cell_later bI v0)⟩) ?_;try simp only[UU]
    refine aJ rfl rfl (λK hK=>?_);go_simp;refine hK _ _ (λh=>absurd h zd) ?_;simp only[aU];go_wp2_with fail;go_meet;exact⟨w5.heap.size,rfl,bI.size,ai.new _ _ _,bI.alloc bI.size _⟩
  . go_simp;refine hK _ _ ⟨aI u0,aI v0⟩ ?_;try simp only[UU]
    refine aJ rfl rfl (λK hK=>?_);go_simp;with_reducible refine(vB.out (W.alloc (.cells #[.int .i64 0,.int .i64 0,.bool false,.string ⟨#[]⟩,.int .i64 0] 83)).drew (gY.out.alloc _).drew (jJ.out.alloc _).drew (by first|exact HT.out|exact aF.drew HT.out|exact aF.alloc HT.out _|exact aF.drew (aF.alloc HT.out _) |exact aF.alloc (aF.drew HT.out) _)).mono ?_
    rintro e w5 ⟨rfl,hq⟩;have bI:Bw W w5:=nR hq;have Hn:ai w5 W.heap.size 83 [.int .i64 0,.int .i64 0,.bool false,.string ⟨#[]⟩,.int .i64 0]:=ai.below (ai.new W.drew 83 [.int .i64 0,.int .i64 0,.bool false,.string ⟨#[]⟩,.int .i64 0]) hq;have n0':=Hn.cell 0;have wY:=Hn.cell 1;have xb:=Hn.cell 2;have n3':=Hn.cell 3;have n4':=Hn.cell 4;have ft:=Hn.free 0;have fu:=Hn.free 1;have fw:=Hn.free 2;have fQ:=Hn.free 3;have fR:=Hn.free 4;refine hK _ _ (λ_=>⟨cell_later bI u0,cell_later bI v0⟩) ?_;try simp only[UU]
    refine pT rfl rfl ?_;try simp only[UU]
    refine aJ rfl rfl (λK hK=>?_);go_simp;refine hK _ _ (λh=>absurd h zd) ?_;simp only[aU];go_wp2_with fail;go_meet;exact⟨W.heap.size,rfl,Nat.le_refl _,((((Hn.set 0 _).set 1 _).set 2 _).set 3 _).set 4 _,((((bI.sc W.heap.size 0 (Nat.le_refl _) _).sc W.heap.size 1 (Nat.le_refl _) _).sc W.heap.size 2 (Nat.le_refl _) _).sc W.heap.size 3 (Nat.le_refl _) _).sc W.heap.size 4 (Nat.le_refl _) _⟩
 case rest=>
  obtain⟨g,rfl,hg,qd,qb⟩:=hcut;have Hd:=ah qd;replace Hr:=ah (Hr.out.below qb);replace Hb:=ah (aK Hb.out qb);have lg:=Hd.out.lt;have lr2:=Hr.out.lt;have szW:=qb.size;clear qd qb r0 r1 r2 r3 r4 aj ar aG cF cX i0 i1 vB gY jJ Hu Hv jI HS HT;have OY:Hid (Sm (2*B+10) X):=by rw[<-HX.out];exact AL.out 0 1
  have OG:Hid (mz sq L (L-0) 0 (0,1,X)=F):=by rw[<-HX.out];exact HF.out
  go_wp2_with fail;go_loopw[18] (λx wr=>∃(k:Nat) (s:Nat×Nat×Dyadic),k<=L/\x=.int .i64 (k:Int)/\mz sq L (L-k) k s=F/\Sm (2*B+10) s.2.2/\ai wr w.heap.size 83 [.int .i64 0,.int .i64 0,.bool false,.string ⟨#[]⟩,.int .i64 0]/\ai wr g 83 (Bl s)/\Bw w wr) (λx _=>L-(intOf x).toNat);case atStart=>exact⟨0,(0,1,X),Nat.zero_le _,rfl,OG.out,OY.out,Hr.out,Hd.out,Hb.out⟩
  case round=>
   clear Hr Hd Hb OG OY;obtain⟨k,s,hk,rfl,hF,hs,pr,pd,pb⟩:=hrel;by_cases hlt:k<L
   . obtain⟨Hr,Hd,Hb,Hs⟩:=dO pr pd pb hs;have zP:Hid (mz sq L (L-(k+1)) (k+1) (qN sq k (L-(k+1)) (k+1) s)=F):=by rw[show L-k=L-(k+1)+1 by omega]at hF;exact hF
     clear pr pd pb hs hF;go_wp2_with fail;go_loopw[5] (λx wr=>∃(b:Nat) (s:Nat×Nat×Dyadic),b<=L/\k<b/\x=.int .i64 (b:Int)/\mz sq L (L-(k+1)) (k+1) (qN sq k (L-b) b s)=F/\Sm (2*B+10) s.2.2/\ai wr w.heap.size 83 [.int .i64 0,.int .i64 0,.bool false,.string ⟨#[]⟩,.int .i64 0]/\ai wr g 83 (Bl s)/\Bw w wr) (λx _=>L-(intOf x).toNat);case atStart=>exact⟨k+1,s,by omega,by omega,by go_num,zP.out,Hs.out,Hr.out,Hd.out,Hb.out⟩
     case round=>
      clear Hr Hd Hb zP Hs;obtain⟨b,s,hb1,hb2,rfl,hF,hs,pr,pd,pb⟩:=hrel;obtain⟨Hr,Hd,Hb,Hs,zO⟩:=fp pr pd pb hs hF;clear pr pd pb hs hF;by_cases bo:b<L
      . obtain⟨b0,o0,a1,c1,dI,hc0,gy⟩:=(Ha.out.below Hb.out).row k (by rw[HL.out];omega);obtain⟨dL,ey,a2,c2,cj,hc1,iD⟩:=(Ha.out.below Hb.out).row b (by rw[HL.out];omega);obtain⟨rfl,rfl⟩:dL=b0/\ey=o0:=by rw[dI]at cj;simp at cj;exact⟨cj.1.symm,cj.2.symm⟩
        clear cj;have i0:=gz L cap k (k:Int) dI hlt rfl;have i1:=gz L cap b (b:Int) dI bo rfl;rw[Nat.mul_one]at i0 i1;have sJ:=λW'=>kj.out k b (by rw[HL.out];omega) (by rw[HL.out];omega) a1 c1 a2 c2 W';obtain⟨Y,hY⟩:=aC (sq k b);have vT:=AL.out k b;rw[hY]at sJ vT;obtain⟨n0,hn0⟩:=aC ((rows[k]'(by rw[HL.out];omega)).length);obtain⟨n1,dA⟩:=aC ((rows[b]'(by rw[HL.out];omega)).length);rw[hn0]at hc0;rw[dA]at hc1;simp only[hn0,dA]at sJ;obtain⟨vB,gY,jJ,HY,Pb,HT⟩:=gJ sJ gy iD hY vT (fX.out.below Hb.out);have Hu:Hid (aZ wr dL (ey+k) [.slice a1 n0 c1]):=λj hj=>by
         obtain rfl:j=0:=by simp at hj;omega
         exact hc0
        have Hv:Hid (aZ wr dL (ey+b) [.slice a2 n1 c2]):=λj hj=>by
         obtain rfl:j=0:=by simp at hj;omega
         exact hc1
        clear sJ gy iD dI hn0 dA hc0 hc1 hY vT;have ls1:=Hr.out.lt;have VD:=Hd.out.lt;go_upto_region 8 with fail
        go_cut[6] (λs6 wx=>∃g':Nat,s6=.pointer (some ⟨g',0,none⟩)/\wr.heap.size<=g'/\ai wx g' 30 [.bool (au (dN Y)),.string (bs (nt (dN Y).natAbs)),.int .i64 (dE Y)]/\Bw wr wx);case first=>
         have u0:=Hu.out.w1;have v0:=Hv.out.w1;refine GM (λw'=>w'.cell? ⟨dL,ey+k,none⟩=some (.slice a1 n0 c1)/\w'.cell? ⟨dL,ey+b,none⟩=some (.slice a2 n1 c2)) (λi=>Nat.blt i 10) 8 9 [(9,false),(10,false)] [(8,false),(10,false)] [0,1,2,3,4,5,6,7] zk zk rfl rfl zk zc ⟨u0,v0⟩ ?_;iterate 8 (refine Gu rfl rfl (v:=?_) (λw' hw'=>?_) ?_;rotate_left;(focus obtain⟨q0,q1⟩:=hw';go_simp;try with_reducible rfl);try simp only[UU])
         refine Gt rfl rfl rfl rfl (λK hK=>?_) (λK hK=>?_)
         . go_simp;with_reducible refine(vB.out _ (by first|exact gY.out|exact At.drew gY.out) (by first|exact jJ.out|exact At.drew jJ.out) (by first|exact HT.out|exact aF.drew HT.out|exact aF.alloc HT.out _|exact aF.drew (aF.alloc HT.out _) |exact aF.alloc (aF.drew HT.out) _)).mono ?_
           rintro e w5 ⟨rfl,hq⟩;have bI:Bw wr w5:=aO hq;refine hK _ _ ⟨cell_later bI u0,cell_later bI v0⟩ ?_;try simp only[UU]
           refine aJ rfl rfl (λK hK=>?_);go_simp;refine hK _ _ (λ_=>⟨aI (cell_later bI u0),aI (cell_later bI v0)⟩) ?_;try simp only[UU]
           refine aJ rfl rfl (λK hK=>?_);go_simp;refine hK _ _ (λh=>absurd h zd) ?_;simp only[aU];go_wp2_with fail;go_meet;exact⟨w5.heap.size,rfl,bI.size,ai.new _ _ _,bI.alloc bI.size _⟩
         . go_simp;refine hK _ _ ⟨aI u0,aI v0⟩ ?_;try simp only[UU]
           refine aJ rfl rfl (λK hK=>?_);go_simp;with_reducible refine(vB.out (wr.alloc (.cells #[.bool false,.string ⟨#[]⟩,.int .i64 0] 30)).drew (gY.out.alloc _).drew (jJ.out.alloc _).drew (by first|exact HT.out|exact aF.drew HT.out|exact aF.alloc HT.out _|exact aF.drew (aF.alloc HT.out _) |exact aF.alloc (aF.drew HT.out) _)).mono ?_
           rintro e w5 ⟨rfl,hq⟩;have bI:Bw wr w5:=nR hq;have Hn:ai w5 wr.heap.size 30 [.bool false,.string ⟨#[]⟩,.int .i64 0]:=ai.below (ai.new wr.drew 30 [.bool false,.string ⟨#[]⟩,.int .i64 0]) hq;obtain⟨n0',ft,wY,fu,xb,fw⟩:=Hn.g3;refine hK _ _ (λ_=>⟨cell_later bI u0,cell_later bI v0⟩) ?_;try simp only[UU]
           refine aJ rfl rfl (λK hK=>?_);go_simp;refine hK _ _ (λh=>absurd h zd) ?_;simp only[aU];go_wp2_with fail;go_meet;exact⟨wr.heap.size,rfl,Nat.le_refl _,((Hn.set 0 _).set 1 _).set 2 _,((bI.sc wr.heap.size 0 (Nat.le_refl _) _).sc wr.heap.size 1 (Nat.le_refl _) _).sc wr.heap.size 2 (Nat.le_refl _) _⟩
        case rest=>
         obtain⟨g',rfl,hg',qn,qb⟩:=hcut;have Hn:=ah qn;replace Hr:=ah (Hr.out.below qb);replace Hd:=ah (Hd.out.below qb);replace Hb:=ah (aK Hb.out qb);have zV:=ah (HT.out.below qb);clear qn qb Hu Hv gY jJ vB HT i0 i1;obtain⟨si,sj,sx⟩:=s;have YS:Hid (Ok (au (dN Y),nt (dN Y).natAbs,dE Y)):=(Pb.out.fit zo).1;have Ai:Hid (Ok (au (dN sx),nt (dN sx).natAbs,dE sx)):=(Hs.out.fit zo).1;obtain⟨c,hc⟩:=aC (bW (Y-sx));have HC:Hid (bW (aB (au (dN Y),nt (dN Y).natAbs,dE Y)-aB (au (dN sx),nt (dN sx).natAbs,dE sx))=c):=by
          show bW (aB (canon Y)-aB (canon sx))=c
          rw[bP,bP];exact hc
         have zQ:Hid (mz sq L (L-(k+1)) (k+1) (qN sq k (L-(b+1)) (b+1) (uw sq k b (si,sj,sx)))=F):=by have h:=zO.out;rw[show L-b=L-(b+1)+1 by omega]at h;exact h
         have hstep:uw sq k b (si,sj,sx)=if 0<c then(k,b,Y)else(si,sj,sx):=by
          unfold uw;rw[HY.out];show(if 0<bW (Y-sx)then _ else _)=_
          rw[hc]
         have fA:=ah hstep;clear hc hstep;obtain⟨d0,Kz,d1,KA,d2,KB,d3,RA,d4,RB⟩:=Hd.out.g5;obtain⟨n0,n1,n2⟩:=Hn.out.c3;obtain⟨r0,r1,r2,r3,r4⟩:=Hr.out.c5;go_wp2_with fail;refine(ac6 _ _ _ _ _ _ c HC.out _ YS.out Ai.out zV.out).mono ?_;rintro e w7 ⟨rfl,ae⟩;clear d0 Kz d1 KA d2 KB d3 RA d4 RB n0 n1 n2 r0 r1 r2 r3 r4;replace Hd:=kB Hd ae;replace Hn:=kB Hn ae;replace Hr:=kB Hr ae;obtain⟨d0,Kz,d1,KA,d2,KB,d3,RA,d4,RB⟩:=Hd.out.g5;obtain⟨n0,n1,n2⟩:=Hn.out.c3;obtain⟨r0,r1,r2,r3,r4⟩:=Hr.out.c5;replace Hb:=az Hb ae;clear ae;by_cases hc0:0<c
         . go_wp2;go_roundw;case rel=>
            refine⟨b+1,(k,b,Y),by omega,by omega,by go_num,?_,Pb.out,?_,?_,?_⟩
            . have h:=zQ.out;rw[fA.out,if_pos hc0]at h;exact h
            . exact((((Hr.out.so g 0 zo _).so g 1 zo _).so g 2 zo _).so g 3 zo _).so g 4 zo _
            . exact((((Hd.out.set 0 _).set 1 _).set 2 _).set 3 _).set 4 _
            . exact((((Hb.out.sc g 0 zo _).sc g 1 zo _).sc g 2 zo _).sc g 3 zo _).sc g 4 zo _
           case measure=>simp[intOf];omega
         . go_wp2;go_roundw;case rel=>refine⟨b+1,(si,sj,sx),by omega,by omega,by go_num,?_,Hs.out,Hr.out,Hd.out,Hb.out⟩;have h:=zQ.out;rw[fA.out,if_neg zo]at h;exact h
           case measure=>simp[intOf];omega
      . obtain rfl:b=L:=by omega
        go_wp2;go_roundw;case rel=>refine⟨k+1,s,by omega,by go_num,?_,Hs.out,Hr.out,Hd.out,Hb.out⟩;have h:=zO.out;rw[Nat.sub_self]at h;exact h
        case measure=>simp[intOf];omega
   . obtain rfl:k=L:=by omega
     rw[Nat.sub_self]at hF;have Yb:Hid (s=F):=hF;obtain⟨si,sj,sx⟩:=s;obtain⟨Hr,Hd,Hb⟩:=cH pr pd pb;clear pr pd pb hF hs;obtain⟨d0,d1,d2,d3,d4⟩:=Hd.out.c5;obtain⟨r0,aj,r1,ar,r2,aG,r3,cF,r4,cX⟩:=Hr.out.g5;go_wp2;clear d0 d1 d2 d3 d4 r0 aj r1 ar r2 aG r3 cF r4 cX;refine gu (λw9=>ai w9 (g) 83 [.int .i64 (si:Int),.int .i64 (sj:Int),.bool (au (dN sx)),.string (bs (nt (dN sx).natAbs)),.int .i64 (dE sx)]/\ai w9 (w.heap.size) 83 [.int .i64 (si:Int),.int .i64 (sj:Int),.bool (au (dN sx)),.string (bs (nt (dN sx).natAbs)),.int .i64 (dE sx)]/\Bw w w9) ⟨(((((Hd.out.so (w.heap.size) 0 zo _).so (w.heap.size) 1 zo _).so (w.heap.size) 2 zo _).so (w.heap.size) 3 zo _).so (w.heap.size) 4 zo _),(((((Hr.out.set 0 _).set 1 _).set 2 _).set 3 _).set 4 _),(((((Hb.out.sc (w.heap.size) 0 ZS _).sc (w.heap.size) 1 ZS _).sc (w.heap.size) 2 ZS _).sc (w.heap.size) 3 ZS _).sc (w.heap.size) 4 ZS _)⟩ ?_;rintro w9 ⟨qd,qr,ae⟩;replace Hd:=ah qd;clear qd;replace Hr:=ah qr;clear qr;obtain⟨d0,d1,d2,d3,d4⟩:=Hd.out.c5;obtain⟨r0,aj,r1,ar,r2,aG,r3,cF,r4,cX⟩:=Hr.out.g5;replace Hb:=ah ae;clear ae;refine bodyPost_ret (v:=.agg (Bl (si,sj,sx)).toArray) (by simp[results,Tryz.results47,go_sem,r0,r1,r2,r3,r4]) rfl ⟨by rw[<-Yb.out],Hb.out⟩
theorem Tryz.aoe :(Tryz.prog.info? 46).map (λi=>(i.zero,i.size,i.bytes))=some (some (.slice none 0 0),1,24):=by kernel_rfl
def df (r:List Raw):List Raw:=r.map λx=>canon (aB x)
theorem KD (r:List Raw):(df r).length=r.length:=by simp[df]
theorem ad4 (r:List Raw):(df r).flatMap bB=dC (r.map aB):=by rw[rS,List.map_map];rfl
def Own2 (e:TypeId)(w:World)(base:Nat)(R:List (List Dyadic))(k:Nat)(v:Value):Prop:=
 ∃vals:List Value,vals.length=k/\w.ownsRow base e 1 v k vals/\∀i (h:i<vals.length),∃a c,vals[i]=.slice a (R.getD i []).length c/\At w a (dC (R.getD i []))/\∀b o,a=some ⟨b,o,none⟩->some b≠v.ownBlock/\b<w.heap.size
theorem Own2.nil (e:TypeId)(w:World)(base:Nat)(R:List (List Dyadic)):Own2 e w base R 0 (.slice none 0 0):=
 ⟨[],rfl,World.ownsRow_nil _ _ _ _,λ_ h=>absurd h (Nat.not_lt_zero _)⟩
theorem Own2.below {e:TypeId}{w w':World}{base k:Nat}{R:List (List Dyadic)}{v:Value}(h:Own2 e w base R k v)(hb:Bw w w'):Own2 e w' base R k v:=by obtain⟨vals,hl,ho,hi⟩:=h;refine⟨vals,hl,ownsRow_below ho hb,λi h=>?_⟩;obtain⟨a,c,h1,h2,h3⟩:=hi i h;exact⟨a,c,h1,h2.below hb,λb o e=>⟨(h3 b o e).1,Nat.lt_of_lt_of_le (h3 b o e).2 hb.size⟩⟩
theorem Own2.push {e:TypeId}{w w':World}{base k:Nat}{R:List (List Dyadic)}{v v':Value}{vals:List Value}(hl:vals.length=k)(hi:∀i (h:i<vals.length),∃a c,vals[i]=.slice a (R.getD i []).length c/\At w a (dC (R.getD i []))/\∀b o,a=some ⟨b,o,none⟩->some b≠v.ownBlock/\b<w.heap.size)
 {a:Option Addr} {c:Nat} (ha:At w a (dC (R.getD k []))) (hab:∀b o,a=some ⟨b,o,none⟩->some b≠v.ownBlock/\b<w.heap.size)
 (ho:w'.ownsRow base e 1 v' (k+1) (vals++[.slice a (R.getD k []).length c])) (hg:w.grownBy w' v.ownBlock) (fJ:v'.ownBlock=v.ownBlock\/v'.ownBlock=some w.heap.size):Own2 e w' base R (k+1) v':=by
 have hne:∀b,some b≠v.ownBlock->b<w.heap.size->some b≠v'.ownBlock:=by
  intro b h1 h2;rcases fJ with h|h
  . rw[h];exact h1
  . rw[h];intro h3;simp at h3;omega
 refine⟨_,by simp[hl],ho,λi h=>?_⟩;by_cases hk:i<vals.length
 . obtain⟨a1,c1,h1,h2,h3⟩:=hi i hk;refine⟨a1,c1,by rw[List.getElem_append_left hk];exact h1,h2.grown hg (λb o e=>(h3 b o e).1),λb o e=>⟨hne b (h3 b o e).1 (h3 b o e).2,Nat.lt_of_lt_of_le (h3 b o e).2 hg.size⟩⟩
 . have hik:i=k:=by simp at h;omega
   subst hik;refine⟨a,c,?_,ha.grown hg (λb o e=>(hab b o e).1),λb o e=>⟨hne b (hab b o e).1 (hab b o e).2,Nat.lt_of_lt_of_le (hab b o e).2 hg.size⟩⟩;rw[List.getElem_append_right zo];simp[hl]
theorem Gr {W:World}{base:Nat}{e:TypeId}{size:Nat}{a:Option Addr}{n c:Nat}{xs:List Value}(h:W.ownsRow base e size (.slice a n c) n xs):n<=c:=by
 rcases h.2 with⟨h1,h2⟩ |⟨g,cap,cur,h1,_,_,h2,_⟩
 . omega
 . simp at h1;omega
theorem Own2.tbl {e:TypeId}{w:World}{base k:Nat}{R:List (List Raw)}{v:Value}(h:Own2 e w base (R.map λr=>r.map aB) k v)(hk:R.length=k):∃a c,v=.slice a k c/\k<=c/\aX w a (R.map df):=by
 obtain⟨vals,hl,ho,hi⟩:=h;obtain⟨a,c,hv,hat,_⟩:=dK ho;subst hv;refine⟨a,c,rfl,Gr ho,vals,by simp[hl,hk],hat,λi h1 h2=>?_⟩;obtain⟨a1,c1,e1,e2,_⟩:=hi i h2;have hi1:i<R.length:=by simpa using h1
 have eg:(R.map λr=>r.map aB).getD i []=R[i].map aB:=by simp[hi1]
 rw[eg]at e1 e2;refine⟨a1,c1,?_,?_⟩
 . rw[e1];simp[KD]
 . rw[List.getElem_map,ad4];exact e2
theorem XM (a:Option Addr)(L cap:Nat)(rows:List (List Raw))(k0:Nat)(pa:Option Addr)(pn kd:Nat)(Pp:List Raw)(w:World)(hL:rows.length=L)(rW:L<=9)(hP:Pp.length=pn)(BF:pn<=8)(hrow:∀r∈rows,r.length<=8)(ha:aX w a rows)(hp:At w pa (Pp.flatMap bB))
 (hok:∀r∈rows,∀x∈r,Ok x) (sG:∀x∈Pp,Ok x) (hT:aF w) (at9:Int) (pD:∀k:Nat,k<L->((k:Int)=at9↔k=k0)):
 Calls Tryz.prog 48 #[.slice a L cap,.int .i64 at9,.slice pa pn kd] w λe w'=>∃a' cap',e=.returned (.slice a' L cap')/\L<=cap'/\aX w' a' ((rows.set k0 Pp).map df)/\Bw w w':=by
 obtain⟨i0,hi,hz0,hz1,hz2⟩:=info_parts Tryz.an8;obtain⟨j0,hj,hy0,hy1,hy2⟩:=info_parts Tryz.aoe;obtain⟨R,hR⟩:=aC (rows.set k0 Pp);obtain⟨S,hS⟩:=aC (R.map λr=>r.map aB);have BJ:R.length=L:=by rw[<-hR];simp[hL]
 have BI:∀r∈R,r.length<=8:=by
  intro r hr;rw[<-hR]at hr;rcases List.mem_or_eq_of_mem_set hr with h|h
  . exact hrow r h
  . rw[h];omega
 have BK:∀r∈R,∀x∈r,Ok x:=by
  intro r hr;rw[<-hR]at hr;rcases List.mem_or_eq_of_mem_set hr with h|h
  . exact hok r h
  . rw[h];exact sG
 have pK:∀(W:World) (k:Nat) (hk:k<L),Bw w W->∃b o a1 c1 n1 aq cq,∃(hk2:k<R.length),a=some ⟨b,o,none⟩/\W.cell? ⟨b,o+k,none⟩=some (.slice a1 n1 c1)/\At W aq (R[k].flatMap bB)/\((k=k0/\aq=pa/\R[k].length=pn/\cq=kd)\/(k≠k0/\aq=a1/\R[k].length=n1/\cq=c1)):=by
  intro W k hk hb;obtain⟨b,o,a1,c1,h1,h2,h3⟩:=(ha.below hb).row k zo;by_cases hkk:k=k0
  . refine⟨b,o,a1,c1,_,pa,kd,by omega,h1,h2,?_,.inl ⟨hkk,rfl,?_,rfl⟩⟩
    . have:R[k]'zo=Pp:=by simp only[<-hR,hkk,List.getElem_set_self]
      rw[this];exact hp.below hb
    . have:R[k]'zo=Pp:=by simp only[<-hR,hkk,List.getElem_set_self]
      rw[this];exact hP
  . have:R[k]'zo=rows[k]'zo:=by simp only[<-hR];exact List.getElem_set_ne (λh=>hkk h.symm) _
    refine⟨b,o,a1,c1,_,a1,c1,by omega,h1,h2,?_,.inr ⟨hkk,rfl,by rw[this],rfl⟩⟩;rw[this];exact h3
 rw[hR];obtain⟨Hi,cM,cN,cJ,Hj,jv,kX,kY,HS,Ie,Ic,Ig⟩:=gW hi hz0 hz1 hz2 hj hy0 hy1 hy2 hS BJ BI BK;obtain⟨AK,HT,zZ⟩:=cH pK hT pD;clear hi hz0 hz1 hz2 hj hy0 hy1 hy2 hR hS BJ BI BK pK ha hp hT hL hP hrow hok sG pD;go_enter Tryz.func48,Tryz.ntmps48;have Hb:Hid (Bw w w):=Below.refl _ _;go_wp2_with fail;go_loopw[7,15] (λs7 x wr=>∃(k:Nat) (v:Value),k<=L/\x=.int .i64 (k:Int)/\v=s7/\Own2 46 wr w.heap.size S k v/\Bw w wr) (λ_ x _=>L-(intOf x).toNat);case atStart=>exact⟨0,_,Nat.zero_le _,rfl,rfl,Own2.nil _ _ _ _,Hb.out⟩
 case round=>
  clear Hb;obtain⟨k,v,hk,rfl,rfl,pv,pb⟩:=hrel;by_cases hlt:k<L
  . obtain⟨b1,o1,a1,c1,n1,aq,cq,hk2,hab,hc1,hat,mU⟩:=AK.out wr k hlt pb;have iV:=gz L cap k (k:Int) hab hlt rfl;rw[Nat.mul_one]at iV;obtain⟨Q,hQ⟩:=aC (R[k]);rw[hQ]at hat mU;have vQ:=Ic.out _ (List.getElem_mem hk2);have vR:=Ig.out _ (List.getElem_mem hk2);rw[hQ]at vQ vR;obtain⟨Z,hZ⟩:=aC (Q.map aB);have lW:S.getD k []=Z:=by rw[<-HS.out,<-hZ,<-hQ];simp[hk2]
    have KY:Q.length<=8:=vQ;obtain⟨n,hn⟩:=aC Q.length;rw[hn]at KY mU;obtain⟨fF,Ib,HZ,oI,Jk,Hn,aR,cW⟩:=ng hat vR hZ lW mU hn pb pv;clear hat vR hZ lW mU hn pb pv hQ hab vQ;have iu:=aR.out.size;go_upto_if 22 with fail
    go_cut[9] (λs9 wx=>s9=.slice aq n cq/\wx=wr);case first=>
     rcases Jk.out with⟨rfl,rfl,rfl,rfl⟩ |⟨h1,rfl,rfl,rfl⟩
     . obtain rfl:=(zZ.out k hlt).2 rfl;go_wp2_with fail;go_meet;exact⟨rfl,rfl⟩
     . have h3:¬(k:Int)=at9:=λh=>h1 ((zZ.out k hlt).1 h);have h2:((k:Int)==at9)=false:=by simpa using h3
       go_wp2_with fail;go_meet;exact⟨rfl,rfl⟩
    case rest=>
     obtain⟨rfl,rfl⟩:=hcut;clear iV hc1;go_wp2_with fail;go_loopw[10,26] (λxu x wr=>∃(j:Nat) (v2:Value),j<=n/\x=.int .i64 (j:Int)/\v2=xu/\wr.ownsRow wc.heap.size 30 3 v2 j (dC (Z.take j))/\Bw wc wr) (λ_ x _=>n-(intOf x).toNat);case atStart=>exact⟨0,_,Nat.zero_le _,rfl,rfl,World.ownsRow_nil _ _ _ _,Below.refl _ _⟩
     case round=>
      obtain⟨j,v2,hj,rfl,rfl,ho,hb2⟩:=hrel;by_cases bo:j<n
      . have h1:j<Q.length:=by rw[Hn.out];exact bo
        obtain⟨s,m,e,hx⟩:=jf (Q[j]);have hok:=Ib.out _ (List.getElem_mem h1);rw[hx]at hok;obtain⟨X,hX⟩:=aC (aB (s,m,e));have bS:Hid (dC (Z.take (j+1))=dC (Z.take j)++[.bool (au (dN X)),.string (bs (nt (dN X).natAbs)),.int .i64 (dE X)]):=by
         show _=_
         rw[<-HZ.out,List.take_succ_eq_append_getElem (by simpa using h1),tN];congr 1;simp only[List.getElem_map,hx,hX];rfl
        obtain⟨b2,o2,eQ,p0,p1,p2⟩:=(fF.out.below hb2).num j h1 hx;have mg:=jW n cq j (j:Int) eQ bo rfl;obtain⟨HX,zT,Ho,bV,zV⟩:=fp hX hok ho hb2 ((HT.out.below aR.out).below hb2);have uO:=hb2.size;have Hp:Hid (aZ wr b2 (o2+j*3) [.bool s,.string (bs m),.int .i64 e]):=gM p0 p1 p2;clear hX hok ho hb2 hx eQ p0 p1 p2;have Hb:Hid (Bw wr wr):=Below.refl _ _;obtain⟨p0,p1,p2⟩:=Hp.out.w3;have P0:=p0;have P1:=p1;have P2:=p2;obtain⟨W4,nY,ae,Hc⟩:=cQ wr 30 [.bool s,.string (bs m),.int .i64 e];clear p0 p1 p2;replace Hp:=kW Hp ae;obtain⟨p0,p1,p2⟩:=Hp.out.w3;obtain⟨c0,c1,c2⟩:=Hc.out.c3;replace Hb:=az Hb ae;clear ae;have HT:Hid (aF W4):=zV.out.below Hb.out;go_wp2_with fail;refine(oY s m e X HX.out _ zT.out HT.out).mono ?_;rintro e w5 ⟨rfl,ae⟩;clear p0 p1 p2 c0 c1 c2;replace Hp:=kW Hp ae;replace Hc:=kB Hc ae;replace HT:=kT HT ae;obtain⟨p0,p1,p2⟩:=Hp.out.w3;obtain⟨c0,c1,c2⟩:=Hc.out.c3;replace Hb:=az Hb ae;clear ae;have agH:=Hc.out.lt;obtain⟨W6,pu,ae,Hd⟩:=cQ w5 30 [.bool (au (dN X)),.string (bs (nt (dN X).natAbs)),.int .i64 (dE X)];clear p0 p1 p2;replace Hp:=kW Hp ae;clear c0 c1 c2;replace Hc:=kB Hc ae;replace HT:=kT HT ae;obtain⟨p0,p1,p2⟩:=Hp.out.w3;obtain⟨c0,c1,c2⟩:=Hc.out.c3;obtain⟨d0,d1,d2⟩:=Hd.out.c3;replace Hb:=az Hb ae;clear ae;have cG:=ownsRow_below Ho.out Hb.out;have ib:=Hb.out.size;have hnews:=fZ Hd.out;clear d0 d1 d2;go_wp2_with (at_builtin;refine wpList_append_own_at _ rfl _ _ 46 rfl wc.heap.size 30 i0 _ 3 32 Tryz.underlying46 Hi.out cM.out cN.out cJ.out rfl zd v2 j (dC (Z.take j)) rfl cG ⟨w5.heap.size,0,none⟩ 1 1 [.bool (au (dN X)),.string (bs (nt (dN X).natAbs)),.int .i64 (dE X)] rfl rfl hnews zy zx zo zo ?_;intro v' w7 dD eU _ _;obtain⟨g',lS,rfl⟩:=ownsRow_succ dD);go_roundw;case rel=>
         refine⟨j+1,_,by omega,by go_num,rfl,?_,?_⟩
         . rw[bS.out];exact dD
         . exact(aK bV.out Hb.out).grown eU zo (λj e=>cL cG j e)
        case measure=>simp[intOf];omega
      . obtain rfl:j=n:=by omega
        have iT:Z.take j=Z:=List.take_of_length_le (by rw[<-HZ.out];simp[Hn.out]);rw[iT]at ho;obtain⟨a2,cap2,rfl,ma,eQ⟩:=dK ho;have fI:=ho.lt;obtain⟨vals,hvl,hov,iE⟩:=cW.out.below hb2;have Hb:Hid (Bw wr wr):=Below.refl _ _;obtain⟨_,_,mn,_⟩:=cW.out;have hvs:=mn.lt;have hin:∀b o,a2=some ⟨b,o,none⟩->some b≠v.ownBlock/\b<wr.heap.size:=by intro b o e;subst e;have h1:=fI b rfl;refine⟨λh2=>?_,h1.2⟩;have h3:=hvs b h2.symm;omega
        obtain⟨lO,uZ,kV,oO,cp,bV⟩:=gJ hin ma hvl iE hov hb2;have uO:=hb2.size;clear hin ma hvl iE hov mn hvs hb2 eQ fI iT ho bo hj;obtain⟨W6,pu,ae,Hd⟩:=cQ wr 46 [.slice a2 j cap2];have d0:=Hd.out.c1;replace Hb:=az Hb ae;clear ae;have cG:=ownsRow_below cp.out Hb.out;have ib:=Hb.out.size;have hnews:∀i u,([.slice a2 j cap2]:List Value)[i]?=some u->W6.cell? ((⟨wr.heap.size,0,none⟩:Addr).add i)=some u:=fZ Hd.out;clear d0;go_wp2_with (at_builtin;refine wpList_append_own_at _ rfl _ _ 23 rfl w.heap.size 46 j0 _ 1 24 Tryz.underlying23 Hj.out jv.out kX.out kY.out rfl zd v k vals rfl cG ⟨wr.heap.size,0,none⟩ 1 1 [.slice a2 j cap2] rfl rfl hnews zy zx zo zo ?_;intro v' w7 dD eU _ fJ;obtain⟨g',lS,rfl⟩:=ownsRow_succ dD);go_roundw;case rel=>
         refine⟨k+1,_,by omega,by go_num,rfl,?_,?_⟩
         . refine Own2.push (a:=a2) (c:=cap2) kV.out (w:=W6) ?_ ?_ ?_ ?_ eU fJ
           . intro i h;obtain⟨a,c,h1,h2,h3⟩:=oO.out i h;exact⟨a,c,h1,h2.below Hb.out,λb o e=>⟨(h3 b o e).1,Nat.lt_of_lt_of_le (h3 b o e).2 ib⟩⟩
           . rw[oI.out];exact uZ.out.below Hb.out
           . exact λb o e=>⟨(lO.out b o e).1,Nat.lt_of_lt_of_le (lO.out b o e).2 ib⟩
           . rw[oI.out,<-HZ.out,List.length_map,Hn.out];exact dD
         . exact(aK (aK aR.out bV.out) Hb.out).grown eU zo (λj e=>cL cG j e)
        case measure=>simp[intOf];omega
  . obtain rfl:k=L:=by omega
    have hlen:R.length=k:=Ie.out;rw[<-HS.out]at pv;obtain⟨a2,c2,rfl,hcl,iW⟩:=Own2.tbl pv hlen;obtain⟨nM,aR⟩:=aM iW pb;clear pv pb iW hlen;go_wp2;refine bodyPost_ret (results_tmp rfl _ _ _) rfl ⟨a2,c2,rfl,hcl,nM.out,aR.out⟩
theorem akC (a:Option Addr)(L cap:Nat)(rows:List (List Raw))(k0:Nat)(pa:Option Addr)(pn kd:Nat)(Pp:List Raw)(w:World)(hL:rows.length=L)(rW:L<=9)(hP:Pp.length=pn)(BF:pn<=8)(hrow:∀r∈rows,r.length<=8)(ha:aX w a rows)(hp:At w pa (Pp.flatMap bB))
 (hok:∀r∈rows,∀x∈r,Ok x) (sG:∀x∈Pp,Ok x) (hT:aF w):
 Calls Tryz.prog 48 #[.slice a L cap,.int .i64 (k0:Int),.slice pa pn kd] w λe w'=>∃a' cap',e=.returned (.slice a' L cap')/\L<=cap'/\aX w' a' ((rows.set k0 Pp).map df)/\Bw w w':=
 XM a L cap rows k0 pa pn kd Pp w hL rW hP BF hrow ha hp hok sG hT _ (λk _=>by omega)
theorem Vz (a:Option Addr)(L cap n:Nat)(rows:List (List Raw))(B:Nat)(w:World)(hL:rows.length=L)(hv:fM rows=n)(hn:1<=n)(ha:aX w a rows)
 (hfit:∀r∈rows,∀c∈r,Fit B c) (hB:B<=10000000) (hT:aF w):
 Calls Tryz.prog 13 #[.slice a L cap] w λe w'=>e=.returned (.tuple #[.int .i64 ((gm (eW rows n) L).1:Int),.int .i64 ((gm (eW rows n) L).2.1:Int),bC (gm (eW rows n) L).2.2,.int .i64 0])/\Bw w w':=by
 obtain⟨c1,c2,c3,c4⟩:=Dp hv zo;have hvars:=λW=>λ(h:aX W a rows)=>zJ a L cap rows W hL zo h;have qD:=λW=>λ(h:aX W a rows) (hT:aF W)=>agA a L cap n rows B W hL zo zo zo (λr hr=>by have:=c4 r hr;omega) h hfit hB hT;rw[hv]at hvars;obtain⟨⟨i,j,X⟩,hF⟩:∃F,gm (eW rows n) L=F:=⟨_,rfl⟩;simp only[hF]at qD;rw[hF];obtain⟨aaz,Av,Ha,HT⟩:=dO hvars qD ha hT;have h0:((n:Int)==0)=false:=by simp;omega
 have h0':¬(n:Int)=0:=by omega
 clear hvars qD ha hT hF hfit hv c1 c2 c3 c4 hL;obtain⟨W,cO,Hb,Hr⟩:=iF w 30 [.bool false,.string ⟨#[]⟩,.int .i64 0];obtain⟨r0,aj,r1,ar,r2,aG⟩:=Hr.out.g3;go_enter Tryz.func13,Tryz.ntmps13;go_wp2_with fail;refine(aaz.out _ (Ha.out.below Hb.out)).mono ?_;rintro e w1 ⟨rfl,ae⟩;clear r0 aj r1 ar r2 aG;replace Hr:=kB Hr ae;obtain⟨r0,aj,r1,ar,r2,aG⟩:=Hr.out.g3;replace Hb:=az Hb ae;clear ae;go_wp2_with fail;refine(Av.out _ (Ha.out.below Hb.out) (HT.out.below Hb.out)).mono ?_;rintro e w2 ⟨rfl,ae⟩;clear r0 aj r1 ar r2 aG;replace Hr:=kB Hr ae;obtain⟨r0,aj,r1,ar,r2,aG⟩:=Hr.out.g3;replace Hb:=az Hb ae;clear ae;have am8:=Hr.out.lt;obtain⟨w3,alT,ae,Hx⟩:=cQ w2 83 [.int .i64 (i:Int),.int .i64 (j:Int),.bool (au (dN X)),.string (bs (nt (dN X).natAbs)),.int .i64 (dE X)];clear r0 aj r1 ar r2 aG;replace Hr:=kB Hr ae;obtain⟨r0,aj,r1,ar,r2,aG⟩:=Hr.out.g3;obtain⟨x0,x1,x2,x3,x4⟩:=Hx.out.c5;replace Hb:=az Hb ae;clear ae;go_wp2_with fail;refine bD (λw'=>w'.cell? ⟨w2.heap.size,0,none⟩=some (.int .i64 (i:Int))/\w'.cell? ⟨w2.heap.size,1,none⟩=some (.int .i64 (j:Int))/\w'.cell? ⟨w2.heap.size,2,none⟩=some (.bool (au (dN X)))/\w'.cell? ⟨w2.heap.size,3,none⟩=some (.string (bs (nt (dN X).natAbs)))/\w'.cell? ⟨w2.heap.size,4,none⟩=some (.int .i64 (dE X))) (λi=>Nat.blt i 10) [(0,true),(1,true),(2,true),(3,true),(4,true),(5,true),(6,true),(7,true),(8,true),(9,true),(10,false),(11,false)] zk zk rfl zk zc ⟨x0,x1,x2,x3,x4⟩ ?_;iterate 10 (refine pT rfl rfl ?_ (by intro w' ⟨q0,q1,q2,q3,q4⟩;go_simp;try with_reducible rfl);try simp only[UU])
 refine aJ rfl rfl (λK hK=>?_);go_simp;refine hK _ _ (λh=>absurd h zd) ?_;clear hK K;try simp only[UU]
 clear r0 aj r1 ar r2 aG x0 x1 x2 x3 x4;refine bE (λw4=>ai w4 (w.heap.size) 30 [.bool (au (dN X)),.string (bs (nt (dN X).natAbs)),.int .i64 (dE X)]/\ai w4 (w2.heap.size) 83 [.int .i64 (i:Int),.int .i64 (j:Int),.bool (au (dN X)),.string (bs (nt (dN X).natAbs)),.int .i64 (dE X)]/\Bw w w4) ⟨(((Hr.out.set 0 _).set 1 _).set 2 _),(((Hx.out.so (w.heap.size) 0 zo _).so (w.heap.size) 1 zo _).so (w.heap.size) 2 zo _),by first|exact(((Hb.out.sc (w.heap.size) 0 ZS _).sc (w.heap.size) 1 ZS _).sc (w.heap.size) 2 ZS _) |exact Below.drew (((Hb.out.sc (w.heap.size) 0 ZS _).sc (w.heap.size) 1 ZS _).sc (w.heap.size) 2 ZS _)⟩ ?_;rintro w4 ⟨qr,qx,ae⟩;replace Hr:=ah qr;clear qr;replace Hx:=ah qx;clear qx;obtain⟨r0,aj,r1,ar,r2,aG⟩:=Hr.out.g3;obtain⟨x0,x1,x2,x3,x4⟩:=Hx.out.c5;replace Hb:=ah ae;clear ae;refine aJ rfl rfl (λK hK=>?_);go_simp;refine hK _ _ (λh=>absurd h zd) ?_;clear hK K;try simp only[UU]
 simp only[aU];go_wp2;refine bodyPost_ret (v:=.tuple #[.int .i64 (i:Int),.int .i64 (j:Int),bC X,.int .i64 0]) (by simp[results,Tryz.results13,go_sem,r0,r1,r2]) rfl ⟨rfl,?_⟩;(repeat first|exact Hb.out| (refine Below.setCell ?_ (by have:=Hb.out.size;first| (dsimp only;omega) | (show _<=_;omega) | (simp<;>omega)) _) | (refine Below.alloc ?_ zt _) |refine Below.drew ?_)
def midD (p q:List Raw):List Dyadic:=List.zipWith (λx y=>(aB x+aB y) *hp 1) p q
def ij (p q:List Raw):List Raw:=(midD p q).map canon
theorem MO {p q:List Raw}(h:p.length=q.length):(midD p q).length=p.length:=by simp[midD,h]
theorem MP {p q:List Raw}(h:p.length=q.length):(ij p q).length=p.length:=by simp[ij,MO h]
theorem VP (p q:List Raw)(k:Nat)(h:k<p.length)(h':k<q.length):(midD p q).take (k+1)=(midD p q).take k++[(aB p[k]+aB q[k]) *hp 1]:=by unfold midD;rw[List.take_succ_eq_append_getElem zi];simp
theorem VQ {B:Nat}{p q:List Raw}(hp':∀x∈p,Fit B x)(hq:∀x∈q,Fit B x)(hB:B<=10000000):∀x∈ij p q,Fit (B+3) x:=by
 intro x hx;unfold ij midD at hx;obtain⟨d,hd,rfl⟩:=List.mem_map.1 hx;obtain⟨i,hi,rfl⟩:=List.mem_iff_getElem.1 hd;have hi1:i<p.length/\i<q.length:=by simp at hi;omega
 rw[List.getElem_zipWith];have h1:=Sm.mul (Sm.add (hp' _ (List.getElem_mem hi1.1)).2 (hq _ (List.getElem_mem hi1.2)).2) (Uu 1);exact(h1.mono (show B+1+(1+1)<=B+3 by omega)).fit zo
theorem SN (a:Option Addr)(L cap n:Nat)(rows:List (List Raw))(B:Nat)(i j:Nat)(Y:Dyadic)(w:World)(hL:rows.length=L)(hv:fM rows=n)(hn:1<=n)(ha:aX w a rows)
 (hfit:∀r∈rows,∀c∈r,Fit B c) (hB:B<=10000000) (hT:aF w) (hF:gm (eW rows n) L=(i,j,Y)):
 Calls Tryz.prog 14 #[.slice a L cap] w λe w'=>∃a1 c1 a2 c2,e=.returned (.tuple #[.slice a1 L c1,.slice a2 L c2,.int .i64 0])/\L<=c1/\L<=c2/\
  aX w' a1 ((rows.set j (ij (rows.getD i []) (rows.getD j []))).map df)/\aX w' a2 ((rows.set i (ij (rows.getD i []) (rows.getD j []))).map df)/\Bw w w':=by
 obtain⟨i0,hi,hz0,hz1,hz2⟩:=info_parts Tryz.an8;obtain⟨c1,c2,c3,c4⟩:=Dp hv zo;have qD:=λW=>λ(h:aX W a rows) (hT:aF W)=>Vz a L cap n rows B W hL hv hn h hfit hB hT;have hinv:=MH (eW rows n) L zo;rw[hF]at hinv;simp only[hF]at qD;obtain⟨hij,wh,hY⟩:=hinv;dsimp only at hij wh hY;have Cf:i<L:=by omega
 obtain⟨p,hp'⟩:=aC (rows.getD i []);obtain⟨q,hq'⟩:=aC (rows.getD j []);have ep:rows[i]'zo=p:=by rw[<-hp'];simp[hL,Cf]
 have eq:rows[j]'zo=q:=by rw[<-hq'];simp[hL,wh]
 have hpl:p.length=n:=by have:=c4 p (by rw[<-ep];exact List.getElem_mem _);omega
 have wF:q.length=n:=by have:=c4 q (by rw[<-eq];exact List.getElem_mem _);omega
 have gG:∀x∈p,Fit B x:=by rw[<-ep];exact hfit _ (List.getElem_mem _)
 have wE:∀x∈q,Fit B x:=by rw[<-eq];exact hfit _ (List.getElem_mem _)
 rw[hp',hq'];have wM:=λ(k:Nat) (pa:Option Addr) (pc:Nat) (W:World) (h1:aX W a rows) (h2:At W pa (dC (midD p q))) (h3:aF W)=>akC a L cap rows k pa n pc (ij p q) W hL zo (by rw[MP zo];exact hpl) zo (λr hr=>by have:=c4 r hr;omega) h1 (by unfold ij;rw[<-rS];exact h2) (λr hr x hx=>(hfit r hr x hx).1) (λx hx=>(VQ gG wE hB x hx).1) h3;obtain⟨A1,KH⟩:=aC ((rows.set j (ij p q)).map df);obtain⟨A2,Br⟩:=aC ((rows.set i (ij p q)).map df);have un:=wM j;have iX:=wM i;rw[KH]at un⊢;rw[Br]at iX⊢;have hrow:=λ(W:World) (h:aX W a rows)=>h.row i zo;have hrow2:=λ(W:World) (h:aX W a rows)=>h.row j zo;simp only[ep,hpl]at hrow;simp only[eq,wF]at hrow2;obtain⟨Z,hZ⟩:=aC (midD p q);have hst:∀k (h:k<p.length) (h':k<q.length),Z.take (k+1)=Z.take k++[(aB p[k]+aB q[k]) *hp 1]:=by rw[<-hZ];exact VP p q
 have tT:Z.length=n:=by rw[<-hZ,MO zo,hpl]
 rw[hZ]at iX un;obtain⟨Hi,cM,cN,cJ,Av,Ha,HT,JM,Hwj,rN,Jv,bS⟩:=gW hi hz0 hz1 hz2 qD ha hT iX un hrow hrow2 hst;obtain⟨pV,oM,Jq,nJ,Jp⟩:=fp tT hpl wF gG wE;have ml:n<=8:=by omega
 clear hi hz0 hz1 hz2 qD ha hT iX un wM hrow hrow2 hst tT hpl wF gG wE ep eq hp' hq' hY hF hfit hv c1 c2 c3 c4 hL hZ KH Br;have Hb:Hid (Bw w w):=Below.refl _ _;go_enter Tryz.func14,Tryz.ntmps14;go_wp2_with fail;refine(Av.out _ (Ha.out.below Hb.out) (HT.out.below Hb.out)).mono ?_;rintro e w1 ⟨rfl,ae⟩;replace Hb:=az Hb ae;clear ae;obtain⟨w2,aeL,ae,Hx⟩:=cQ w1 30 [.bool (au (dN Y)),.string (bs (nt (dN Y).natAbs)),.int .i64 (dE Y)];obtain⟨x0,x1,x2⟩:=Hx.out.c3;replace Hb:=az Hb ae;clear ae;obtain⟨b0,o0,a1,c1,dI,hc0,gy⟩:=rN.out w2 (Ha.out.below Hb.out);obtain⟨dL,ey,a2,c2,cj,hc1,iD⟩:=Jv.out w2 (Ha.out.below Hb.out);obtain⟨rfl,rfl⟩:dL=b0/\ey=o0:=by rw[dI]at cj;simp at cj;exact⟨cj.1.symm,cj.2.symm⟩
 clear cj;have uu:=gz L cap i (i:Int) dI Cf rfl;have sM:=gz L cap j (j:Int) dI wh rfl;rw[Nat.mul_one]at uu sM;obtain⟨nC,IB,gY,jJ,jI⟩:=fp hc0 hc1 gy iD dI;clear hc1 gy iD dI;have uO:=Hb.out.size;go_wp2_with fail;go_loopw[8,25] (λs8 x wr=>∃(k:Nat) (v:Value),k<=n/\x=.int .i64 (k:Int)/\v=s8/\wr.ownsRow w2.heap.size 30 3 v k (dC (Z.take k))/\Bw w2 wr) (λ_ x _=>n-(intOf x).toNat);case atStart=>exact⟨0,_,Nat.zero_le _,rfl,rfl,World.ownsRow_nil _ _ _ _,Below.refl _ _⟩
 case round=>
  clear hc0 x0 x1 x2;obtain⟨k,v,hk,rfl,rfl,pv,pb⟩:=hrel;by_cases hlt:k<n
  . have k1:k<p.length:=by rw[oM.out];exact hlt
    have k2:k<q.length:=by rw[Jq.out];exact hlt
    obtain⟨sp,mp,ep,fh⟩:=jf (p[k]);obtain⟨sq,mq,eq,iY⟩:=jf (q[k]);have dv:=nJ.out _ (List.getElem_mem k1);have fS:=Jp.out _ (List.getElem_mem k2);have hst:=bS.out k k1 k2;rw[fh]at dv hst;rw[iY]at fS hst;obtain⟨D,hD⟩:=aC (aB (sp,mp,ep)+aB (sq,mq,eq));obtain⟨X,hX⟩:=aC (D*hp 1);rw[hD,hX]at hst;have gS:Sm (B+1) D:=by rw[<-hD];exact Sm.add dv.2 fS.2
    have GU:Hid (Ok (au (dN D),nt (dN D).natAbs,dE D)):=(gS.fit zo).1;have HX:Hid (aB (au (dN D),nt (dN D).natAbs,dE D+ -1)=X):=by show _=_;rw[<-hX];exact Xe D 1
    have mJ:Hid (dC (Z.take (k+1))=dC (Z.take k)++[.bool (au (dN X)),.string (bs (nt (dN X).natAbs)),.int .i64 (dE X)]):=by
     show _=_
     rw[hst,tN];rfl
    obtain⟨b1,o1,cj,p0,p1,p2⟩:=(gY.out.below pb).num k k1 fh;obtain⟨b2,o2,eQ,q0,q1,q2⟩:=(jJ.out.below pb).num k k2 iY;have iV:=jW n c1 k (k:Int) cj hlt rfl;have mg:=jW n c2 k (k:Int) eQ hlt rfl;have iZ:b1<w2.heap.size:=(by subst cj;exact gY.out.lt (by intro h0;have:=congrArg List.length h0;rw[jg bB 3 (λ_=>rfl)]at this;simp at this;omega));have gV:b2<w2.heap.size:=(by subst eQ;exact jJ.out.lt (by intro h0;have:=congrArg List.length h0;rw[jg bB 3 (λ_=>rfl)]at this;simp at this;omega));have qK:dL<w2.heap.size:=World.block_lt_of_cell? w2 _ nC.out;have Hu:Hid (aZ wr dL (ey+i) [.slice a1 n c1]):=λj hj=>by
     obtain rfl:j=0:=by simp at hj;omega
     exact cell_later pb nC.out
    have Hv:Hid (aZ wr dL (ey+j) [.slice a2 n c2]):=λj hj=>by
     obtain rfl:j=0:=by simp at hj;omega
     exact cell_later pb IB.out
    have Hp:Hid (aZ wr b1 (o1+k*3) [.bool sp,.string (bs mp),.int .i64 ep]):=gM p0 p1 p2;have Hq:Hid (aZ wr b2 (o2+k*3) [.bool sq,.string (bs mq),.int .i64 eq]):=gM q0 q1 q2;obtain⟨jb,mE,HD,cW,rC,cz⟩:=gJ dv fS hD pv pb ((HT.out.below Hb.out).below pb);have iw:=Hb;have xw:=pb.size;clear Hb pv pb dv fS hD hX hst gS fh iY cj eQ p0 p1 p2 q0 q1 q2;have Hb:Hid (Bw wr wr):=Below.refl _ _;go_wp2_with fail;have u0:=Hu.out.w1;have v0:=Hv.out.w1;obtain⟨p0,p1,p2⟩:=Hp.out.w3;obtain⟨q0,q1,q2⟩:=Hq.out.w3;refine bD (λw'=>w'.cell? ⟨dL,ey+i,none⟩=some (.slice a1 n c1)/\w'.cell? ⟨dL,ey+j,none⟩=some (.slice a2 n c2)/\w'.cell? ⟨b1,o1+k*3,none⟩=some (.bool sp)/\w'.cell? ⟨b1,o1+k*3+1,none⟩=some (.string (bs mp))/\w'.cell? ⟨b1,o1+k*3+2,none⟩=some (.int .i64 ep)/\w'.cell? ⟨b2,o2+k*3,none⟩=some (.bool sq)/\w'.cell? ⟨b2,o2+k*3+1,none⟩=some (.string (bs mq))/\w'.cell? ⟨b2,o2+k*3+2,none⟩=some (.int .i64 eq)) (λi=>Nat.blt i 100000) [(0,true),(1,true),(2,true),(3,true),(4,true),(5,true),(6,true),(7,true),(8,true),(9,true),(10,true),(11,true),(12,true),(13,true),(14,true),(15,false),(16,false),(17,false),(18,false),(19,false),(20,true)] zk zk rfl zk zc ⟨u0,v0,p0,p1,p2,q0,q1,q2⟩ ?_;iterate 15 (refine pT rfl rfl ?_ (by intro w' ⟨q0,q1,q2,q3,q4,q5,q6,q7⟩;go_simp;try with_reducible rfl);try simp only[UU])
    refine aJ rfl rfl (λK hK=>?_);go_simp;refine hK _ _ (λ_=>⟨aI u0,aI v0,aI p0,aI p1,aI p2,aI q0,aI q1,aI q2⟩) ?_;clear hK K;try simp only[UU]
    refine bE (λw4=>ai w4 (wr.heap.size) 30 [.bool sp,.string (bs mp),.int .i64 ep,.bool sq,.string (bs mq),.int .i64 eq]/\Bw wr w4) (by first|exact dW|exact dX) ?_;rintro w4 ⟨qe,ae⟩;clear u0 v0 p0 p1 p2 q0 q1 q2;replace Hu:=kW Hu ae;replace Hv:=kW Hv ae;replace Hp:=kW Hp ae;replace Hq:=kW Hq ae;have He:=ah qe;clear qe;have u0:=Hu.out.w1;have v0:=Hv.out.w1;obtain⟨p0,p1,p2⟩:=Hp.out.w3;obtain⟨q0,q1,q2⟩:=Hq.out.w3;obtain⟨e0,e1,e2,e3,e4,e5⟩:=He.out.c6;replace Hb:=az Hb ae;clear ae;refine aJ rfl rfl (λK hK=>?_);go_simp;with_reducible refine(Bh sp mp ep sq mq eq D B HD.out wr.heap.size 2 30 _ jb.out mE.out zo He.out (by first|exact(cz.out.below Hb.out) |exact aF.drew (cz.out.below Hb.out) |exact aF.alloc (cz.out.below Hb.out) _|exact aF.drew (aF.alloc (cz.out.below Hb.out) _) |exact aF.alloc (aF.drew (cz.out.below Hb.out)) _)).mono ?_
    rintro e w5 ⟨rfl,hq⟩;have ae:Bw w4 w5:=by first|exact hq|exact aO hq
    clear u0 v0 p0 p1 p2 q0 q1 q2 e0 e1 e2 e3 e4 e5;replace Hu:=kW Hu ae;replace Hv:=kW Hv ae;replace Hp:=kW Hp ae;replace Hq:=kW Hq ae;replace He:=kB He ae;have u0:=Hu.out.w1;have v0:=Hv.out.w1;obtain⟨p0,p1,p2⟩:=Hp.out.w3;obtain⟨q0,q1,q2⟩:=Hq.out.w3;obtain⟨e0,e1,e2,e3,e4,e5⟩:=He.out.c6;replace Hb:=az Hb ae;clear ae;refine hK _ _ (λ_=>⟨u0,v0,p0,p1,p2,q0,q1,q2⟩) ?_;clear hK K;try simp only[UU]
    refine aJ rfl rfl (λK hK=>?_);go_simp;with_reducible refine(ajB (au (dN D)) (nt (dN D).natAbs) (dE D) (-1) X HX.out _ GU.out zd (by first|exact(cz.out.below Hb.out) |exact aF.drew (cz.out.below Hb.out) |exact aF.alloc (cz.out.below Hb.out) _|exact aF.drew (aF.alloc (cz.out.below Hb.out) _) |exact aF.alloc (aF.drew (cz.out.below Hb.out)) _)).mono ?_
    rintro e w6 ⟨rfl,hq⟩;have ae:Bw w5 w6:=by first|exact hq|exact aO hq
    clear u0 v0 p0 p1 p2 q0 q1 q2 e0 e1 e2 e3 e4 e5;replace Hu:=kW Hu ae;replace Hv:=kW Hv ae;replace Hp:=kW Hp ae;replace Hq:=kW Hq ae;replace He:=kB He ae;have u0:=Hu.out.w1;have v0:=Hv.out.w1;obtain⟨p0,p1,p2⟩:=Hp.out.w3;obtain⟨q0,q1,q2⟩:=Hq.out.w3;obtain⟨e0,e1,e2,e3,e4,e5⟩:=He.out.c6;replace Hb:=az Hb ae;clear ae;refine hK _ _ (λ_=>⟨u0,v0,p0,p1,p2,q0,q1,q2⟩) ?_;clear hK K;try simp only[UU]
    refine aJ rfl rfl (λK hK=>?_);go_simp;refine hK _ _ (λ_=>⟨aI u0,aI v0,aI p0,aI p1,aI p2,aI q0,aI q1,aI q2⟩) ?_;clear hK K;try simp only[UU]
    refine bE (λw7=>ai w7 (w6.heap.size) 30 [.bool (au (dN X)),.string (bs (nt (dN X).natAbs)),.int .i64 (dE X)]/\Bw w6 w7) (by first|exact dW|exact dX) ?_;rintro w7 ⟨qc,ae⟩;clear u0 v0 p0 p1 p2 q0 q1 q2 e0 e1 e2 e3 e4 e5;have amM:=He.out.lt;replace Hu:=kW Hu ae;replace Hv:=kW Hv ae;replace Hp:=kW Hp ae;replace Hq:=kW Hq ae;replace He:=kB He ae;have Hc:=ah qc;clear qc;have u0:=Hu.out.w1;have v0:=Hv.out.w1;obtain⟨p0,p1,p2⟩:=Hp.out.w3;obtain⟨q0,q1,q2⟩:=Hq.out.w3;obtain⟨e0,e1,e2,e3,e4,e5⟩:=He.out.c6;obtain⟨c0,c1,c2⟩:=Hc.out.c3;replace Hb:=az Hb ae;clear ae;refine aJ rfl rfl (λK hK=>?_);have cG:=ownsRow_below cW.out Hb.out;have ib:=Hb.out.size;refine wp_append_own _ _ _ 46 rfl w2.heap.size 30 i0 _ 3 32 Tryz.underlying46 Hi.out cM.out cN.out cJ.out rfl zd v k (dC (Z.take k)) rfl cG ⟨w6.heap.size,0,none⟩ 1 1 [.bool (au (dN X)),.string (bs (nt (dN X).natAbs)),.int .i64 (dE X)] rfl rfl (fZ Hc.out) zy zx zo zo ?_;intro v' w8 dF bj _;obtain⟨g',cq,rfl⟩:=ownsRow_succ dF;have nb:∀b,b<w2.heap.size->some b≠v.ownBlock:=λb hb e=>by have:=cL cG b e.symm;omega
    refine hK _ _ (λ_=>⟨bO bj u0 (nb _ qK),bO bj v0 (nb _ qK),bO bj p0 (nb _ iZ),bO bj p1 (nb _ iZ),bO bj p2 (nb _ iZ),bO bj q0 (nb _ gV),bO bj q1 (nb _ gV),bO bj q2 (nb _ gV)⟩) ?_;clear hK K;try simp only[UU]
    refine pT rfl rfl ?_;try simp only[UU]
    simp only[aU];clear u0 v0 p0 p1 p2 q0 q1 q2 c0 c1 c2;go_wp2;go_roundw;case rel=>
     refine⟨k+1,_,by omega,by go_num,rfl,?_,?_⟩
     . rw[mJ.out];exact dF
     . exact(aK rC.out Hb.out).grown bj zo (λj e=>cL cG j e)
    case measure=>simp[intOf];omega
  . obtain rfl:k=n:=by omega
    have iT:Z.take k=Z:=List.take_of_length_le (by rw[pV.out];exact Nat.le_refl _);rw[iT]at pv;obtain⟨a3,EA,rfl,BW,_⟩:=dK pv;obtain⟨xH,DK,xG,iw⟩:=dO BW ((HT.out.below Hb.out).below pb) ((Ha.out.below Hb.out).below pb) (aK Hb.out pb);clear Hb BW pv pb iT uu sM;have Hb:Hid (Bw w wr):=iw;go_wp2_with fail;refine(Hwj.out a3 EA _ xG.out xH.out DK.out).mono ?_;rintro e w4 ⟨a4,c4,rfl,hl4,uk,ae⟩;have vD:=ah uk;replace Hb:=ah (aK Hb.out ae);replace xH:=ah (xH.out.below ae);replace DK:=ah (DK.out.below ae);replace xG:=ah (xG.out.below ae);clear uk ae;go_wp2_with fail;refine(JM.out a3 EA _ xG.out xH.out DK.out).mono ?_;rintro e w5 ⟨a5,c5,rfl,hl5,Cz,ae⟩;have JD:=ah Cz;replace Hb:=ah (aK Hb.out ae);replace vD:=ah (vD.out.below ae);clear Cz ae;go_wp2;refine bodyPost_ret (v:=.tuple #[.slice a4 L c4,.slice a5 L c5,.int .i64 0]) (by simp[results,Tryz.results14,go_sem]) rfl ⟨a4,c4,a5,c5,rfl,hl4,hl5,vD.out,JD.out,Hb.out⟩
theorem Tryz.aof :(Tryz.prog.info? 45).map (λi=>(i.zero,i.size,i.bytes))=some (some (.slice none 0 0),1,24):=by kernel_rfl
def jd (o p:List Raw):List Dyadic:=List.zipWith (λx y=>aB x-aB y) p o
theorem EI {o p:List Raw}(h:p.length=o.length):(jd o p).length=p.length:=by simp[jd,h]
theorem adn (o p:List Raw)(k:Nat)(h:k<p.length)(h':k<o.length):(jd o p).take (k+1)=(jd o p).take k++[aB p[k]-aB o[k]]:=by unfold jd;rw[List.take_succ_eq_append_getElem zi];simp
theorem Own2.aoi {e:TypeId}{w:World}{base k:Nat}{R:List (List Dyadic)}{v:Value}(h:Own2 e w base R k v)(hk:R.length=k):∃a c,v=.slice a k c/\k<=c/\aX w a (R.map λr=>r.map canon):=by
 obtain⟨vals,hl,ho,hi⟩:=h;obtain⟨a,c,hv,hat,_⟩:=dK ho;subst hv;refine⟨a,c,rfl,Gr ho,vals,by simp[hl,hk],hat,λi h1 h2=>?_⟩;obtain⟨a1,c1,e1,e2,_⟩:=hi i h2;have hi1:i<R.length:=by simpa using h1
 have eg:R.getD i []=R[i]:=by simp[hi1]
 rw[eg]at e1 e2;refine⟨a1,c1,?_,?_⟩
 . rw[e1];simp
 . rw[List.getElem_map,<-rS];exact e2
theorem WP (b o cap m n:Nat)(rows:List (List Raw))(B:Nat)(w:World)(hL:rows.length=m+1)(hm:m<=8)(hcap:m+1<=cap)(sB:1<=m)(hn:1<=n)(ml:n<=8)(hrow:∀r∈rows,r.length=n)(ha:aX w (some ⟨b,o,none⟩) rows)
 (hfit:∀r∈rows,∀c∈r,Fit B c) (hB:B<=10000000) (hT:aF w):
 Calls Tryz.prog 46 #[.slice (some ⟨b,o,none⟩) (m+1) cap] w λe w'=>∃a' c',e=.returned (.slice a' m c')/\m<=c'/\
  aX w' a' (((rows.drop 1).map λp=>jd (rows.getD 0 []) p).map λr=>r.map canon)/\Bw w w':=by
 obtain⟨i0,hi,hz0,hz1,hz2⟩:=info_parts Tryz.an8;obtain⟨j0,hj,hy0,hy1,hy2⟩:=info_parts Tryz.aof;obtain⟨S,hS⟩:=aC ((rows.drop 1).map λp=>jd (rows.getD 0 []) p);have SC:S.length=m:=by rw[<-hS];simp[hL]
 have lW:∀k (h0:0<rows.length) (h1:k+1<rows.length),S.getD k []=jd rows[0] rows[k+1]:=by
  intro k h0 h1;subst hS;have e0:rows.getD 0 []=rows[0]:=by simp[h0]
  rw[e0];have h2:k<(rows.drop 1).length:=by simp;omega
  simp[h1]
 rw[hS];have hcell:=λ(W:World) (h:aX W (some ⟨b,o,none⟩) rows) (k:Nat) (hk:k<rows.length)=>h.row k hk;obtain⟨Hi,cM,cN,cJ,Hj,jv,kX,kY,Yr,oI,Pj,HT⟩:=gW hi hz0 hz1 hz2 hj hy0 hy1 hy2 SC lW hcell hT;obtain⟨Ha,rN,Ao,HL⟩:=dO ha hrow hfit hL;clear hi hz0 hz1 hz2 hj hy0 hy1 hy2 hS SC lW hcell ha hT hL hrow hfit;have e1:m+1-1=m:=by omega
 have e2:¬cap=1:=by omega
 go_enter Tryz.func46,Tryz.ntmps46;have Hb:Hid (Bw w w):=Below.refl _ _;go_wp2_with fail;obtain⟨r0,wG⟩:=aC (rows[0]'(by rw[HL.out];omega));obtain⟨_,_,a0,c0,dI,hc0,gy⟩:=Pj.out w Ha.out 0 (by rw[HL.out];omega);obtain⟨rfl,rfl⟩:b=_/\o=_:=by simp at dI;exact dI
 have hn0:r0.length=n:=by rw[<-wG];exact rN.out _ (List.getElem_mem _)
 have Cc:∀x∈r0,Fit B x:=by rw[<-wG];exact Ao.out _ (List.getElem_mem _)
 have mN:∀k (h1:k+1<rows.length),S.getD k []=jd r0 rows[k+1]:=λk h1=>by rw[oI.out k zo h1,wG]
 rw[wG]at hc0 gy;rw[hn0]at hc0;rw[Nat.add_zero]at hc0;have uu:=gz (m+1) cap 0 0 (show some (⟨b,o,none⟩:Addr)=some ⟨b,o,none⟩from rfl) zo rfl;rw[Nat.mul_one,Nat.add_zero]at uu;obtain⟨nC,gY,vv,IQ,Yq⟩:=fp hc0 gy hn0 Cc mN;have qK:b<w.heap.size:=World.block_lt_of_cell? w _ hc0;clear hc0 gy hn0 Cc mN wG dI Hb;go_loopw[3,11] (λs3 x wr=>∃(k:Nat) (v:Value),k<=m/\x=.int .i64 (k:Int)/\v=s3/\Own2 45 wr w.heap.size S k v/\Bw w wr) (λ_ x _=>m-(intOf x).toNat);case atStart=>exact⟨0,_,Nat.zero_le _,rfl,rfl,Own2.nil _ _ _ _,Below.refl _ _⟩
 case round=>
  obtain⟨k,v,hk,rfl,rfl,pv,pb⟩:=hrel;by_cases hlt:k<m
  . have hk2:k+1<rows.length:=by rw[HL.out];omega
    obtain⟨p,gH⟩:=aC (rows[k+1]);obtain⟨_,_,a1,c1,hab,hc1,hat⟩:=Pj.out wr (Ha.out.below pb) (k+1) hk2;obtain⟨rfl,rfl⟩:b=_/\o=_:=by simp at hab;exact hab
    have lD:p.length=n:=by rw[<-gH];exact rN.out _ (List.getElem_mem hk2)
    have gG:∀x∈p,Fit B x:=by rw[<-gH];exact Ao.out _ (List.getElem_mem hk2)
    have rY:=Yq.out k hk2;rw[gH]at hc1 hat rY;rw[lD]at hc1;have iV:=gz m (cap-1) k (k:Int) (show some (⟨b,o+1,none⟩:Addr)=some ⟨b,o+1,none⟩from rfl) hlt rfl;rw[Nat.mul_one]at iV;have aeW:wr.cell? ⟨b,o+1+k,none⟩=some (.slice a1 n c1):=by rw[show o+1+k=o+(k+1)by omega];exact hc1
    obtain⟨Z,hZ⟩:=aC (jd r0 p);rw[hZ]at rY;obtain⟨fF,kq,nJ,xD,HZ,aR,cW⟩:=na hat lD gG rY hZ pb pv;clear hat lD gG rY hZ pb pv hab gH hc1;have iu:=aR.out.size;obtain⟨wc,hwc⟩:∃wc,wc=wr:=⟨_,rfl⟩;subst hwc;go_wp2_with fail;go_loopw[6,17] (λs6 x wr=>∃(j:Nat) (v2:Value),j<=n/\x=.int .i64 (j:Int)/\v2=s6/\wr.ownsRow wc.heap.size 30 3 v2 j (dC (Z.take j))/\Bw wc wr) (λ_ x _=>n-(intOf x).toNat);case atStart=>exact⟨0,_,Nat.zero_le _,rfl,rfl,World.ownsRow_nil _ _ _ _,Below.refl _ _⟩
    case round=>
     clear aeW;obtain⟨j,v2,hj,rfl,rfl,ho,hb2⟩:=hrel;by_cases bo:j<n
     . have k1:j<p.length:=by rw[kq.out];exact bo
       have k2:j<r0.length:=by rw[vv.out];exact bo
       obtain⟨sp,mp,ep,fh⟩:=jf (p[j]);obtain⟨sq,mq,eq,iY⟩:=jf (r0[j]);have dv:=nJ.out _ (List.getElem_mem k1);have fS:=IQ.out _ (List.getElem_mem k2);rw[fh]at dv;rw[iY]at fS;obtain⟨X,hX⟩:=aC (aB (sp,mp,ep)-aB (sq,mq,eq));have mJ:Hid (dC (Z.take (j+1))=dC (Z.take j)++[.bool (au (dN X)),.string (bs (nt (dN X).natAbs)),.int .i64 (dE X)]):=by
        show _=_
        rw[<-HZ.out,adn _ _ _ k1 k2,tN,fh,iY,hX];rfl
       have dZ:=aK aR.out hb2;obtain⟨b1,o1,cj,p0,p1,p2⟩:=(fF.out.below hb2).num j k1 fh;obtain⟨b2,o2,eQ,q0,q1,q2⟩:=(gY.out.below dZ).num j k2 iY;have TJ:=jW n c1 j (j:Int) cj bo rfl;have al6:=jW n c0 j (j:Int) eQ bo rfl;have iZ:b1<wc.heap.size:=(by subst cj;exact fF.out.lt (by intro h0;have:=congrArg List.length h0;rw[jg bB 3 (λ_=>rfl)]at this;simp at this;omega));have gV:b2<wc.heap.size:=Nat.lt_of_lt_of_le (by subst eQ;exact gY.out.lt (by intro h0;have:=congrArg List.length h0;rw[jg bB 3 (λ_=>rfl)]at this;simp at this;omega)) iu;have lbc:b<wc.heap.size:=Nat.lt_of_lt_of_le qK iu;have Hu:Hid (aZ wr b o [.slice a0 n c0]):=λi hi=>by
        obtain rfl:i=0:=by simp at hi;omega
        exact cell_later dZ nC.out
       have Hp:Hid (aZ wr b1 (o1+j*3) [.bool sp,.string (bs mp),.int .i64 ep]):=gM p0 p1 p2;have Hq:Hid (aZ wr b2 (o2+j*3) [.bool sq,.string (bs mq),.int .i64 eq]):=gM q0 q1 q2;obtain⟨jb,mE,HX,Ho,rC,cz⟩:=gJ dv fS hX ho hb2 (HT.out.below dZ);have xw:=hb2.size;clear ho hb2 dv fS hX fh iY cj eQ p0 p1 p2 q0 q1 q2 dZ;have Hb:Hid (Bw wr wr):=Below.refl _ _;go_wp2_with fail;have u0:=Hu.out.w1;obtain⟨p0,p1,p2⟩:=Hp.out.w3;obtain⟨q0,q1,q2⟩:=Hq.out.w3;refine bD (λw'=>w'.cell? ⟨b,o,none⟩=some (.slice a0 n c0)/\w'.cell? ⟨b1,o1+j*3,none⟩=some (.bool sp)/\w'.cell? ⟨b1,o1+j*3+1,none⟩=some (.string (bs mp))/\w'.cell? ⟨b1,o1+j*3+2,none⟩=some (.int .i64 ep)/\w'.cell? ⟨b2,o2+j*3,none⟩=some (.bool sq)/\w'.cell? ⟨b2,o2+j*3+1,none⟩=some (.string (bs mq))/\w'.cell? ⟨b2,o2+j*3+2,none⟩=some (.int .i64 eq)) (λi=>Nat.blt i 100000) [(0,true),(1,true),(2,true),(3,true),(4,true),(5,true),(6,true),(7,true),(8,true),(9,true),(10,true),(11,false),(12,false),(13,false),(14,true)] zk zk rfl zk zc ⟨u0,p0,p1,p2,q0,q1,q2⟩ ?_;iterate 11 (refine pT rfl rfl ?_ (by intro w' ⟨q0,q1,q2,q3,q4,q5,q6⟩;go_simp;try with_reducible rfl);try simp only[UU])
       refine aJ rfl rfl (λK hK=>?_);go_simp;with_reducible refine(yj sp mp ep sq mq eq X B HX.out _ jb.out mE.out zo (by first|exact cz.out|exact aF.drew cz.out|exact aF.alloc cz.out _|exact aF.drew (aF.alloc cz.out _) |exact aF.alloc (aF.drew cz.out) _)).mono ?_
       rintro e w6 ⟨rfl,hq⟩;have ae:Bw wr w6:=by first|exact hq|exact aO hq
       clear u0 p0 p1 p2 q0 q1 q2;replace Hu:=kW Hu ae;replace Hp:=kW Hp ae;replace Hq:=kW Hq ae;have u0:=Hu.out.w1;obtain⟨p0,p1,p2⟩:=Hp.out.w3;obtain⟨q0,q1,q2⟩:=Hq.out.w3;replace Hb:=az Hb ae;clear ae;refine hK _ _ (λ_=>⟨u0,p0,p1,p2,q0,q1,q2⟩) ?_;clear hK K;try simp only[UU]
       refine aJ rfl rfl (λK hK=>?_);go_simp;refine hK _ _ (λ_=>⟨aI u0,aI p0,aI p1,aI p2,aI q0,aI q1,aI q2⟩) ?_;clear hK K;try simp only[UU]
       refine bE (λw7=>ai w7 (w6.heap.size) 30 [.bool (au (dN X)),.string (bs (nt (dN X).natAbs)),.int .i64 (dE X)]/\Bw w6 w7) (by first|exact dW|exact dX) ?_;rintro w7 ⟨qc,ae⟩;clear u0 p0 p1 p2 q0 q1 q2;replace Hu:=kW Hu ae;replace Hp:=kW Hp ae;replace Hq:=kW Hq ae;have Hc:=ah qc;clear qc;have u0:=Hu.out.w1;obtain⟨p0,p1,p2⟩:=Hp.out.w3;obtain⟨q0,q1,q2⟩:=Hq.out.w3;obtain⟨c0,c1,c2⟩:=Hc.out.c3;replace Hb:=az Hb ae;clear ae;refine aJ rfl rfl (λK hK=>?_);have cG:=ownsRow_below Ho.out Hb.out;have ib:=Hb.out.size;refine wp_append_own _ _ _ 45 rfl wc.heap.size 30 i0 _ 3 32 Tryz.underlying45 Hi.out cM.out cN.out cJ.out rfl zd v2 j (dC (Z.take j)) rfl cG ⟨w6.heap.size,0,none⟩ 1 1 [.bool (au (dN X)),.string (bs (nt (dN X).natAbs)),.int .i64 (dE X)] rfl rfl (fZ Hc.out) zy zx zo zo ?_;intro v' w8 dF bj _;obtain⟨g',cq,rfl⟩:=ownsRow_succ dF;have nb:∀b,b<wc.heap.size->some b≠v2.ownBlock:=λb hb e=>by have:=cL cG b e.symm;omega
       refine hK _ _ (λ_=>⟨bO bj u0 (nb _ lbc),bO bj p0 (nb _ iZ),bO bj p1 (nb _ iZ),bO bj p2 (nb _ iZ),bO bj q0 (nb _ gV),bO bj q1 (nb _ gV),bO bj q2 (nb _ gV)⟩) ?_;clear hK K;try simp only[UU]
       refine pT rfl rfl ?_;try simp only[UU]
       simp only[aU];clear u0 p0 p1 p2 q0 q1 q2 c0 c1 c2;go_wp2;go_roundw;case rel=>
        refine⟨j+1,_,by omega,by go_num,rfl,?_,?_⟩
        . rw[mJ.out];exact dF
        . exact(aK rC.out Hb.out).grown bj zo (λj e=>cL cG j e)
       case measure=>simp[intOf];omega
     . obtain rfl:j=n:=by omega
       have iT:Z.take j=Z:=List.take_of_length_le (by rw[<-HZ.out,EI (by rw[kq.out,vv.out]),kq.out];exact Nat.le_refl _);rw[iT]at ho;obtain⟨a2,cap2,rfl,ma,eQ⟩:=dK ho;have fI:=ho.lt;obtain⟨vals,hvl,hov,iE⟩:=cW.out.below hb2;have Hb:Hid (Bw wr wr):=Below.refl _ _;obtain⟨_,_,mn,_⟩:=cW.out;have hvs:=mn.lt;have hin:∀b o,a2=some ⟨b,o,none⟩->some b≠v.ownBlock/\b<wr.heap.size:=by intro b o e;subst e;have h1:=fI b rfl;refine⟨λh2=>?_,h1.2⟩;have h3:=hvs b h2.symm;omega
       obtain⟨lO,uZ,kV,oO,cp,bV⟩:=gJ hin ma hvl iE hov hb2;have uO:=hb2.size;have pV:Hid (Z.length=j):=by show _=_;rw[<-HZ.out,EI (by rw[kq.out,vv.out]),kq.out]
       clear hin ma hvl iE hov mn hvs hb2 eQ fI iT ho bo hj;obtain⟨W6,pu,ae,Hd⟩:=cQ wr 45 [.slice a2 j cap2];have d0:=Hd.out.c1;replace Hb:=az Hb ae;clear ae;have cG:=ownsRow_below cp.out Hb.out;have ib:=Hb.out.size;have hnews:∀i u,([.slice a2 j cap2]:List Value)[i]?=some u->W6.cell? ((⟨wr.heap.size,0,none⟩:Addr).add i)=some u:=fZ Hd.out;clear d0;go_wp2_with (at_builtin;refine wpList_append_own_at _ rfl _ _ 78 rfl w.heap.size 45 j0 _ 1 24 Tryz.underlying78 Hj.out jv.out kX.out kY.out rfl zd v k vals rfl cG ⟨wr.heap.size,0,none⟩ 1 1 [.slice a2 j cap2] rfl rfl hnews zy zx zo zo ?_;intro v' w7 dD eU _ fJ;obtain⟨g',lS,rfl⟩:=ownsRow_succ dD);go_roundw;case rel=>
        refine⟨k+1,_,by omega,by go_num,rfl,?_,?_⟩
        . refine Own2.push (a:=a2) (c:=cap2) kV.out (w:=W6) ?_ ?_ ?_ ?_ eU fJ
          . intro i h;obtain⟨a,c,h1,h2,h3⟩:=oO.out i h;exact⟨a,c,h1,h2.below Hb.out,λb o e=>⟨(h3 b o e).1,Nat.lt_of_lt_of_le (h3 b o e).2 ib⟩⟩
          . rw[xD.out];exact uZ.out.below Hb.out
          . exact λb o e=>⟨(lO.out b o e).1,Nat.lt_of_lt_of_le (lO.out b o e).2 ib⟩
          . rw[xD.out,pV.out];exact dD
        . exact(aK (aK aR.out bV.out) Hb.out).grown eU zo (λj e=>cL cG j e)
       case measure=>simp[intOf];omega
  . obtain rfl:k=m:=by omega
    obtain⟨a2,c2,rfl,hcl,iW⟩:=Own2.aoi pv Yr.out;obtain⟨nM,aR⟩:=aM iW pb;clear pv pb iW;go_wp2;refine bodyPost_ret (results_tmp rfl _ _ _) rfl ⟨a2,c2,rfl,hcl,nM.out,aR.out⟩
end Go.Proofs.YtdaadlblknpipaaGreatDoor
namespace Go.Proofs.YtdaadlblknpipaaGreatDoor
end Go.Proofs.YtdaadlblknpipaaGreatDoor
