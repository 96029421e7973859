/- Package tri: the square of an edge. -/
import Derived.Test.YtoopepmmepmfnaaGreatDoorZ11
import Derived.Test.YtoopepmmepmfnaaGreatDoorZ7
import Derived.Test.YtoopepmmepmfnaaGreatDoorZ1
import Derived.Test.YtoopepmmepmfnaaGreatDoorZ9
set_option linter.unusedVariables false
set_option linter.unusedSimpArgs false
set_option maxRecDepth 100000
set_option maxHeartbeats 16000000
namespace Go.Proofs.YtoopepmmepmfnaaGreatDoor
open Go.RowKit
attribute [local go_sem ↓] Go.wp_at_zero Go.wp_at_succ
def sL (p q:List Dyadic):Nat->Dyadic
 |0=>0
 |k+1=>sL p q k+(p.getD k 0-q.getD k 0) * (p.getD k 0-q.getD k 0)
theorem XP {B:Nat}{p q:List Dyadic}(hp:∀c∈p,Sm B c)(hq:∀c∈q,Sm B c)(k:Nat):Sm (2*B+2+k) (sL p q k):=by
 induction k with
 |zero=>exact Sm.zero _
 |succ k ih=>have h1:=Sm.sub (RU hp k) (RU hq k);have h2:=Sm.mul h1 h1;exact Sm.add ih (h2.mono (show B+1+(B+1)<=2*B+2+k by omega))
theorem akQ (a:Option Addr)(n cap:Nat)(P:List Raw)(a':Option Addr)(cap':Nat)(Q:List Raw)(B:Nat)(w:World)(hP:P.length=n)(hQ:Q.length=n)(hn:n<=8)(ha:At w a (P.flatMap bJ))(ha':At w a' (Q.flatMap bJ))
 (Lq:∀x∈P,Fit B x) (Lr:∀x∈Q,Fit B x) (hB:B<=10000000) (hT:au w):
 Calls Tryz.prog 157 #[.slice a n cap,.slice a' n cap'] w λe w'=>e=.returned (bQ (sL (P.map ar) (Q.map ar) n))/\Bw w w':=by
 have Vh:∀c∈P.map ar,Sm B c:=λc hc=>by obtain⟨x,hx,rfl⟩:=List.mem_map.1 hc;exact(Lq x hx).2
 have Vi:∀c∈Q.map ar,Sm B c:=λc hc=>by obtain⟨x,hx,rfl⟩:=List.mem_map.1 hc;exact(Lr x hx).2
 have ud:=λk=>XP Vh Vi k;have hstep:∀k (h1:k<P.length) (h2:k<Q.length),sL (P.map ar) (Q.map ar) (k+1)=sL (P.map ar) (Q.map ar) k+(ar P[k]-ar Q[k]) * (ar P[k]-ar Q[k]):=λk h1 h2=>by
  have e1:(P.map ar).getD k 0=ar P[k]:=by simp[h1]
  have e2:(Q.map ar).getD k 0=ar Q[k]:=by simp[h2]
  rw[sL,e1,e2]
 have hs0:sL (P.map ar) (Q.map ar) 0=0:=rfl;obtain⟨F,hF⟩:=az (sL (P.map ar) (Q.map ar));rw[hF]at hs0⊢;simp only[hF]at ud hstep;obtain⟨HP,HQ,Ha,sP,Ii,Ij,HT,Hsq,gj,CY⟩:=uk hP hQ ha ha' Lq Lr hT ud hstep hs0;clear hP hQ ha ha' Lq Lr hT ud hstep hs0 hF Vh Vi;obtain⟨W,cL,Hb,Hr,Hs⟩:=jF w 39 [.bool false,.string ⟨#[]⟩,.int .i64 0] 39 [.bool false,.string ⟨#[]⟩,.int .i64 0];obtain⟨r0,ah,r1,ai,r2,aB⟩:=Hr.out.g3;obtain⟨s0,aO,s1,aP,s2,aV⟩:=Hs.out.g3;go_enter Tryz.func157,Tryz.ntmps157;go_wp2_with fail;clear r0 ah r1 ai r2 aB s0 aO s1 aP s2 aV;first|refine bB (bf W (w.heap.size+1) 0 [.bool false,.string ⟨#[]⟩,.int .i64 0]) bI ?_|refine bz (bf W (w.heap.size+1) 0 [.bool false,.string ⟨#[]⟩,.int .i64 0]) bI ?_
 intro w1 hs;replace Hr:=kS Hr hs zo;replace Hs:=cp Hs hs;obtain⟨r0,ah,r1,ai,r2,aB⟩:=Hr.out.g3;obtain⟨s0,aO,s1,aP,s2,aV⟩:=Hs.out.g3;replace Hb:=bS Hb hs ZS;clear hs;have lr:=Hr.out.lt;have ls:=Hs.out.lt;go_wp2_with fail;go_loopw[11] (λi wr=>∃(k:Nat) (X:Dyadic),k<=n/\i=.int .i64 (k:Int)/\F k=X/\ag wr w.heap.size 39 [.bool false,.string ⟨#[]⟩,.int .i64 0]/\ag wr (w.heap.size+1) 39 (bJ (canon X))/\Bw w wr) (λi _=>n-(intOf i).toNat);case atStart=>exact⟨0,0,Nat.zero_le _,rfl,CY.out,Hr.out,Hs.out,Hb.out⟩
 case round=>
  clear r0 r1 r2 ah ai aB s0 s1 s2 aO aP aV Hr Hs;obtain⟨k,X,hk,rfl,hX,pr,ps,pb⟩:=hrel;by_cases hlt:k<n
  . have k1:k<P.length:=by rw[HP.out];exact hlt
    have k2:k<Q.length:=by rw[HQ.out];exact hlt
    obtain⟨sp,mp,ep,iQ⟩:=tH (P[k]);obtain⟨sq,mq,eq,uh⟩:=tH (Q[k]);have fX:=Ii.out _ (List.getElem_mem k1);have tV:=Ij.out _ (List.getElem_mem k2);have hst:=gj.out k k1 k2;rw[iQ]at fX hst;rw[uh]at tV hst;obtain⟨D,hD⟩:=az (ar (sp,mp,ep)-ar (sq,mq,eq));obtain⟨E,hE⟩:=az (D*D);obtain⟨Y,hY⟩:=az (X+E);rw[hX,hD,hE,hY]at hst;have iM:Sm (B+1) D:=by rw[<-hD];exact Sm.sub fX.2 tV.2
    have lv:Sm (2*B+2) E:=by rw[<-hE];exact(Sm.mul iM iM).mono zo
    have dX:Sm (2*B+2+k) X:=by rw[<-hX];exact Hsq.out k
    obtain⟨b1,o1,gv,p0,p1,p2⟩:=(Ha.out.below pb).num k k1 iQ;obtain⟨b2,o2,lA,q0,q1,q2⟩:=(sP.out.below pb).num k k2 uh;have oX:=BM n cap k (k:Int) gv hlt rfl;have lD:=BM n cap' k (k:Int) lA hlt rfl;have Hp:Hid (bg wr b1 (o1+k*3) [.bool sp,.string (bs mp),.int .i64 ep]):=nU p0 p1 p2;have Hq:Hid (bg wr b2 (o2+k*3) [.bool sq,.string (bs mq),.int .i64 eq]):=nU q0 q1 q2;obtain⟨pI,CP,HD,HE,HY,bR,Gs,Gu,wY,Hr⟩:=uk fX tV hD hE hY hst iM lv dX pr;have Hs:Hid (ag wr (w.heap.size+1) 39 [.bool (aj (dN X)),.string (bs (nt (dN X).natAbs)),.int .i64 (dE X)]):=ps;obtain⟨jI,cH⟩:=aJ pb (HT.out.below pb);have szb:=pb.size;clear pr ps pb fX tV hst hD hE hY iM lv dX p0 p1 p2 q0 q1 q2 iQ uh hX gv lA;have Hb:Hid (Bw wr wr):=Below.refl _ _;go_upto_region 5 with fail
    go_cut[7] (λs7 wx=>∃g:Nat,s7=.pointer (some ⟨g,0,none⟩)/\wr.heap.size<=g/\ag wx g 39 [.bool (aj (dN D)),.string (bs (nt (dN D).natAbs)),.int .i64 (dE D)]/\Bw wr wx);case first=>
     have p0:wr.cell? ⟨b1,o1+k*3,none⟩=some (.bool sp):=Hp.out.cell 0 zm;have p1:wr.cell? ⟨b1,o1+k*3+1,none⟩=some (.string (bs mp)):=Hp.out.cell 1 zm;have p2:wr.cell? ⟨b1,o1+k*3+2,none⟩=some (.int .i64 ep):=Hp.out.cell 2 zm;have q0:wr.cell? ⟨b2,o2+k*3,none⟩=some (.bool sq):=Hq.out.cell 0 zm;have q1:wr.cell? ⟨b2,o2+k*3+1,none⟩=some (.string (bs mq)):=Hq.out.cell 1 zm;have q2:wr.cell? ⟨b2,o2+k*3+2,none⟩=some (.int .i64 eq):=Hq.out.cell 2 zm;obtain⟨p0,p1,p2⟩:=Hp.out.w3;obtain⟨q0,q1,q2⟩:=Hq.out.w3;refine NW (λw'=>w'.cell? ⟨b1,o1+k*3,none⟩=some (.bool sp)/\w'.cell? ⟨b1,o1+k*3+1,none⟩=some (.string (bs mp))/\w'.cell? ⟨b1,o1+k*3+2,none⟩=some (.int .i64 ep)/\w'.cell? ⟨b2,o2+k*3,none⟩=some (.bool sq)/\w'.cell? ⟨b2,o2+k*3+1,none⟩=some (.string (bs mq))/\w'.cell? ⟨b2,o2+k*3+2,none⟩=some (.int .i64 eq)) (λi=>Nat.blt i 10) 8 9 [(9,false),(10,false)] [(8,false),(10,false)] [0,1,2,3,4,5,6,7] zk zk rfl rfl zk zc ⟨p0,p1,p2,q0,q1,q2⟩ ?_;iterate 8 (refine Nh rfl rfl (v:=?_) (λw' hw'=>?_) ?_;rotate_left;(focus obtain⟨q0,q1,q2,q3,q4,q5⟩:=hw';go_simp;try with_reducible rfl);try simp only[UU])
     refine Ng rfl rfl rfl rfl (λK hK=>?_) (λK hK=>?_)
     . go_simp;with_reducible refine(Ak sp mp ep sq mq eq D B HD.out _ pI.out CP.out zo (by first|exact cH.out|exact au.drew cH.out|exact au.alloc cH.out _|exact au.drew (au.alloc cH.out _) |exact au.alloc (au.drew cH.out) _)).mono ?_
       rintro e w5 ⟨rfl,hq⟩;have cz:Bw wr w5:=aK hq;refine hK _ _ ⟨cell_later cz p0,cell_later cz p1,cell_later cz p2,cell_later cz q0,cell_later cz q1,cell_later cz q2⟩ ?_;try simp only[UU]
       refine aF rfl rfl (λK hK=>?_);go_simp;refine hK _ _ (λ_=>⟨aH (cell_later cz p0),aH (cell_later cz p1),aH (cell_later cz p2),aH (cell_later cz q0),aH (cell_later cz q1),aH (cell_later cz q2)⟩) ?_;try simp only[UU]
       refine aF rfl rfl (λK hK=>?_);go_simp;refine hK _ _ (λh=>absurd h zd) ?_;simp only[aN];go_wp2_with fail;go_meet;exact⟨w5.heap.size,rfl,cz.size,ag.new _ _ _,cz.alloc cz.size _⟩
     . go_simp;refine hK _ _ ⟨aH p0,aH p1,aH p2,aH q0,aH q1,aH q2⟩ ?_;try simp only[UU]
       refine aF rfl rfl (λK hK=>?_);go_simp;with_reducible refine(Ak sp mp ep sq mq eq D B HD.out _ pI.out CP.out zo (by first|exact cH.out|exact au.drew cH.out|exact au.alloc cH.out _|exact au.drew (au.alloc cH.out _) |exact au.alloc (au.drew cH.out) _)).mono ?_
       rintro e w5 ⟨rfl,hq⟩;have cz:Bw wr w5:=ow hq;have Hn:ag w5 wr.heap.size 39 [.bool false,.string ⟨#[]⟩,.int .i64 0]:=ag.below (ag.new wr.drew 39 [.bool false,.string ⟨#[]⟩,.int .i64 0]) hq;obtain⟨n0,eP,n1,eQ,n2,eT⟩:=Hn.g3;refine hK _ _ (λ_=>⟨cell_later cz p0,cell_later cz p1,cell_later cz p2,cell_later cz q0,cell_later cz q1,cell_later cz q2⟩) ?_;try simp only[UU]
       refine aF rfl rfl (λK hK=>?_);go_simp;refine hK _ _ (λh=>absurd h zd) ?_;simp only[aN];go_wp2_with fail;go_meet;exact⟨wr.heap.size,rfl,Nat.le_refl _,((Hn.set 0 _).set 1 _).set 2 _,((cz.sc wr.heap.size 0 (Nat.le_refl _) _).sc wr.heap.size 1 (Nat.le_refl _) _).sc wr.heap.size 2 (Nat.le_refl _) _⟩
    case rest=>
     obtain⟨g,rfl,hg,qd,qb⟩:=hcut;have Pi:Hid (Fit (B+1) (aj (dN D),nt (dN D).natAbs,dE D)):=Gs.out.fit zo;have HfX:Hid (Fit (2*B+10) (aj (dN X),nt (dN X).natAbs,dE X)):=(wY.out.mono zo).fit zo;have HfE:Hid (Fit (2*B+10) (aj (dN E),nt (dN E).natAbs,dE E)):=(Gu.out.mono zo).fit zo;have HmE:Hid (ar (aj (dN D),nt (dN D).natAbs,dE D) *ar (aj (dN D),nt (dN D).natAbs,dE D)=E):=by show ar (canon D) *ar (canon D)=E;rw[bC];exact HE.out
     have ZG:Hid (ar (aj (dN X),nt (dN X).natAbs,dE X)+ar (aj (dN E),nt (dN E).natAbs,dE E)=Y):=by show ar (canon X)+ar (canon E)=Y;rw[bC,bC];exact HY.out
     have ls2:=Hs.out.lt;replace Hr:=af (Hr.out.below qb);replace Hs:=af (Hs.out.below qb);have Hd:=af qd;replace cH:=af (cH.out.below qb);clear Hb;have Hb:=af (aG jI.out qb);have lg:=Hd.out.lt;clear qd qb;obtain⟨r0,r1,r2⟩:=Hr.out.c3;obtain⟨s0,aO,s1,aP,s2,aV⟩:=Hs.out.g3;obtain⟨d0,d1,d2⟩:=Hd.out.c3;have cH:Hid (au wc):=cH.out;go_wp2_with fail;refine cf (λw'=>w'.cell? ⟨w.heap.size+1,0,none⟩=some (.bool (aj (dN X)))/\w'.cell? ⟨w.heap.size+1,1,none⟩=some (.string (bs (nt (dN X).natAbs)))/\w'.cell? ⟨w.heap.size+1,2,none⟩=some (.int .i64 (dE X))/\w'.cell? ⟨g,0,none⟩=some (.bool (aj (dN D)))/\w'.cell? ⟨g,1,none⟩=some (.string (bs (nt (dN D).natAbs)))/\w'.cell? ⟨g,2,none⟩=some (.int .i64 (dE D))) (λi=>Nat.blt i 7) [(0,true),(1,true),(2,true),(3,false),(4,false),(5,false),(6,false),(7,false)] zk zk rfl zk zc ⟨s0,s1,s2,d0,d1,d2⟩ ?_;iterate 3 (refine pT rfl rfl ?_ (by intro w' ⟨q0,q1,q2,q3,q4,q5⟩;go_simp;try with_reducible rfl);try simp only[UU])
     refine aF rfl rfl (λK hK=>?_);go_simp;refine hK _ _ (λ_=>⟨aH s0,aH s1,aH s2,aH d0,aH d1,aH d2⟩) ?_;clear hK K;try simp only[UU]
     refine cj (λw6=>ag w6 (wc.heap.size) 39 [.bool (aj (dN D)),.string (bs (nt (dN D).natAbs)),.int .i64 (dE D),.bool (aj (dN D)),.string (bs (nt (dN D).natAbs)),.int .i64 (dE D)]/\Bw wc w6) (by first|exact fy|exact fA) ?_;rintro w6 ⟨Xm,ae⟩;clear r0 r1 r2 s0 aO s1 aP s2 aV d0 d1 d2;have apt:=Hr.out.lt;have apz:=Hs.out.lt;have aoM:=Hd.out.lt;replace Hr:=kB Hr ae;replace Hs:=kB Hs ae;replace Hd:=kB Hd ae;replace cH:=kT cH ae;have ku:=af Xm;clear Xm;obtain⟨r0,r1,r2⟩:=Hr.out.c3;obtain⟨s0,aO,s1,aP,s2,aV⟩:=Hs.out.g3;obtain⟨d0,d1,d2⟩:=Hd.out.c3;obtain⟨ul,um,un,qA,qE,m15⟩:=ku.out.c6;replace Hb:=ak Hb ae;clear ae;refine aF rfl rfl (λK hK=>?_);go_simp;with_reducible refine(tG _ _ _ _ _ _ E (B+1) HmE.out _ 2 _ _ Pi.out Pi.out zo ku.out (by first|exact cH.out|exact au.drew cH.out|exact au.alloc cH.out _|exact au.drew (au.alloc cH.out _) |exact au.alloc (au.drew cH.out) _)).mono ?_
     rintro e w7 ⟨rfl,hq⟩;have ae:Bw w6 w7:=by first|exact hq|exact aK hq
     clear r0 r1 r2 s0 aO s1 aP s2 aV d0 d1 d2 ul um un qA qE m15;replace Hr:=kB Hr ae;replace Hs:=kB Hs ae;replace Hd:=kB Hd ae;replace cH:=kT cH ae;replace ku:=kB ku ae;obtain⟨r0,r1,r2⟩:=Hr.out.c3;obtain⟨s0,aO,s1,aP,s2,aV⟩:=Hs.out.g3;obtain⟨d0,d1,d2⟩:=Hd.out.c3;obtain⟨ul,um,un,qA,qE,m15⟩:=ku.out.c6;replace Hb:=ak Hb ae;clear ae;refine hK _ _ (λ_=>⟨s0,s1,s2,d0,d1,d2⟩) ?_;clear hK K;try simp only[UU]
     refine aF rfl rfl (λK hK=>?_);go_simp;refine hK _ _ (λ_=>⟨aH s0,aH s1,aH s2,aH d0,aH d1,aH d2⟩) ?_;clear hK K;try simp only[UU]
     refine cj (λw8=>ag w8 (w7.heap.size) 39 [.bool (aj (dN X)),.string (bs (nt (dN X).natAbs)),.int .i64 (dE X),.bool (aj (dN E)),.string (bs (nt (dN E).natAbs)),.int .i64 (dE E)]/\Bw w7 w8) (by first|exact fy|exact fA) ?_;rintro w8 ⟨Xn,ae⟩;clear r0 r1 r2 s0 aO s1 aP s2 aV d0 d1 d2 ul um un qA qE m15;have apu:=Hr.out.lt;have apA:=Hs.out.lt;have aoN:=Hd.out.lt;have ao3:=ku.out.lt;replace Hr:=kB Hr ae;replace Hs:=kB Hs ae;replace Hd:=kB Hd ae;replace cH:=kT cH ae;replace ku:=kB ku ae;have sX:=af Xn;clear Xn;obtain⟨r0,r1,r2⟩:=Hr.out.c3;obtain⟨s0,aO,s1,aP,s2,aV⟩:=Hs.out.g3;obtain⟨d0,d1,d2⟩:=Hd.out.c3;obtain⟨ul,um,un,qA,qE,m15⟩:=ku.out.c6;obtain⟨Fp,Fq,Fs,Fu,Fv,Fw⟩:=sX.out.c6;replace Hb:=ak Hb ae;clear ae;refine aF rfl rfl (λK hK=>?_);go_simp;with_reducible refine(vq _ _ _ _ _ _ Y (2*B+10) ZG.out _ 2 _ _ HfX.out HfE.out zo sX.out (by first|exact cH.out|exact au.drew cH.out|exact au.alloc cH.out _|exact au.drew (au.alloc cH.out _) |exact au.alloc (au.drew cH.out) _)).mono ?_
     rintro e w9 ⟨rfl,hq⟩;have ae:Bw w8 w9:=by first|exact hq|exact aK hq
     clear r0 r1 r2 s0 aO s1 aP s2 aV d0 d1 d2 ul um un qA qE m15 Fp Fq Fs Fu Fv Fw;replace Hr:=kB Hr ae;replace Hs:=kB Hs ae;replace Hd:=kB Hd ae;replace cH:=kT cH ae;replace ku:=kB ku ae;replace sX:=kB sX ae;obtain⟨r0,r1,r2⟩:=Hr.out.c3;obtain⟨s0,aO,s1,aP,s2,aV⟩:=Hs.out.g3;obtain⟨d0,d1,d2⟩:=Hd.out.c3;obtain⟨ul,um,un,qA,qE,m15⟩:=ku.out.c6;obtain⟨Fp,Fq,Fs,Fu,Fv,Fw⟩:=sX.out.c6;replace Hb:=ak Hb ae;clear ae;refine hK _ _ (λ_=>⟨s0,s1,s2,d0,d1,d2⟩) ?_;clear hK K;try simp only[UU]
     refine aF rfl rfl (λK hK=>?_);go_simp;refine hK _ _ (λh=>absurd h zd) ?_;clear hK K;try simp only[UU]
     clear r0 r1 r2 s0 aO s1 aP s2 aV d0 d1 d2 ul um un qA qE m15 Fp Fq Fs Fu Fv Fw;refine cj (bf w9 (w.heap.size+1) 0 [.bool (aj (dN Y)),.string (bs (nt (dN Y).natAbs)),.int .i64 (dE Y)]) bI ?_;intro cV hs;replace Hr:=kS Hr hs zo;replace Hs:=cp Hs hs;replace Hd:=kS Hd hs zo;replace ku:=kS ku hs zo;replace sX:=kS sX hs zo;obtain⟨r0,r1,r2⟩:=Hr.out.c3;obtain⟨s0,aO,s1,aP,s2,aV⟩:=Hs.out.g3;obtain⟨d0,d1,d2⟩:=Hd.out.c3;obtain⟨ul,um,un,qA,qE,m15⟩:=ku.out.c6;obtain⟨Fp,Fq,Fs,Fu,Fv,Fw⟩:=sX.out.c6;replace Hb:=bS Hb hs ZS;clear hs;simp only[aN];go_wp2;go_roundw;case rel=>exact⟨k+1,Y,by omega,by go_num,bR.out,Hr.out,Hs.out,Hb.out⟩
     case measure=>simp[intOf];omega
  . obtain rfl:k=n:=by omega
    have Hr:=af pr;have Hs:Hid (ag wr (w.heap.size+1) 39 [.bool (aj (dN X)),.string (bs (nt (dN X).natAbs)),.int .i64 (dE X)]):=ps;have HX:=af hX;replace Hb:=af pb;clear pr ps pb hX;obtain⟨r0,ah,r1,ai,r2,aB⟩:=Hr.out.g3;obtain⟨s0,s1,s2⟩:=Hs.out.c3;go_wp2;clear r0 ah r1 ai r2 aB s0 s1 s2;refine eK (bf wr (w.heap.size) 0 [.bool (aj (dN X)),.string (bs (nt (dN X).natAbs)),.int .i64 (dE X)]) bI ?_;intro w9 hs;replace Hr:=cp Hr hs;replace Hs:=kS Hs hs zo;obtain⟨r0,ah,r1,ai,r2,aB⟩:=Hr.out.g3;obtain⟨s0,s1,s2⟩:=Hs.out.c3;replace Hb:=bS Hb hs ZS;clear hs;refine bodyPost_ret (v:=bQ X) (by simp[results,Tryz.results157,go_sem,r0,r1,r2]) rfl ⟨by rw[HX.out],Hb.out⟩
def iH (rows:List (List Raw))(n a b:Nat):Dyadic:=sL ((rows.getD a []).map ar) ((rows.getD b []).map ar) n
def BO (sq:Nat->Nat->Dyadic)(a b:Nat)(s:Nat×Nat×Dyadic):Nat×Nat×Dyadic:=if 0<aL (sq a b-s.2.2)then(a,b,sq a b)else s
def wh (sq:Nat->Nat->Dyadic)(a:Nat):Nat->Nat->Nat×Nat×Dyadic->Nat×Nat×Dyadic
 |0,_,s=>s
 |k+1,b,s=>wh sq a k (b+1) (BO sq a b s)
def sB (sq:Nat->Nat->Dyadic)(L:Nat):Nat->Nat->Nat×Nat×Dyadic->Nat×Nat×Dyadic
 |0,_,s=>s
 |k+1,a,s=>sB sq L k (a+1) (wh sq a (L-(a+1)) (a+1) s)
def gW (sq:Nat->Nat->Dyadic)(L:Nat):Nat×Nat×Dyadic:=sB sq L L 0 (0,1,sq 0 1)
theorem ahS (sq:Nat->Nat->Dyadic)(Q:Nat×Nat×Dyadic->Prop)(L a k b:Nat)(s:Nat×Nat×Dyadic)(hs:Q s)(hab:a<b)(hb:b+k<=L)(h:∀a b,a<b->b<L->Q (a,b,sq a b)):Q (wh sq a k b s):=by
 induction k generalizing b s with
 |zero=>exact hs
 | succ k ih=>
   unfold wh;refine ih (b+1) _ ?_ zo zo;unfold BO;split
   . exact h a b hab zo
   . exact hs
theorem ahR (sq:Nat->Nat->Dyadic)(Q:Nat×Nat×Dyadic->Prop)(L k a:Nat)(s:Nat×Nat×Dyadic)(hs:Q s)(hb:a+k<=L)(h:∀a b,a<b->b<L->Q (a,b,sq a b)):Q (sB sq L k a s):=by
 induction k generalizing a s with
 |zero=>exact hs
 |succ k ih=>unfold sB;exact ih (a+1) _ (ahS sq Q L a _ (a+1) s hs zo zo h) zo
theorem ahT (sq:Nat->Nat->Dyadic)(L:Nat)(hL:2<=L):(gW sq L).1<(gW sq L).2.1/\(gW sq L).2.1<L/\(gW sq L).2.2=sq (gW sq L).1 (gW sq L).2.1:=
 ahR sq (λs=>s.1<s.2.1/\s.2.1<L/\s.2.2=sq s.1 s.2.1) L L 0 (0,1,sq 0 1) ⟨Nat.zero_lt_one,hL,rfl⟩ zo (λa b h1 h2=>⟨h1,h2,rfl⟩)
abbrev Ao (s:Nat×Nat×Dyadic):List Value:=[.int .i64 (s.1:Int),.int .i64 (s.2.1:Int),.bool (aj (dN s.2.2)),.string (bs (nt (dN s.2.2).natAbs)),.int .i64 (dE s.2.2)]
theorem At.drew {w:World}{a:Option Addr}{cs:List Value}(h:At w a cs):At w.drew a cs:=h
theorem At.alloc {w:World}{a:Option Addr}{cs:List Value}(h:At w a cs)(o:Obj):At (w.alloc o) a cs:=h.below zl
theorem akR (rows:List (List Raw))(n B x y:Nat)(a:Option Addr)(cap:Nat)(a':Option Addr)(cap':Nat)(D:Dyadic)(w:World)(hx:x<rows.length)(hy:y<rows.length)(hn:n<=8)(hrow:∀r∈rows,r.length=n)(hfit:∀r∈rows,∀c∈r,Fit B c)(hB:B<=10000000)
 (hD:iH rows n x y=D) (ha:At w a (rows[x].flatMap bJ)) (ha':At w a' (rows[y].flatMap bJ)) (hT:au w):
 Calls Tryz.prog 157 #[.slice a rows[x].length cap,.slice a' rows[y].length cap'] w λe w'=>e=.returned (bQ D)/\Bw w w':=by
 have h1:=hrow _ (List.getElem_mem hx);have h2:=hrow _ (List.getElem_mem hy);have e1:rows.getD x []=rows[x]:=by simp[hx]
 have e2:rows.getD y []=rows[y]:=by simp[hy]
 unfold iH at hD;rw[e1,e2]at hD;rw[h1,h2,<-hD];exact akQ a n cap rows[x] a' cap' rows[y] B w h1 h2 hn ha ha' (hfit _ (List.getElem_mem hx)) (hfit _ (List.getElem_mem hy)) hB hT
theorem XO {rows:List (List Raw)}{n B:Nat}(hfit:∀r∈rows,∀c∈r,Fit B c)(x y:Nat):Sm (2*B+2+n) (iH rows n x y):=by
 have h:∀z,∀c∈(rows.getD z []).map ar,Sm B c:=λz c hc=>by
  obtain⟨u,hu,rfl⟩:=List.mem_map.1 hc;by_cases hz:z<rows.length
  . have e:rows.getD z []=rows[z]:=by simp[hz]
    rw[e]at hu;exact(hfit _ (List.getElem_mem hz) u hu).2
  . have e:rows.getD z []=[]:=by simp[List.getD_eq_getElem?_getD,List.getElem?_eq_none (by omega:rows.length<=z)]
    rw[e]at hu;cases hu
 exact XP (h x) (h y) n
theorem ahX (a:Option Addr)(L cap n:Nat)(rows:List (List Raw))(B:Nat)(w:World)(hL:rows.length=L)(hL2:2<=L)(hL9:L<=9)(hn:n<=8)(hrow:∀r∈rows,r.length=n)(ha:cn w a rows)
 (hfit:∀r∈rows,∀c∈r,Fit B c) (hB:B<=10000000) (hT:au w):
 Calls Tryz.prog 102 #[.slice a L cap] w λe w'=>e=.returned (.agg (Ao (gW (iH rows n) L)).toArray)/\Bw w w':=by
 obtain⟨sq,ud⟩:=az (iH rows n);have hsm:∀x y,Sm (2*B+10) (sq x y):=λx y=>by rw[<-ud];exact(XO hfit x y).mono zo
 have hcall:∀x y (hx:x<rows.length) (hy:y<rows.length) (a1:Option Addr) (c1:Nat) (a2:Option Addr) (c2:Nat) (W:World),At W a1 (rows[x].flatMap bJ)->At W a2 (rows[y].flatMap bJ)->au W->
  Calls Tryz.prog 157 #[.slice a1 rows[x].length c1,.slice a2 rows[y].length c2] W λe w'=>e=.returned (bQ (sq x y))/\Bw W w':=λx y hx hy a1 c1 a2 c2 W h1 h2 h3=>
  akR rows n B x y a1 c1 a2 c2 (sq x y) W hx hy hn hrow hfit hB (by rw[<-ud]) h1 h2 h3
 obtain⟨F,hF⟩:=az (gW (iH rows n) L);rw[hF];rw[ud]at hF;obtain⟨HL,Ha,IZ,iX,HF,HT,bY⟩:=jC hL ha hsm hcall hF hT hT;clear hL ha hsm hcall hF hT hfit hrow ud;obtain⟨X,hX⟩:=az (sq 0 1);have HX:=af hX;clear hX;obtain⟨W,cL,Hb,Hr⟩:=gX w 136 [.int .i64 0,.int .i64 0,.bool false,.string ⟨#[]⟩,.int .i64 0];obtain⟨r0,ah,r1,ai,r2,aB,r3,aY,r4,bo⟩:=Hr.out.g5;have HT:Hid (au W):=HT.out.below Hb.out;have HS:Hid (cn W a rows):=Ha.out.below Hb.out;go_enter Tryz.func102,Tryz.ntmps102;have lr:=Hr.out.lt;obtain⟨b0,o0,a1,c1,lw,hc0,mf⟩:=HS.out.row 0 (by rw[HL.out];omega);obtain⟨mX,pp,a2,c2,gv,hc1,mg⟩:=HS.out.row 1 (by rw[HL.out];omega);obtain⟨rfl,rfl⟩:mX=b0/\pp=o0:=by rw[lw]at gv;simp at gv;exact⟨gv.1.symm,gv.2.symm⟩
 clear gv;have i0:=ui L cap 0 0 lw zo rfl;have i1:=ui L cap 1 1 lw zo rfl;rw[Nat.mul_one]at i0 i1;rw[Nat.add_zero]at i0 hc0;have mR:=af lw;have MA:mX<W.heap.size:=World.block_lt_of_cell? W _ hc0;have rX:=λW'=>iX.out 0 1 (by rw[HL.out];omega) (by rw[HL.out];omega) a1 c1 a2 c2 W';rw[HX.out]at rX;obtain⟨n0,hn0⟩:=az ((rows[0]'(by rw[HL.out];omega)).length);obtain⟨n1,dY⟩:=az ((rows[1]'(by rw[HL.out];omega)).length);rw[hn0]at hc0;rw[dY]at hc1;simp only[hn0,dY]at rX;obtain⟨uY,kP,nV⟩:=cP rX mf mg;have Hu:Hid (bg W mX pp [.slice a1 n0 c1]):=λj hj=>by
  obtain rfl:j=0:=by simp at hj;omega
  exact hc0
 have Hv:Hid (bg W mX (pp+1) [.slice a2 n1 c2]):=λj hj=>by
  obtain rfl:j=0:=by simp at hj;omega
  exact hc1
 clear rX mf mg lw hn0 dY hc0 hc1;go_upto_region 1 with fail
 go_cut[3] (λs3 wx=>∃g:Nat,s3=.pointer (some ⟨g,0,none⟩)/\W.heap.size<=g/\ag wx g 136 (Ao (0,1,X))/\Bw W wx);case first=>
  have u0:=Hu.out.w1;have v0:=Hv.out.w1;have HT:Hid (au W):=HT.out;refine NW (λw'=>w'.cell? ⟨mX,pp,none⟩=some (.slice a1 n0 c1)/\w'.cell? ⟨mX,pp+1,none⟩=some (.slice a2 n1 c2)) (λi=>Nat.blt i 10) 7 9 [(8,true),(9,false),(10,false)] [(7,false),(8,true),(10,false)] [0,1,2,3,4,5,6] zk zk rfl rfl zk zc ⟨u0,v0⟩ ?_;iterate 7 (refine Nh rfl rfl (v:=?_) (λw' hw'=>?_) ?_;rotate_left;(focus obtain⟨q0,q1⟩:=hw';go_simp;try with_reducible rfl);try simp only[UU])
  refine Ng rfl rfl rfl rfl (λK hK=>?_) (λK hK=>?_)
  . go_simp;with_reducible refine(uY.out _ (by first|exact kP.out|exact At.drew kP.out) (by first|exact nV.out|exact At.drew nV.out) (by first|exact HT.out|exact au.drew HT.out|exact au.alloc HT.out _|exact au.drew (au.alloc HT.out _) |exact au.alloc (au.drew HT.out) _)).mono ?_
    rintro e w5 ⟨rfl,hq⟩;have cz:Bw W w5:=aK hq;refine hK _ _ ⟨cell_later cz u0,cell_later cz v0⟩ ?_;try simp only[UU]
    refine pT rfl rfl ?_;try simp only[UU]
    refine aF rfl rfl (λK hK=>?_);go_simp;refine hK _ _ (λ_=>⟨aH (cell_later cz u0),aH (cell_later cz v0)⟩) ?_;try simp only[UU]
    refine aF rfl rfl (λK hK=>?_);go_simp;refine hK _ _ (λh=>absurd h zd) ?_;simp only[aN];go_wp2_with fail;go_meet;exact⟨w5.heap.size,rfl,cz.size,ag.new _ _ _,cz.alloc cz.size _⟩
  . go_simp;refine hK _ _ ⟨aH u0,aH v0⟩ ?_;try simp only[UU]
    refine aF rfl rfl (λK hK=>?_);go_simp;with_reducible refine(uY.out (W.alloc (.cells #[.int .i64 0,.int .i64 0,.bool false,.string ⟨#[]⟩,.int .i64 0] 136)).drew (kP.out.alloc _).drew (nV.out.alloc _).drew (by first|exact HT.out|exact au.drew HT.out|exact au.alloc HT.out _|exact au.drew (au.alloc HT.out _) |exact au.alloc (au.drew HT.out) _)).mono ?_
    rintro e w5 ⟨rfl,hq⟩;have cz:Bw W w5:=ow hq;have Hn:ag w5 W.heap.size 136 [.int .i64 0,.int .i64 0,.bool false,.string ⟨#[]⟩,.int .i64 0]:=ag.below (ag.new W.drew 136 [.int .i64 0,.int .i64 0,.bool false,.string ⟨#[]⟩,.int .i64 0]) hq;have n0':=Hn.cell 0;have ww:=Hn.cell 1;have wy:=Hn.cell 2;have n3':=Hn.cell 3;have n4':=Hn.cell 4;have eP:=Hn.free 0;have eQ:=Hn.free 1;have eT:=Hn.free 2;have fp:=Hn.free 3;have fq:=Hn.free 4;refine hK _ _ (λ_=>⟨cell_later cz u0,cell_later cz v0⟩) ?_;try simp only[UU]
    refine pT rfl rfl ?_;try simp only[UU]
    refine aF rfl rfl (λK hK=>?_);go_simp;refine hK _ _ (λh=>absurd h zd) ?_;simp only[aN];go_wp2_with fail;go_meet;exact⟨W.heap.size,rfl,Nat.le_refl _,((((Hn.set 0 _).set 1 _).set 2 _).set 3 _).set 4 _,((((cz.sc W.heap.size 0 (Nat.le_refl _) _).sc W.heap.size 1 (Nat.le_refl _) _).sc W.heap.size 2 (Nat.le_refl _) _).sc W.heap.size 3 (Nat.le_refl _) _).sc W.heap.size 4 (Nat.le_refl _) _⟩
 case rest=>
  obtain⟨g,rfl,hg,qd,qb⟩:=hcut;have Hd:=af qd;replace Hr:=af (Hr.out.below qb);replace Hb:=af (aG Hb.out qb);have lg:=Hd.out.lt;have lr2:=Hr.out.lt;have szW:=qb.size;clear qd qb r0 r1 r2 r3 r4 ah ai aB aY bo i0 i1 uY kP nV Hu Hv mR HS HT;have OO:Hid (Sm (2*B+10) X):=by rw[<-HX.out];exact IZ.out 0 1
  have Cz:Hid (sB sq L (L-0) 0 (0,1,X)=F):=by rw[<-HX.out];exact HF.out
  go_wp2_with fail;go_loopw[18] (λx wr=>∃(k:Nat) (s:Nat×Nat×Dyadic),k<=L/\x=.int .i64 (k:Int)/\sB sq L (L-k) k s=F/\Sm (2*B+10) s.2.2/\ag wr w.heap.size 136 [.int .i64 0,.int .i64 0,.bool false,.string ⟨#[]⟩,.int .i64 0]/\ag wr g 136 (Ao s)/\Bw w wr) (λx _=>L-(intOf x).toNat);case atStart=>exact⟨0,(0,1,X),Nat.zero_le _,rfl,Cz.out,OO.out,Hr.out,Hd.out,Hb.out⟩
  case round=>
   clear Hr Hd Hb Cz OO;obtain⟨k,s,hk,rfl,hF,hs,pr,pd,pb⟩:=hrel;by_cases hlt:k<L
   . obtain⟨Hr,Hd,Hb,Hs⟩:=dt pr pd pb hs;have yS:Hid (sB sq L (L-(k+1)) (k+1) (wh sq k (L-(k+1)) (k+1) s)=F):=by rw[show L-k=L-(k+1)+1 by omega]at hF;exact hF
     clear pr pd pb hs hF;go_wp2_with fail;go_loopw[5] (λx wr=>∃(b:Nat) (s:Nat×Nat×Dyadic),b<=L/\k<b/\x=.int .i64 (b:Int)/\sB sq L (L-(k+1)) (k+1) (wh sq k (L-b) b s)=F/\Sm (2*B+10) s.2.2/\ag wr w.heap.size 136 [.int .i64 0,.int .i64 0,.bool false,.string ⟨#[]⟩,.int .i64 0]/\ag wr g 136 (Ao s)/\Bw w wr) (λx _=>L-(intOf x).toNat);case atStart=>exact⟨k+1,s,by omega,by omega,by go_num,yS.out,Hs.out,Hr.out,Hd.out,Hb.out⟩
     case round=>
      clear Hr Hd Hb yS Hs;obtain⟨b,s,hb1,hb2,rfl,hF,hs,pr,pd,pb⟩:=hrel;obtain⟨Hr,Hd,Hb,Hs,Oq⟩:=iA pr pd pb hs hF;clear pr pd pb hs hF;by_cases aZ:b<L
      . obtain⟨b0,o0,a1,c1,lw,hc0,mf⟩:=(Ha.out.below Hb.out).row k (by rw[HL.out];omega);obtain⟨mX,pp,a2,c2,gv,hc1,mg⟩:=(Ha.out.below Hb.out).row b (by rw[HL.out];omega);obtain⟨rfl,rfl⟩:mX=b0/\pp=o0:=by rw[lw]at gv;simp at gv;exact⟨gv.1.symm,gv.2.symm⟩
        clear gv;have i0:=ui L cap k (k:Int) lw hlt rfl;have i1:=ui L cap b (b:Int) lw aZ rfl;rw[Nat.mul_one]at i0 i1;have rX:=λW'=>iX.out k b (by rw[HL.out];omega) (by rw[HL.out];omega) a1 c1 a2 c2 W';obtain⟨Y,hY⟩:=az (sq k b);have ja:=IZ.out k b;rw[hY]at rX ja;obtain⟨n0,hn0⟩:=az ((rows[k]'(by rw[HL.out];omega)).length);obtain⟨n1,dY⟩:=az ((rows[b]'(by rw[HL.out];omega)).length);rw[hn0]at hc0;rw[dY]at hc1;simp only[hn0,dY]at rX;obtain⟨uY,kP,nV,HY,yZ,HT⟩:=iB rX mf mg hY ja (bY.out.below Hb.out);have Hu:Hid (bg wr mX (pp+k) [.slice a1 n0 c1]):=λj hj=>by
         obtain rfl:j=0:=by simp at hj;omega
         exact hc0
        have Hv:Hid (bg wr mX (pp+b) [.slice a2 n1 c2]):=λj hj=>by
         obtain rfl:j=0:=by simp at hj;omega
         exact hc1
        clear rX mf mg lw hn0 dY hc0 hc1 hY ja;have ls1:=Hr.out.lt;have ls2:=Hd.out.lt;go_upto_region 8 with fail
        go_cut[6] (λs6 wx=>∃g':Nat,s6=.pointer (some ⟨g',0,none⟩)/\wr.heap.size<=g'/\ag wx g' 39 [.bool (aj (dN Y)),.string (bs (nt (dN Y).natAbs)),.int .i64 (dE Y)]/\Bw wr wx);case first=>
         have u0:=Hu.out.w1;have v0:=Hv.out.w1;refine NW (λw'=>w'.cell? ⟨mX,pp+k,none⟩=some (.slice a1 n0 c1)/\w'.cell? ⟨mX,pp+b,none⟩=some (.slice a2 n1 c2)) (λi=>Nat.blt i 10) 8 9 [(9,false),(10,false)] [(8,false),(10,false)] [0,1,2,3,4,5,6,7] zk zk rfl rfl zk zc ⟨u0,v0⟩ ?_;iterate 8 (refine Nh rfl rfl (v:=?_) (λw' hw'=>?_) ?_;rotate_left;(focus obtain⟨q0,q1⟩:=hw';go_simp;try with_reducible rfl);try simp only[UU])
         refine Ng rfl rfl rfl rfl (λK hK=>?_) (λK hK=>?_)
         . go_simp;with_reducible refine(uY.out _ (by first|exact kP.out|exact At.drew kP.out) (by first|exact nV.out|exact At.drew nV.out) (by first|exact HT.out|exact au.drew HT.out|exact au.alloc HT.out _|exact au.drew (au.alloc HT.out _) |exact au.alloc (au.drew HT.out) _)).mono ?_
           rintro e w5 ⟨rfl,hq⟩;have cz:Bw wr w5:=aK hq;refine hK _ _ ⟨cell_later cz u0,cell_later cz v0⟩ ?_;try simp only[UU]
           refine aF rfl rfl (λK hK=>?_);go_simp;refine hK _ _ (λ_=>⟨aH (cell_later cz u0),aH (cell_later cz v0)⟩) ?_;try simp only[UU]
           refine aF rfl rfl (λK hK=>?_);go_simp;refine hK _ _ (λh=>absurd h zd) ?_;simp only[aN];go_wp2_with fail;go_meet;exact⟨w5.heap.size,rfl,cz.size,ag.new _ _ _,cz.alloc cz.size _⟩
         . go_simp;refine hK _ _ ⟨aH u0,aH v0⟩ ?_;try simp only[UU]
           refine aF rfl rfl (λK hK=>?_);go_simp;with_reducible refine(uY.out (wr.alloc (.cells #[.bool false,.string ⟨#[]⟩,.int .i64 0] 39)).drew (kP.out.alloc _).drew (nV.out.alloc _).drew (by first|exact HT.out|exact au.drew HT.out|exact au.alloc HT.out _|exact au.drew (au.alloc HT.out _) |exact au.alloc (au.drew HT.out) _)).mono ?_
           rintro e w5 ⟨rfl,hq⟩;have cz:Bw wr w5:=ow hq;have Hn:ag w5 wr.heap.size 39 [.bool false,.string ⟨#[]⟩,.int .i64 0]:=ag.below (ag.new wr.drew 39 [.bool false,.string ⟨#[]⟩,.int .i64 0]) hq;obtain⟨n0',eP,ww,eQ,wy,eT⟩:=Hn.g3;refine hK _ _ (λ_=>⟨cell_later cz u0,cell_later cz v0⟩) ?_;try simp only[UU]
           refine aF rfl rfl (λK hK=>?_);go_simp;refine hK _ _ (λh=>absurd h zd) ?_;simp only[aN];go_wp2_with fail;go_meet;exact⟨wr.heap.size,rfl,Nat.le_refl _,((Hn.set 0 _).set 1 _).set 2 _,((cz.sc wr.heap.size 0 (Nat.le_refl _) _).sc wr.heap.size 1 (Nat.le_refl _) _).sc wr.heap.size 2 (Nat.le_refl _) _⟩
        case rest=>
         obtain⟨g',rfl,hg',qn,qb⟩:=hcut;have Hn:=af qn;replace Hr:=af (Hr.out.below qb);replace Hd:=af (Hd.out.below qb);replace Hb:=af (aG Hb.out qb);have CG:=af (HT.out.below qb);clear qn qb Hu Hv kP nV uY HT i0 i1;obtain⟨si,sj,sx⟩:=s;have HfY:Hid (Ok (aj (dN Y),nt (dN Y).natAbs,dE Y)):=(yZ.out.fit zo).1;have Ik:Hid (Ok (aj (dN sx),nt (dN sx).natAbs,dE sx)):=(Hs.out.fit zo).1;obtain⟨c,hc⟩:=az (aL (Y-sx));have HC:Hid (aL (ar (aj (dN Y),nt (dN Y).natAbs,dE Y)-ar (aj (dN sx),nt (dN sx).natAbs,dE sx))=c):=by
          show aL (ar (canon Y)-ar (canon sx))=c
          rw[bC,bC];exact hc
         have Ot:Hid (sB sq L (L-(k+1)) (k+1) (wh sq k (L-(b+1)) (b+1) (BO sq k b (si,sj,sx)))=F):=by have h:=Oq.out;rw[show L-b=L-(b+1)+1 by omega]at h;exact h
         have hstep:BO sq k b (si,sj,sx)=if 0<c then(k,b,Y)else(si,sj,sx):=by
          unfold BO;rw[HY.out];show(if 0<aL (Y-sx)then _ else _)=_
          rw[hc]
         have gj:=af hstep;clear hc hstep;obtain⟨d0,Kh,d1,Ki,d2,Kj,d3,RL,d4,RN⟩:=Hd.out.g5;obtain⟨n0,n1,n2⟩:=Hn.out.c3;obtain⟨r0,r1,r2,r3,r4⟩:=Hr.out.c5;go_wp2_with fail;refine(oC _ _ _ _ _ _ c HC.out _ HfY.out Ik.out CG.out).mono ?_;rintro e w7 ⟨rfl,ae⟩;clear d0 Kh d1 Ki d2 Kj d3 RL d4 RN n0 n1 n2 r0 r1 r2 r3 r4;replace Hd:=kB Hd ae;replace Hn:=kB Hn ae;replace Hr:=kB Hr ae;obtain⟨d0,Kh,d1,Ki,d2,Kj,d3,RL,d4,RN⟩:=Hd.out.g5;obtain⟨n0,n1,n2⟩:=Hn.out.c3;obtain⟨r0,r1,r2,r3,r4⟩:=Hr.out.c5;replace Hb:=ak Hb ae;clear ae;by_cases hc0:0<c
         . go_wp2;go_roundw;case rel=>
            refine⟨b+1,(k,b,Y),by omega,by omega,by go_num,?_,yZ.out,?_,?_,?_⟩
            . have h:=Ot.out;rw[gj.out,if_pos hc0]at h;exact h
            . exact((((Hr.out.so g 0 zo _).so g 1 zo _).so g 2 zo _).so g 3 zo _).so g 4 zo _
            . exact((((Hd.out.set 0 _).set 1 _).set 2 _).set 3 _).set 4 _
            . exact((((Hb.out.sc g 0 zo _).sc g 1 zo _).sc g 2 zo _).sc g 3 zo _).sc g 4 zo _
           case measure=>simp[intOf];omega
         . go_wp2;go_roundw;case rel=>refine⟨b+1,(si,sj,sx),by omega,by omega,by go_num,?_,Hs.out,Hr.out,Hd.out,Hb.out⟩;have h:=Ot.out;rw[gj.out,if_neg zo]at h;exact h
           case measure=>simp[intOf];omega
      . obtain rfl:b=L:=by omega
        go_wp2;go_roundw;case rel=>refine⟨k+1,s,by omega,by go_num,?_,Hs.out,Hr.out,Hd.out,Hb.out⟩;have h:=Oq.out;rw[Nat.sub_self]at h;exact h
        case measure=>simp[intOf];omega
   . obtain rfl:k=L:=by omega
     rw[Nat.sub_self]at hF;have CB:Hid (s=F):=hF;obtain⟨si,sj,sx⟩:=s;obtain⟨Hr,Hd,Hb⟩:=cP pr pd pb;clear pr pd pb hF hs;obtain⟨d0,d1,d2,d3,d4⟩:=Hd.out.c5;obtain⟨r0,ah,r1,ai,r2,aB,r3,aY,r4,bo⟩:=Hr.out.g5;go_wp2;clear d0 d1 d2 d3 d4 r0 ah r1 ai r2 aB r3 aY r4 bo;refine eK (bf wr (w.heap.size) 0 [.int .i64 (si:Int),.int .i64 (sj:Int),.bool (aj (dN sx)),.string (bs (nt (dN sx).natAbs)),.int .i64 (dE sx)]) bI ?_;intro w9 hs;replace Hd:=kS Hd hs zo;replace Hr:=cp Hr hs;obtain⟨d0,d1,d2,d3,d4⟩:=Hd.out.c5;obtain⟨r0,ah,r1,ai,r2,aB,r3,aY,r4,bo⟩:=Hr.out.g5;replace Hb:=bS Hb hs ZS;clear hs;refine bodyPost_ret (v:=.agg (Ao (si,sj,sx)).toArray) (by simp[results,Tryz.results102,go_sem,r0,r1,r2,r3,r4]) rfl ⟨by rw[<-CB.out],Hb.out⟩
def DV (r:List Raw):List Raw:=r.map λx=>canon (ar x)
theorem afp (r:List Raw):(DV r).length=r.length:=by simp[DV]
theorem afo (r:List Raw):(DV r).flatMap bJ=dC (r.map ar):=by rw[Aj,List.map_map];rfl
def Own2 (e:TypeId)(w:World)(base:Nat)(R:List (List Dyadic))(k:Nat)(v:Value):Prop:=
 ∃vals:List Value,vals.length=k/\w.ownsRow base e 1 v k vals/\∀i (h:i<vals.length),∃a c,vals[i]=.slice a (R.getD i []).length c/\At w a (dC (R.getD i []))/\∀b o,a=some ⟨b,o,none⟩->some b≠v.ownBlock/\b<w.heap.size
theorem Own2.nil (e:TypeId)(w:World)(base:Nat)(R:List (List Dyadic)):Own2 e w base R 0 (.slice none 0 0):=
 ⟨[],rfl,World.ownsRow_nil _ _ _ _,λ_ h=>absurd h (Nat.not_lt_zero _)⟩
theorem Own2.below {e:TypeId}{w w':World}{base k:Nat}{R:List (List Dyadic)}{v:Value}(h:Own2 e w base R k v)(hb:Bw w w'):Own2 e w' base R k v:=by obtain⟨vals,hl,ho,hi⟩:=h;refine⟨vals,hl,ownsRow_below ho hb,λi h=>?_⟩;obtain⟨a,c,h1,h2,h3⟩:=hi i h;exact⟨a,c,h1,h2.below hb,λb o e=>⟨(h3 b o e).1,Nat.lt_of_lt_of_le (h3 b o e).2 hb.size⟩⟩
theorem Own2.push {e:TypeId}{w w':World}{base k:Nat}{R:List (List Dyadic)}{v v':Value}{vals:List Value}(hl:vals.length=k)(hi:∀i (h:i<vals.length),∃a c,vals[i]=.slice a (R.getD i []).length c/\At w a (dC (R.getD i []))/\∀b o,a=some ⟨b,o,none⟩->some b≠v.ownBlock/\b<w.heap.size)
 {a:Option Addr} {c:Nat} (ha:At w a (dC (R.getD k []))) (hab:∀b o,a=some ⟨b,o,none⟩->some b≠v.ownBlock/\b<w.heap.size)
 (ho:w'.ownsRow base e 1 v' (k+1) (vals++[.slice a (R.getD k []).length c])) (hg:w.grownBy w' v.ownBlock) (jU:v'.ownBlock=v.ownBlock\/v'.ownBlock=some w.heap.size):Own2 e w' base R (k+1) v':=by
 have hne:∀b,some b≠v.ownBlock->b<w.heap.size->some b≠v'.ownBlock:=by
  intro b h1 h2;rcases jU with h|h
  . rw[h];exact h1
  . rw[h];intro h3;simp at h3;omega
 refine⟨_,by simp[hl],ho,λi h=>?_⟩;by_cases hk:i<vals.length
 . obtain⟨a1,c1,h1,h2,h3⟩:=hi i hk;refine⟨a1,c1,by rw[List.getElem_append_left hk];exact h1,h2.grown hg (λb o e=>(h3 b o e).1),λb o e=>⟨hne b (h3 b o e).1 (h3 b o e).2,Nat.lt_of_lt_of_le (h3 b o e).2 hg.size⟩⟩
 . have hik:i=k:=by simp at h;omega
   subst hik;refine⟨a,c,?_,ha.grown hg (λb o e=>(hab b o e).1),λb o e=>⟨hne b (hab b o e).1 (hab b o e).2,Nat.lt_of_lt_of_le (hab b o e).2 hg.size⟩⟩;rw[List.getElem_append_right zo];simp[hl]
theorem FI {W:World}{base:Nat}{e:TypeId}{size:Nat}{a:Option Addr}{n c:Nat}{xs:List Value}(h:W.ownsRow base e size (.slice a n c) n xs):n<=c:=by
 rcases h.2 with⟨h1,h2⟩ |⟨g,cap,cur,h1,_,_,h2,_⟩
 . omega
 . simp at h1;omega
theorem Own2.tbl {e:TypeId}{w:World}{base k:Nat}{R:List (List Raw)}{v:Value}(h:Own2 e w base (R.map λr=>r.map ar) k v)(hk:R.length=k):∃a c,v=.slice a k c/\k<=c/\cn w a (R.map DV):=by
 obtain⟨vals,hl,ho,hi⟩:=h;obtain⟨a,c,hv,hat,_⟩:=eI ho;subst hv;refine⟨a,c,rfl,FI ho,vals,by simp[hl,hk],hat,λi h1 h2=>?_⟩;obtain⟨a1,c1,e1,e2,_⟩:=hi i h2;have hi1:i<R.length:=by simpa using h1
 have eg:(R.map λr=>r.map ar).getD i []=R[i].map ar:=by simp[hi1]
 rw[eg]at e1 e2;refine⟨a1,c1,?_,?_⟩
 . rw[e1];simp[afp]
 . rw[List.getElem_map,afo];exact e2
theorem ahU {rows:List (List Raw)}{n B L:Nat}(hfit:∀r∈rows,∀c∈r,Fit B c)(hL:2<=L):Sm (2*B+2+n) (gW (iH rows n) L).2.2:=by rw[(ahT (iH rows n) L hL).2.2];exact XO hfit _ _
theorem ahY (a:Option Addr)(L cap n:Nat)(rows:List (List Raw))(B:Nat)(w:World)(hL:rows.length=L)(hv:lN rows=n)(hn:1<=n)(ha:cn w a rows)
 (hfit:∀r∈rows,∀c∈r,Fit B c) (hB:B<=10000000) (hT:au w):
 Calls Tryz.prog 56 #[.slice a L cap] w λe w'=>e=.returned (.tuple #[.int .i64 ((gW (iH rows n) L).1:Int),.int .i64 ((gW (iH rows n) L).2.1:Int),bQ (gW (iH rows n) L).2.2,.int .i64 0])/\Bw w w':=by
 obtain⟨c1,c2,c3,c4⟩:=NQ hv zo;have hvars:=λW=>λ(h:cn W a rows)=>NR a L cap rows W hL zo h;have LD:=λW=>λ(h:cn W a rows) (hT:au W)=>ahX a L cap n rows B W hL zo zo zo (λr hr=>by have:=c4 r hr;omega) h hfit hB hT;rw[hv]at hvars;obtain⟨⟨i,j,X⟩,hF⟩:∃F,gW (iH rows n) L=F:=⟨_,rfl⟩;simp only[hF]at LD;rw[hF];obtain⟨abO,aaL,Ha,HT⟩:=dt hvars LD ha hT;have h0:((n:Int)==0)=false:=by simp;omega
 have h0':¬(n:Int)=0:=by omega
 clear hvars LD ha hT hF hfit hv c1 c2 c3 c4 hL;obtain⟨W,cL,Hb,Hr⟩:=gX w 39 [.bool false,.string ⟨#[]⟩,.int .i64 0];obtain⟨r0,ah,r1,ai,r2,aB⟩:=Hr.out.g3;go_enter Tryz.func56,Tryz.ntmps56;go_wp2_with fail;refine(abO.out _ (Ha.out.below Hb.out)).mono ?_;rintro e w1 ⟨rfl,ae⟩;clear r0 ah r1 ai r2 aB;replace Hr:=kB Hr ae;obtain⟨r0,ah,r1,ai,r2,aB⟩:=Hr.out.g3;replace Hb:=ak Hb ae;clear ae;go_wp2_with fail;refine(aaL.out _ (Ha.out.below Hb.out) (HT.out.below Hb.out)).mono ?_;rintro e w2 ⟨rfl,ae⟩;clear r0 ah r1 ai r2 aB;replace Hr:=kB Hr ae;obtain⟨r0,ah,r1,ai,r2,aB⟩:=Hr.out.g3;replace Hb:=ak Hb ae;clear ae;have aps:=Hr.out.lt;obtain⟨w3,anB,ae,Hx⟩:=bH w2 136 [.int .i64 (i:Int),.int .i64 (j:Int),.bool (aj (dN X)),.string (bs (nt (dN X).natAbs)),.int .i64 (dE X)];clear r0 ah r1 ai r2 aB;replace Hr:=kB Hr ae;obtain⟨r0,ah,r1,ai,r2,aB⟩:=Hr.out.g3;obtain⟨x0,x1,x2,x3,x4⟩:=Hx.out.c5;replace Hb:=ak Hb ae;clear ae;go_wp2_with fail;refine cf (λw'=>w'.cell? ⟨w2.heap.size,0,none⟩=some (.int .i64 (i:Int))/\w'.cell? ⟨w2.heap.size,1,none⟩=some (.int .i64 (j:Int))/\w'.cell? ⟨w2.heap.size,2,none⟩=some (.bool (aj (dN X)))/\w'.cell? ⟨w2.heap.size,3,none⟩=some (.string (bs (nt (dN X).natAbs)))/\w'.cell? ⟨w2.heap.size,4,none⟩=some (.int .i64 (dE X))) (λi=>Nat.blt i 10) [(0,true),(1,true),(2,true),(3,true),(4,true),(5,true),(6,true),(7,true),(8,true),(9,true),(10,false),(11,false)] zk zk rfl zk zc ⟨x0,x1,x2,x3,x4⟩ ?_;iterate 10 (refine pT rfl rfl ?_ (by intro w' ⟨q0,q1,q2,q3,q4⟩;go_simp;try with_reducible rfl);try simp only[UU])
 refine aF rfl rfl (λK hK=>?_);go_simp;refine hK _ _ (λh=>absurd h zd) ?_;clear hK K;try simp only[UU]
 clear r0 ah r1 ai r2 aB x0 x1 x2 x3 x4;refine cj (bf w3 (w.heap.size) 0 [.bool (aj (dN X)),.string (bs (nt (dN X).natAbs)),.int .i64 (dE X)]) bI ?_;intro w4 hs;replace Hr:=cp Hr hs;replace Hx:=kS Hx hs zo;obtain⟨r0,ah,r1,ai,r2,aB⟩:=Hr.out.g3;obtain⟨x0,x1,x2,x3,x4⟩:=Hx.out.c5;replace Hb:=bS Hb hs ZS;clear hs;refine aF rfl rfl (λK hK=>?_);go_simp;refine hK _ _ (λh=>absurd h zd) ?_;clear hK K;try simp only[UU]
 simp only[aN];go_wp2;refine bodyPost_ret (v:=.tuple #[.int .i64 (i:Int),.int .i64 (j:Int),bQ X,.int .i64 0]) (by simp[results,Tryz.results56,go_sem,r0,r1,r2]) rfl ⟨rfl,?_⟩;(repeat first|exact Hb.out| (refine Below.setCell ?_ (by have:=Hb.out.size;first| (dsimp only;omega) | (show _<=_;omega) | (simp<;>omega)) _) | (refine Below.alloc ?_ zt _) |refine Below.drew ?_)
theorem Tryz.aqM :(Tryz.prog.info? 49).map (λi=>(i.zero,i.size,i.bytes))=some (some (.slice none 0 0),1,24):=by kernel_rfl
def iK (o p:List Raw):List Dyadic:=List.zipWith (λx y=>ar x-ar y) p o
theorem DI {o p:List Raw}(h:p.length=o.length):(iK o p).length=p.length:=by simp[iK,h]
theorem aeI (o p:List Raw)(k:Nat)(h:k<p.length)(h':k<o.length):(iK o p).take (k+1)=(iK o p).take k++[ar p[k]-ar o[k]]:=by unfold iK;rw[List.take_succ_eq_append_getElem zi];simp
theorem Own2.aqQ {e:TypeId}{w:World}{base k:Nat}{R:List (List Dyadic)}{v:Value}(h:Own2 e w base R k v)(hk:R.length=k):∃a c,v=.slice a k c/\k<=c/\cn w a (R.map λr=>r.map canon):=by
 obtain⟨vals,hl,ho,hi⟩:=h;obtain⟨a,c,hv,hat,_⟩:=eI ho;subst hv;refine⟨a,c,rfl,FI ho,vals,by simp[hl,hk],hat,λi h1 h2=>?_⟩;obtain⟨a1,c1,e1,e2,_⟩:=hi i h2;have hi1:i<R.length:=by simpa using h1
 have eg:R.getD i []=R[i]:=by simp[hi1]
 rw[eg]at e1 e2;refine⟨a1,c1,?_,?_⟩
 . rw[e1];simp
 . rw[List.getElem_map,<-Aj];exact e2
theorem Xq (b o cap m n:Nat)(rows:List (List Raw))(B:Nat)(w:World)(hL:rows.length=m+1)(hm:m<=8)(hcap:m+1<=cap)(nD:1<=m)(hn:1<=n)(hn8:n<=8)(hrow:∀r∈rows,r.length=n)(ha:cn w (some ⟨b,o,none⟩) rows)
 (hfit:∀r∈rows,∀c∈r,Fit B c) (hB:B<=10000000) (hT:au w):
 Calls Tryz.prog 95 #[.slice (some ⟨b,o,none⟩) (m+1) cap] w λe w'=>∃a' c',e=.returned (.slice a' m c')/\m<=c'/\
  cn w' a' (((rows.drop 1).map λp=>iK (rows.getD 0 []) p).map λr=>r.map canon)/\Bw w w':=by
 obtain⟨i0,hi,hz0,hz1,hz2⟩:=info_parts Tryz.aqJ;obtain⟨j0,hj,hy0,hy1,hy2⟩:=info_parts Tryz.aqM;obtain⟨S,hS⟩:=az ((rows.drop 1).map λp=>iK (rows.getD 0 []) p);have SZ:S.length=m:=by rw[<-hS];simp[hL]
 have AO:∀k (h0:0<rows.length) (h1:k+1<rows.length),S.getD k []=iK rows[0] rows[k+1]:=by
  intro k h0 h1;subst hS;have e0:rows.getD 0 []=rows[0]:=by simp[h0]
  rw[e0];have h2:k<(rows.drop 1).length:=by simp;omega
  simp[h1]
 rw[hS];have hcell:=λ(W:World) (h:cn W (some ⟨b,o,none⟩) rows) (k:Nat) (hk:k<rows.length)=>h.row k hk;obtain⟨Hi,fC,fJ,eF,Hj,lf,oh,lh,Zp,GA,OZ,HT⟩:=iR hi hz0 hz1 hz2 hj hy0 hy1 hy2 SZ AO hcell hT;obtain⟨Ha,zT,zF,HL⟩:=dt ha hrow hfit hL;clear hi hz0 hz1 hz2 hj hy0 hy1 hy2 hS SZ AO hcell ha hT hL hrow hfit;have e1:m+1-1=m:=by omega
 have e2:¬cap=1:=by omega
 go_enter Tryz.func95,Tryz.ntmps95;have Hb:Hid (Bw w w):=Below.refl _ _;go_wp2_with fail;obtain⟨r0,vU⟩:=az (rows[0]'(by rw[HL.out];omega));obtain⟨_,_,a0,c0,lw,hc0,mf⟩:=OZ.out w Ha.out 0 (by rw[HL.out];omega);obtain⟨rfl,rfl⟩:b=_/\o=_:=by simp at lw;exact lw
 have hn0:r0.length=n:=by rw[<-vU];exact zT.out _ (List.getElem_mem _)
 have AZ:∀x∈r0,Fit B x:=by rw[<-vU];exact zF.out _ (List.getElem_mem _)
 have ma:∀k (h1:k+1<rows.length),S.getD k []=iK r0 rows[k+1]:=λk h1=>by rw[GA.out k zo h1,vU]
 rw[vU]at hc0 mf;rw[hn0]at hc0;rw[Nat.add_zero]at hc0;have VR:=ui (m+1) cap 0 0 (show some (⟨b,o,none⟩:Addr)=some ⟨b,o,none⟩from rfl) zo rfl;rw[Nat.mul_one,Nat.add_zero]at VR;obtain⟨uQ,kP,rB,Ih,Gz⟩:=iA hc0 mf hn0 AZ ma;have MA:b<w.heap.size:=World.block_lt_of_cell? w _ hc0;clear hc0 mf hn0 AZ ma vU lw Hb;go_loopw[3,11] (λs3 x wr=>∃(k:Nat) (v:Value),k<=m/\x=.int .i64 (k:Int)/\v=s3/\Own2 49 wr w.heap.size S k v/\Bw w wr) (λ_ x _=>m-(intOf x).toNat);case atStart=>exact⟨0,_,Nat.zero_le _,rfl,rfl,Own2.nil _ _ _ _,Below.refl _ _⟩
 case round=>
  obtain⟨k,v,hk,rfl,rfl,pv,pb⟩:=hrel;by_cases hlt:k<m
  . have hk2:k+1<rows.length:=by rw[HL.out];omega
    obtain⟨p,gV⟩:=az (rows[k+1]);obtain⟨_,_,a1,c1,hab,hc1,hat⟩:=OZ.out wr (Ha.out.below pb) (k+1) hk2;obtain⟨rfl,rfl⟩:b=_/\o=_:=by simp at hab;exact hab
    have nH:p.length=n:=by rw[<-gV];exact zT.out _ (List.getElem_mem hk2)
    have ub:∀x∈p,Fit B x:=by rw[<-gV];exact zF.out _ (List.getElem_mem hk2)
    have rM:=Gz.out k hk2;rw[gV]at hc1 hat rM;rw[nH]at hc1;have oX:=ui m (cap-1) k (k:Int) (show some (⟨b,o+1,none⟩:Addr)=some ⟨b,o+1,none⟩from rfl) hlt rfl;rw[Nat.mul_one]at oX;have agh:wr.cell? ⟨b,o+1+k,none⟩=some (.slice a1 n c1):=by rw[show o+1+k=o+(k+1)by omega];exact hc1
    obtain⟨Z,hZ⟩:=az (iK r0 p);rw[hZ]at rM;obtain⟨ej,nZ,zQ,wX,HZ,aR,cZ⟩:=jC hat nH ub rM hZ pb pv;clear hat nH ub rM hZ pb pv hab gV hc1;have lM:=aR.out.size;obtain⟨wc,hwc⟩:∃wc,wc=wr:=⟨_,rfl⟩;subst hwc;go_wp2_with fail;go_loopw[6,17] (λs6 x wr=>∃(j:Nat) (v2:Value),j<=n/\x=.int .i64 (j:Int)/\v2=s6/\wr.ownsRow wc.heap.size 39 3 v2 j (dC (Z.take j))/\Bw wc wr) (λ_ x _=>n-(intOf x).toNat);case atStart=>exact⟨0,_,Nat.zero_le _,rfl,rfl,World.ownsRow_nil _ _ _ _,Below.refl _ _⟩
    case round=>
     clear agh;obtain⟨j,v2,hj,rfl,rfl,ho,hb2⟩:=hrel;by_cases aZ:j<n
     . have k1:j<p.length:=by rw[nZ.out];exact aZ
       have k2:j<r0.length:=by rw[rB.out];exact aZ
       obtain⟨sp,mp,ep,iQ⟩:=tH (p[j]);obtain⟨sq,mq,eq,uh⟩:=tH (r0[j]);have fX:=zQ.out _ (List.getElem_mem k1);have tV:=Ih.out _ (List.getElem_mem k2);rw[iQ]at fX;rw[uh]at tV;obtain⟨X,hX⟩:=az (ar (sp,mp,ep)-ar (sq,mq,eq));have xt:Hid (dC (Z.take (j+1))=dC (Z.take j)++[.bool (aj (dN X)),.string (bs (nt (dN X).natAbs)),.int .i64 (dE X)]):=by
        show _=_
        rw[<-HZ.out,aeI _ _ _ k1 k2,JR,iQ,uh,hX];rfl
       have dx:=aG aR.out hb2;obtain⟨b1,o1,gv,p0,p1,p2⟩:=(ej.out.below hb2).num j k1 iQ;obtain⟨b2,o2,lA,q0,q1,q2⟩:=(kP.out.below dx).num j k2 uh;have Ul:=BM n c1 j (j:Int) gv aZ rfl;have anP:=BM n c0 j (j:Int) lA aZ rfl;have nM:b1<wc.heap.size:=(by subst gv;exact ej.out.lt (by intro h0;have:=congrArg List.length h0;rw[lu bJ 3 (λ_=>rfl)]at this;simp at this;omega));have kG:b2<wc.heap.size:=Nat.lt_of_lt_of_le (by subst lA;exact kP.out.lt (by intro h0;have:=congrArg List.length h0;rw[lu bJ 3 (λ_=>rfl)]at this;simp at this;omega)) lM;have lbc:b<wc.heap.size:=Nat.lt_of_lt_of_le MA lM;have Hu:Hid (bg wr b o [.slice a0 n c0]):=λi hi=>by
        obtain rfl:i=0:=by simp at hi;omega
        exact cell_later dx uQ.out
       have Hp:Hid (bg wr b1 (o1+j*3) [.bool sp,.string (bs mp),.int .i64 ep]):=nU p0 p1 p2;have Hq:Hid (bg wr b2 (o2+j*3) [.bool sq,.string (bs mq),.int .i64 eq]):=nU q0 q1 q2;obtain⟨pI,CP,HX,Ho,zr,cH⟩:=iB fX tV hX ho hb2 (HT.out.below dx);have FZ:=hb2.size;clear ho hb2 fX tV hX iQ uh gv lA p0 p1 p2 q0 q1 q2 dx;have Hb:Hid (Bw wr wr):=Below.refl _ _;go_wp2_with fail;have u0:=Hu.out.w1;obtain⟨p0,p1,p2⟩:=Hp.out.w3;obtain⟨q0,q1,q2⟩:=Hq.out.w3;refine cf (λw'=>w'.cell? ⟨b,o,none⟩=some (.slice a0 n c0)/\w'.cell? ⟨b1,o1+j*3,none⟩=some (.bool sp)/\w'.cell? ⟨b1,o1+j*3+1,none⟩=some (.string (bs mp))/\w'.cell? ⟨b1,o1+j*3+2,none⟩=some (.int .i64 ep)/\w'.cell? ⟨b2,o2+j*3,none⟩=some (.bool sq)/\w'.cell? ⟨b2,o2+j*3+1,none⟩=some (.string (bs mq))/\w'.cell? ⟨b2,o2+j*3+2,none⟩=some (.int .i64 eq)) (λi=>Nat.blt i 100000) [(0,true),(1,true),(2,true),(3,true),(4,true),(5,true),(6,true),(7,true),(8,true),(9,true),(10,true),(11,false),(12,false),(13,false),(14,true)] zk zk rfl zk zc ⟨u0,p0,p1,p2,q0,q1,q2⟩ ?_;iterate 11 (refine pT rfl rfl ?_ (by intro w' ⟨q0,q1,q2,q3,q4,q5,q6⟩;go_simp;try with_reducible rfl);try simp only[UU])
       refine aF rfl rfl (λK hK=>?_);go_simp;with_reducible refine(Ak sp mp ep sq mq eq X B HX.out _ pI.out CP.out zo (by first|exact cH.out|exact au.drew cH.out|exact au.alloc cH.out _|exact au.drew (au.alloc cH.out _) |exact au.alloc (au.drew cH.out) _)).mono ?_
       rintro e w6 ⟨rfl,hq⟩;have ae:Bw wr w6:=by first|exact hq|exact aK hq
       clear u0 p0 p1 p2 q0 q1 q2;replace Hu:=kW Hu ae;replace Hp:=kW Hp ae;replace Hq:=kW Hq ae;have u0:=Hu.out.w1;obtain⟨p0,p1,p2⟩:=Hp.out.w3;obtain⟨q0,q1,q2⟩:=Hq.out.w3;replace Hb:=ak Hb ae;clear ae;refine hK _ _ (λ_=>⟨u0,p0,p1,p2,q0,q1,q2⟩) ?_;clear hK K;try simp only[UU]
       refine aF rfl rfl (λK hK=>?_);go_simp;refine hK _ _ (λ_=>⟨aH u0,aH p0,aH p1,aH p2,aH q0,aH q1,aH q2⟩) ?_;clear hK K;try simp only[UU]
       refine cj (λw7=>ag w7 (w6.heap.size) 39 [.bool (aj (dN X)),.string (bs (nt (dN X).natAbs)),.int .i64 (dE X)]/\Bw w6 w7) (by first|exact fy|exact fA) ?_;rintro w7 ⟨qc,ae⟩;clear u0 p0 p1 p2 q0 q1 q2;replace Hu:=kW Hu ae;replace Hp:=kW Hp ae;replace Hq:=kW Hq ae;have Hc:=af qc;clear qc;have u0:=Hu.out.w1;obtain⟨p0,p1,p2⟩:=Hp.out.w3;obtain⟨q0,q1,q2⟩:=Hq.out.w3;obtain⟨c0,c1,c2⟩:=Hc.out.c3;replace Hb:=ak Hb ae;clear ae;refine aF rfl rfl (λK hK=>?_);have cX:=ownsRow_below Ho.out Hb.out;have lH:=Hb.out.size;refine wp_append_own _ _ _ 49 rfl wc.heap.size 39 i0 _ 3 32 Tryz.underlying49 Hi.out fC.out fJ.out eF.out rfl zd v2 j (dC (Z.take j)) rfl cX ⟨w6.heap.size,0,none⟩ 1 1 [.bool (aj (dN X)),.string (bs (nt (dN X).natAbs)),.int .i64 (dE X)] rfl rfl (jL Hc.out) zy zx zo zo ?_;intro v' w8 jT dw _;obtain⟨g',cq,rfl⟩:=ownsRow_succ jT;have nb:∀b,b<wc.heap.size->some b≠v2.ownBlock:=λb hb e=>by have:=eJ cX b e.symm;omega
       refine hK _ _ (λ_=>⟨eX dw u0 (nb _ lbc),eX dw p0 (nb _ nM),eX dw p1 (nb _ nM),eX dw p2 (nb _ nM),eX dw q0 (nb _ kG),eX dw q1 (nb _ kG),eX dw q2 (nb _ kG)⟩) ?_;clear hK K;try simp only[UU]
       refine pT rfl rfl ?_;try simp only[UU]
       simp only[aN];clear u0 p0 p1 p2 q0 q1 q2 c0 c1 c2;go_wp2;go_roundw;case rel=>
        refine⟨j+1,_,by omega,by go_num,rfl,?_,?_⟩
        . rw[xt.out];exact jT
        . exact(aG zr.out Hb.out).grown dw zo (λj e=>eJ cX j e)
       case measure=>simp[intOf];omega
     . obtain rfl:j=n:=by omega
       have tN:Z.take j=Z:=List.take_of_length_le (by rw[<-HZ.out,DI (by rw[nZ.out,rB.out]),nZ.out];exact Nat.le_refl _);rw[tN]at ho;obtain⟨a2,cap2,rfl,oQ,lA⟩:=eI ho;have gK:=ho.lt;obtain⟨vals,hvl,hov,nJ⟩:=cZ.out.below hb2;have Hb:Hid (Bw wr wr):=Below.refl _ _;obtain⟨_,_,tZ,_⟩:=cZ.out;have hvs:=tZ.lt;have hin:∀b o,a2=some ⟨b,o,none⟩->some b≠v.ownBlock/\b<wr.heap.size:=by intro b o e;subst e;have h1:=gK b rfl;refine⟨λh2=>?_,h1.2⟩;have h3:=hvs b h2.symm;omega
       obtain⟨sW,GI,rC,vd,dL,cQ⟩:=iB hin oQ hvl nJ hov hb2;have Yb:=hb2.size;have qW:Hid (Z.length=j):=by show _=_;rw[<-HZ.out,DI (by rw[nZ.out,rB.out]),nZ.out]
       clear hin oQ hvl nJ hov tZ hvs hb2 lA gK tN ho aZ hj;obtain⟨W6,pV,ae,Hd⟩:=bH wr 49 [.slice a2 j cap2];have d0:=Hd.out.c1;replace Hb:=ak Hb ae;clear ae;have cX:=ownsRow_below dL.out Hb.out;have lH:=Hb.out.size;have hnews:∀i u,([.slice a2 j cap2]:List Value)[i]?=some u->W6.cell? ((⟨wr.heap.size,0,none⟩:Addr).add i)=some u:=jL Hd.out;clear d0;go_wp2_with (at_builtin;refine wpList_append_own_at _ rfl _ _ 124 rfl w.heap.size 49 j0 _ 1 24 Tryz.underlying124 Hj.out lf.out oh.out lh.out rfl zd v k vals rfl cX ⟨wr.heap.size,0,none⟩ 1 1 [.slice a2 j cap2] rfl rfl hnews zy zx zo zo ?_;intro v' w7 fY gA _ jU;obtain⟨g',pO,rfl⟩:=ownsRow_succ fY);go_roundw;case rel=>
        refine⟨k+1,_,by omega,by go_num,rfl,?_,?_⟩
        . refine Own2.push (a:=a2) (c:=cap2) rC.out (w:=W6) ?_ ?_ ?_ ?_ gA jU
          . intro i h;obtain⟨a,c,h1,h2,h3⟩:=vd.out i h;exact⟨a,c,h1,h2.below Hb.out,λb o e=>⟨(h3 b o e).1,Nat.lt_of_lt_of_le (h3 b o e).2 lH⟩⟩
          . rw[wX.out];exact GI.out.below Hb.out
          . exact λb o e=>⟨(sW.out b o e).1,Nat.lt_of_lt_of_le (sW.out b o e).2 lH⟩
          . rw[wX.out,qW.out];exact fY
        . exact(aG (aG aR.out cQ.out) Hb.out).grown gA zo (λj e=>eJ cX j e)
       case measure=>simp[intOf];omega
  . obtain rfl:k=m:=by omega
    obtain⟨a2,c2,rfl,hcl,pk⟩:=Own2.aqQ pv Zp.out;obtain⟨xw,aR⟩:=aJ pk pb;clear pv pb pk;go_wp2;refine bodyPost_ret (results_tmp rfl _ _ _) rfl ⟨a2,c2,rfl,hcl,xw.out,aR.out⟩
theorem Tryz.aqU :(Tryz.prog.info? 32).map (λi=>(i.zero,i.size,i.bytes))=some (some (.agg #[.bool false,.string (bs [])]),2,24):=by kernel_rfl
theorem Tryz.aqW :(Tryz.prog.info? 144).map (λi=>(i.zero,i.size,i.bytes))=some (some (.slice none 0 0),1,24):=by kernel_rfl
def iC (z:Int):List Value:=[.bool (aj z),.string (bs (nt z.natAbs))]
def zC (zs:List Int):List Value:=zs.flatMap iC
theorem ama (a b:List Int):zC (a++b)=zC a++zC b:=by unfold zC;rw[List.flatMap_append]
def gS (w:World)(base n:Nat)(R:List (List Int))(k:Nat)(v:Value):Prop:=
 ∃vals:List Value,vals.length=k/\w.ownsRow base 144 1 v k vals/\(∀i (h:i<vals.length),w.ownsRow base 32 2 vals[i] n (zC (R.getD i [])))/\
  ∀i j (hi:i<vals.length) (hj:j<vals.length) g,vals[i].ownBlock=some g->vals[j].ownBlock=some g->i=j
theorem gS.nil (w:World)(base n:Nat)(R:List (List Int)):gS w base n R 0 (.slice none 0 0):=
 ⟨[],rfl,World.ownsRow_nil _ _ _ _,λ_ h=>absurd h (Nat.not_lt_zero _),λ_ _ h=>absurd h (Nat.not_lt_zero _)⟩
theorem gS.below {w w':World}{base n k:Nat}{R:List (List Int)}{v:Value}(h:gS w base n R k v)(hb:Bw w w'):gS w' base n R k v:=by obtain⟨vals,hl,ho,hi,hd⟩:=h;exact⟨vals,hl,ownsRow_below ho hb,λi h=>ownsRow_below (hi i h) hb,hd⟩
theorem Ci {W:World}{b1 b2 e1 e2 s1 s2 k1 k2:Nat}{v1 v2:Value}{x1 x2:List Value}(h1:W.ownsRow b1 e1 s1 v1 k1 x1)(h2:W.ownsRow b2 e2 s2 v2 k2 x2)(he:e1≠e2):v1.ownBlock=none\/v1.ownBlock≠v2.ownBlock:=by
 rcases h1.2 with⟨rfl,_⟩ |⟨g,cap,cur,rfl,_,hg,_⟩
 . exact .inl rfl
 . refine .inr λh=>?_;rcases h2.2 with⟨rfl,_⟩ |⟨g',cap',cur',rfl,_,hg',_⟩
   . simp[Value.ownBlock]at h
   . simp only[Value.ownBlock,Option.some.injEq]at h;subst h;rw[hg]at hg';simp at hg';exact he hg'.2
theorem wE {W:World}{base base':Nat}{e:TypeId}{size:Nat}{v:Value}{n:Nat}{xs:List Value}(h:W.ownsRow base e size v n xs)(hb:base'<=base):W.ownsRow base' e size v n xs:=by
 refine⟨h.1,?_⟩;rcases h.2 with h2|⟨g,cap,cur,h1,h2,h3⟩
 . exact .inl h2
 . exact .inr ⟨g,cap,cur,h1,Nat.le_trans hb h2,h3⟩
theorem gS.push {w w':World}{base n k:Nat}{R:List (List Int)}{v v' x:Value}{vals:List Value}(hl:vals.length=k)(hov:w.ownsRow base 144 1 v k vals)(hi:∀i (h:i<vals.length),w.ownsRow base 32 2 vals[i] n (zC (R.getD i [])))
 (hd:∀i j (hi:i<vals.length) (hj:j<vals.length) g,vals[i].ownBlock=some g->vals[j].ownBlock=some g->i=j)
 (hx:w.ownsRow base 32 2 x n (zC (R.getD k []))) (oW:∀g,x.ownBlock=some g->∀i (h:i<vals.length),vals[i].ownBlock≠some g)
 (ho:w'.ownsRow base 144 1 v' (k+1) (vals++[x])) (hg:w.grownBy w' v.ownBlock):gS w' base n R (k+1) v':=by
 refine⟨_,by simp[hl],ho,λi h=>?_,λi j h1 h2 g e1 e2=>?_⟩
 . by_cases hk:i<vals.length
   . rw[List.getElem_append_left hk];exact(hi i hk).kept hg (Ci (hi i hk) hov zd)
   . have hik:i=k:=by simp at h;omega
     subst hik;rw[List.getElem_append_right zo];simp only[hl,Nat.sub_self,List.getElem_cons_zero];exact hx.kept hg (Ci hx hov zd)
 . by_cases k1:i<vals.length
   . rw[List.getElem_append_left k1]at e1;by_cases k2:j<vals.length
     . rw[List.getElem_append_left k2]at e2;exact hd i j k1 k2 g e1 e2
     . have hjk:j=k:=by simp at h2;omega
       subst hjk;rw[List.getElem_append_right zo]at e2;simp only[hl,Nat.sub_self,List.getElem_cons_zero]at e2;exact absurd e1 (oW g e2 i k1)
   . have hik:i=k:=by simp at h1;omega
     subst hik;rw[List.getElem_append_right zo]at e1;simp only[hl,Nat.sub_self,List.getElem_cons_zero]at e1;by_cases k2:j<vals.length
     . rw[List.getElem_append_left k2]at e2;exact absurd e2 (oW g e1 j k2)
     . simp at h2;omega
def jD (l:Int)(ds:List Dyadic):Int:=ds.foldl (λl d=>min l (dE d)) l
def jX (l:Int)(R:List (List Dyadic)):Int:=R.foldl jD l
def nQ (low:Int)(d:Dyadic):Int:=dN d*2^(dE d-low).toNat
theorem Wk (l:Int)(ds:List Dyadic):jD l ds<=l/\∀d∈ds,jD l ds<=dE d:=by
 induction ds generalizing l with
 |nil=>exact⟨Int.le_refl _,λd h=>by cases h⟩
 | cons x xs ih=>
   have h:=ih (min l (dE x));have e:jD l (x::xs)=jD (min l (dE x)) xs:=rfl;rw[e];refine⟨by omega,λd hd=>?_⟩;rcases List.mem_cons.1 hd with rfl|hd
   . omega
   . exact h.2 d hd
theorem MF (l:Int)(R:List (List Dyadic)):jX l R<=l/\∀r∈R,∀d∈r,jX l R<=dE d:=by
 induction R generalizing l with
 |nil=>exact⟨Int.le_refl _,λd h=>by cases h⟩
 | cons x xs ih=>
   have h:=ih (jD l x);have h1:=Wk l x;have e:jX l (x::xs)=jX (jD l x) xs:=rfl;rw[e];refine⟨by omega,λr hr d hd=>?_⟩;rcases List.mem_cons.1 hr with rfl|hr
   . have:=h1.2 d hd;omega
   . exact h.2 r hr d hd
theorem Wj (l:Int)(ds:List Dyadic)(m:Int)(hl:m<=l)(h:∀d∈ds,m<=dE d):m<=jD l ds:=by
 induction ds generalizing l with
 |nil=>exact hl
 |cons x xs ih=>have hx:=h x (List.mem_cons_self ..);exact ih (min l (dE x)) zo (λd hd=>h d (List.mem_cons_of_mem _ hd))
theorem ME (l:Int)(R:List (List Dyadic))(m:Int)(hl:m<=l)(h:∀r∈R,∀d∈r,m<=dE d):m<=jX l R:=by
 induction R generalizing l with
 |nil=>exact hl
 |cons x xs ih=>exact ih (jD l x) (Wj l x m hl (h x (List.mem_cons_self ..))) (λr hr=>h r (List.mem_cons_of_mem _ hr))
theorem ahZ (l:Int)(ds:List Dyadic)(k:Nat)(h:k<ds.length):jD l (ds.take (k+1))=min (jD l (ds.take k)) (dE ds[k]):=by unfold jD;rw[List.take_succ_eq_append_getElem h,List.foldl_append];rfl
theorem ah0 (l:Int)(R:List (List Dyadic))(k:Nat)(h:k<R.length):jX l (R.take (k+1))=jD (jX l (R.take k)) R[k]:=by unfold jX;rw[List.take_succ_eq_append_getElem h,List.foldl_append];rfl
theorem afj (x y z:Value)(W:World):(Instr.field 39 (.agg #[x,y,z]) 1).run Tryz.prog W=.ok z W:=by kernel_rfl
theorem akp (low:Int)(d:Dyadic)(h:low<=dE d):Dyadic.ofIntWithPrec (nQ low d) (-low)=d:=by
 have e: -low= -(dE d)+((dE d-low).toNat:Int):=by omega
 unfold nQ;rw[e,mG];exact(uB d).symm
theorem Xx (a:Option Addr)(L cap n:Nat)(rows:List (List Raw))(B:Nat)(low:Int)(w:World)(hL:rows.length=L)(hL8:L<=8)(hn8:n<=8)(hrow:∀r∈rows,r.length=n)(ha:cn w a rows)
 (hfit:∀r∈rows,∀c∈r,Fit B c) (hB:B<=10000000) (hT:au w) (jd:jX 0 (rows.map λr=>r.map ar)=low):
 Calls Tryz.prog 142 #[.slice a L cap] w λe w'=>∃v,e=.returned (.tuple #[v,.int .i64 (-low)])/\
  gS w' w.heap.size n ((rows.map λr=>r.map ar).map λr=>r.map (nQ low)) L v/\Bw w w':=by
 obtain⟨i0,hi,hz0,hz1,hz2⟩:=info_parts Tryz.aqU;obtain⟨j0,hj,hy0,hy1,hy2⟩:=info_parts Tryz.aqW;obtain⟨D,hD⟩:=az (rows.map λr=>r.map ar);have Sj:D.length=L:=by rw[<-hD];simp[hL]
 have Ay:∀k (h:k<rows.length) (h':k<D.length),D[k]=rows[k].map ar:=λk h h'=>by subst hD;simp
 have Ax:∀r∈D,∀d∈r,-268435456<=dE d/\dE d<=268435456:=by intro r hr d hd;rw[<-hD]at hr;obtain⟨r',hr',rfl⟩:=List.mem_map.1 hr;obtain⟨x,hx,rfl⟩:=List.mem_map.1 hd;exact(((hfit r' hr' x hx).2).fit zo).1.2
 rw[hD]at jd⊢;have hlo:low<=0/\∀r∈D,∀d∈r,low<=dE d:=by rw[<-jd];exact MF 0 D
 have hlb: -268435456<=low:=by rw[<-jd];exact ME 0 D _ zd (λr hr d hd=>(Ax r hr d hd).1)
 have BB:∀k j (h:k<D.length) (h':j<=D[k].length),-268435456<=jD (jX 0 (D.take k)) (D[k].take j)/\jD (jX 0 (D.take k)) (D[k].take j)<=0:=by intro k j h h';have g1: -268435456<=jX 0 (D.take k):=ME 0 _ _ zd (λr hr d hd=>(Ax r (List.mem_of_mem_take hr) d hd).1);have g2:=(MF 0 (D.take k)).1;have g3:=(Wk (jX 0 (D.take k)) (D[k].take j)).1;exact⟨Wj _ _ _ g1 (λd hd=>(Ax _ (List.getElem_mem h) d (List.mem_of_mem_take hd)).1),by omega⟩
 obtain⟨Hi,fC,fJ,eF,Hj,lf,oh,lh,Gr,Oo,HDe,aaM⟩:=iR hi hz0 hz1 hz2 hj hy0 hy1 hy2 Sj Ay Ax jd;obtain⟨PG,Hlb,CW,Ha,HT,zT,zF,HL⟩:=mB hlo hlb BB ha hT hrow hfit hL;have hnl:IntKind.i64.wrap (-low)= -low:=by rw[IntKind.wrap_i64];omega
 obtain⟨nl,LM⟩:=az (-low);obtain⟨S,hS⟩:=az (D.map λr=>r.map (nQ low));have AO:∀k (h:k<D.length),S.getD k []=D[k].map (nQ low):=λk h=>by subst hS;simp[h]
 rw[hS,LM];have UE:IntKind.i64.wrap (-low)=nl:=by rw[hnl,LM]
 obtain⟨IJ,GA⟩:=aJ UE AO;clear hnl LM UE hS AO hi hz0 hz1 hz2 hj hy0 hy1 hy2 BB hlb hlo Ax Ay Sj jd ha hT hrow hfit hL hD;go_enter Tryz.func142,Tryz.ntmps142;have Hb:Hid (Bw w w):=Below.refl _ _;go_wp2_with fail;go_loopw[4,18] (λs4 x wr=>∃k:Nat,k<=L/\x=.int .i64 (k:Int)/\s4=.int .i64 (jX 0 (D.take k))/\Bw w wr) (λ_ x _=>L-(intOf x).toNat);case atStart=>exact⟨0,Nat.zero_le _,rfl,rfl,Hb.out⟩
 case round=>
  clear Hb;obtain⟨k,hk,rfl,rfl,pb⟩:=hrel;by_cases hlt:k<L
  . have hk2:k<rows.length:=by rw[HL.out];exact hlt
    have hk3:k<D.length:=by rw[Gr.out];exact hlt
    obtain⟨p,gV⟩:=az (rows[k]);obtain⟨b,o,a1,c1,hab,hc1,hat⟩:=(Ha.out.below pb).row k hk2;have nH:p.length=n:=by rw[<-gV];exact zT.out _ (List.getElem_mem hk2)
    have ub:∀x∈p,Fit B x:=by rw[<-gV];exact zF.out _ (List.getElem_mem hk2)
    have np:=Oo.out k hk2 hk3;rw[gV]at hc1 hat np;rw[nH]at hc1;have oX:=yi L cap k (k:Int) hab hlt rfl;rw[Nat.mul_one]at oX;have hst:=ah0 0 D k hk3;have hpt:=λj (h:j<=n)=>CW.out k j hk3 (by rw[np,List.length_map,nH];exact h);rw[np]at hst;simp only[np]at hpt;obtain⟨l0,hl0⟩:=az (jX 0 (D.take k));rw[hl0]at hst⊢;simp only[hl0]at hpt;obtain⟨ej,nZ,zQ,bR,Hpt,aR⟩:=iB hat nH ub hst hpt pb;clear hat nH ub hst hpt pb hab gV np hl0 hk2 hk3;obtain⟨wc,hwc⟩:∃wc,wc=wr:=⟨_,rfl⟩;subst hwc;have lM:=aR.out.size;go_wp2_with fail;go_loopw[4,24] (λs4 x wr=>∃j:Nat,j<=n/\x=.int .i64 (j:Int)/\s4=.int .i64 (jD l0 ((p.map ar).take j))/\Bw wc wr) (λ_ x _=>n-(intOf x).toNat);case atStart=>exact⟨0,Nat.zero_le _,rfl,rfl,Below.refl _ _⟩
    case round=>
     clear hc1;obtain⟨j,hj,rfl,rfl,hb2⟩:=hrel;by_cases aZ:j<n
     . have k1:j<p.length:=by rw[nZ.out];exact aZ
       obtain⟨sp,mp,ep,iQ⟩:=tH (p[j]);have fX:=zQ.out _ (List.getElem_mem k1);have hst:=ahZ l0 (p.map ar) j (by simpa using k1);rw[List.getElem_map,iQ]at hst;rw[iQ]at fX;obtain⟨X,hX⟩:=az (ar (sp,mp,ep));rw[hX]at hst;obtain⟨l1,Be⟩:=az (jD l0 ((p.map ar).take j));rw[Be]at hst⊢;obtain⟨b1,o1,gv,p0,p1,p2⟩:=(ej.out.below hb2).num j k1 iQ;have Ul:=sk n c1 j (j:Int) gv aZ rfl;have Hp:Hid (bg wr b1 (o1+j*3) [.bool sp,.string (bs mp),.int .i64 ep]):=nU p0 p1 p2;obtain⟨pI,HX,zr,xt,cH⟩:=iA fX.1 hX hb2 hst ((HT.out.below aR.out).below hb2);clear hb2 fX hX hst iQ gv p0 p1 p2 Be;have Hb:Hid (Bw wr wr):=Below.refl _ _;obtain⟨p0,p1,p2⟩:=Hp.out.w3;have P0:=p0;have P1:=p1;have P2:=p2;have fl:=afj (.bool (aj (dN X))) (.string (bs (nt (dN X).natAbs))) (.int .i64 (dE X));obtain⟨W4,jP,ae,Hc⟩:=bH wr 39 [.bool sp,.string (bs mp),.int .i64 ep];clear p0 p1 p2;replace Hp:=kW Hp ae;obtain⟨p0,p1,p2⟩:=Hp.out.w3;obtain⟨c0,c1,c2⟩:=Hc.out.c3;replace Hb:=ak Hb ae;clear ae;have HT:Hid (au W4):=cH.out.below Hb.out;go_wp2_with fail;refine(oH sp mp ep X HX.out _ pI.out HT.out).mono ?_;rintro e w5 ⟨rfl,ae⟩;clear p0 p1 p2 c0 c1 c2;replace Hp:=kW Hp ae;replace Hc:=kB Hc ae;replace HT:=kT HT ae;obtain⟨p0,p1,p2⟩:=Hp.out.w3;obtain⟨c0,c1,c2⟩:=Hc.out.c3;replace Hb:=ak Hb ae;clear ae;go_wp2;go_roundw;case rel=>exact⟨j+1,by omega,by go_num,by rw[xt.out],aG zr.out Hb.out⟩
       case measure=>simp[intOf];omega
     . obtain rfl:j=n:=by omega
       have hpt:(p.map ar).take j=p.map ar:=List.take_of_length_le (by simp[nZ.out]);rw[hpt];go_wp2;go_roundw;case rel=>exact⟨k+1,by omega,by go_num,by rw[bR.out],aG aR.out hb2⟩
       case measure=>simp[intOf];omega
  . obtain rfl:k=L:=by omega
    have Sp:D.take k=D:=List.take_of_length_le (by rw[Gr.out];exact Nat.le_refl _);rw[Sp,aaM.out];have aR:=af pb;clear pb Sp;obtain⟨wa,hwa⟩:∃wa,wa=wr:=⟨_,rfl⟩;subst hwa;have NG:=aR.out.size;go_wp2_with fail;go_loopw[9,37] (λs9 x wr=>∃(i:Nat) (v:Value),i<=k/\x=.int .i64 (i:Int)/\v=s9/\gS wr w.heap.size n S i v/\Bw w wr) (λ_ x _=>k-(intOf x).toNat);case atStart=>exact⟨0,_,Nat.zero_le _,rfl,rfl,gS.nil _ _ _ _,aR.out⟩
    case round=>
     clear aR NG;obtain⟨i,v,hk,rfl,rfl,pv,pb⟩:=hrel;by_cases hlt:i<k
     . have hk2:i<rows.length:=by rw[HL.out];exact hlt
       have hk3:i<D.length:=by rw[Gr.out];exact hlt
       obtain⟨p,gV⟩:=az (rows[i]);obtain⟨b,o,a1,c1,hab,hc1,hat⟩:=(Ha.out.below pb).row i hk2;have nH:p.length=n:=by rw[<-gV];exact zT.out _ (List.getElem_mem hk2)
       have ub:∀x∈p,Fit B x:=by rw[<-gV];exact zF.out _ (List.getElem_mem hk2)
       have np:=Oo.out i hk2 hk3;have rM:=GA.out i hk3;have hpl:=PG.out.2 _ (List.getElem_mem hk3);rw[gV]at hc1 hat np;rw[np]at rM hpl;rw[nH]at hc1;have oX:=yi k cap i (i:Int) hab hlt rfl;rw[Nat.mul_one]at oX;obtain⟨Z,hZ⟩:=az ((p.map ar).map (nQ low));rw[hZ]at rM;obtain⟨ej,nZ,zQ,wX,HZ,xp,aR,cZ⟩:=mB hat nH ub rM hZ hpl pb pv;clear hat nH ub rM hZ hpl pb pv hab gV np hk2 hk3;obtain⟨wc,hwc⟩:∃wc,wc=wr:=⟨_,rfl⟩;subst hwc;have lM:=aR.out.size;go_wp2_with fail;go_loopw[12,43] (λs12 x wr=>∃(j:Nat) (v2:Value),j<=n/\x=.int .i64 (j:Int)/\v2=s12/\wr.ownsRow wc.heap.size 32 2 v2 j (zC (Z.take j))/\Bw wc wr) (λ_ x _=>n-(intOf x).toNat);case atStart=>exact⟨0,_,Nat.zero_le _,rfl,rfl,World.ownsRow_nil _ _ _ _,Below.refl _ _⟩
       case round=>
        clear hc1;obtain⟨j,v2,hj,rfl,rfl,ho,hb2⟩:=hrel;by_cases aZ:j<n
        . have k1:j<p.length:=by rw[nZ.out];exact aZ
          obtain⟨sp,mp,ep,iQ⟩:=tH (p[j]);have fX:=zQ.out _ (List.getElem_mem k1);rw[iQ]at fX;obtain⟨X,hX⟩:=az (ar (sp,mp,ep));have hle:low<=dE X:=xp.out X (by rw[<-hX,<-iQ];exact List.mem_map_of_mem (List.getElem_mem k1));have dX:Sm B X:=by rw[<-hX];exact fX.2
          have Lc:=(dX.fit zo).1;have nu:(nt (dN X).natAbs).length<=268435456:=Lc.1;have hXe: -268435456<=dE X/\dE X<=268435456:=Lc.2;obtain⟨Y,hY⟩:=az (nQ low X);have hlb:=Hlb.out;have hl0:=PG.out.1;obtain⟨t,ht⟩:∃t:Int,dE X-low=t:=⟨_,rfl⟩;have hwr:IntKind.i64.wrap (dE X-low)=t:=by rw[IntKind.wrap_i64];omega
          have hsh:∀W,Calls Tryz.prog 38 #[.agg #[.bool (aj (dN X)),.string (bs (nt (dN X).natAbs))],.int .i64 t] W λe w'=>e=.returned (bM Y)/\Bw W w':=by intro W;have h:=Gj (aj (dN X)) (nt (dN X).natAbs) (dE X-low).toNat W zo zo;rw[dI,show((dE X-low).toNat:Int)=t by omega]at h;rw[<-hY];exact h
          have bR:Hid (zC (Z.take (j+1))=zC (Z.take j)++[.bool (aj Y),.string (bs (nt Y.natAbs))]):=by
           show _=_
           rw[<-HZ.out,List.take_succ_eq_append_getElem (by simpa using k1),ama];congr 1;simp only[List.getElem_map,iQ,hX,hY];rfl
          obtain⟨b1,o1,gv,p0,p1,p2⟩:=(ej.out.below hb2).num j k1 iQ;have Ul:=sk n c1 j (j:Int) gv aZ rfl;have Hp:Hid (bg wr b1 (o1+j*3) [.bool sp,.string (bs mp),.int .i64 ep]):=nU p0 p1 p2;obtain⟨pI,HX,Ho,cQ,IX,Hwr,cH⟩:=jC fX.1 hX ho hb2 hsh hwr ((HT.out.below aR.out).below hb2);have Yb:=hb2.size;clear ho hb2 fX hX iQ gv p0 p1 p2 hle dX Lc nu hXe hY hlb hl0 ht hsh hwr;have Hb:Hid (Bw wr wr):=Below.refl _ _;obtain⟨p0,p1,p2⟩:=Hp.out.w3;have P0:=p0;have P1:=p1;have P2:=p2;obtain⟨W4,jP,ae,Hc⟩:=bH wr 39 [.bool sp,.string (bs mp),.int .i64 ep];clear p0 p1 p2;replace Hp:=kW Hp ae;obtain⟨p0,p1,p2⟩:=Hp.out.w3;obtain⟨c0,c1,c2⟩:=Hc.out.c3;replace Hb:=ak Hb ae;clear ae;have HT:Hid (au W4):=cH.out.below Hb.out;go_wp2_with fail;refine(oH sp mp ep X HX.out _ pI.out HT.out).mono ?_;rintro e w5 ⟨rfl,ae⟩;clear p0 p1 p2 c0 c1 c2;replace Hp:=kW Hp ae;replace Hc:=kB Hc ae;replace HT:=kT HT ae;obtain⟨p0,p1,p2⟩:=Hp.out.w3;obtain⟨c0,c1,c2⟩:=Hc.out.c3;replace Hb:=ak Hb ae;clear ae;have aia:=Hc.out.lt;obtain⟨W6,pV,ae,Hy⟩:=bH w5 39 [.bool (aj (dN X)),.string (bs (nt (dN X).natAbs)),.int .i64 (dE X)];clear p0 p1 p2;replace Hp:=kW Hp ae;clear c0 c1 c2;replace Hc:=kB Hc ae;replace HT:=kT HT ae;obtain⟨p0,p1,p2⟩:=Hp.out.w3;obtain⟨c0,c1,c2⟩:=Hc.out.c3;obtain⟨y0,y1,y2⟩:=Hy.out.c3;replace Hb:=ak Hb ae;clear ae;have hwr:=Hwr.out;go_wp2_with fail;refine(IX.out _).mono ?_;rintro e w7 ⟨rfl,ae⟩;clear p0 p1 p2 c0 c1 c2 y0 y1 y2;replace Hp:=kW Hp ae;replace Hc:=kB Hc ae;replace HT:=kT HT ae;replace Hy:=kB Hy ae;obtain⟨p0,p1,p2⟩:=Hp.out.w3;obtain⟨c0,c1,c2⟩:=Hc.out.c3;obtain⟨y0,y1,y2⟩:=Hy.out.c3;replace Hb:=ak Hb ae;clear ae hwr;have aou:=Hc.out.lt;have Wv:=Hy.out.lt;obtain⟨W8,Te,ae,Hd⟩:=bH w7 32 [.bool (aj Y),.string (bs (nt Y.natAbs))];clear p0 p1 p2;replace Hp:=kW Hp ae;clear c0 c1 c2;replace Hc:=kB Hc ae;replace HT:=kT HT ae;clear y0 y1 y2;replace Hy:=kB Hy ae;obtain⟨p0,p1,p2⟩:=Hp.out.w3;obtain⟨c0,c1,c2⟩:=Hc.out.c3;obtain⟨y0,y1,y2⟩:=Hy.out.c3;obtain⟨d0,d1⟩:=Hd.out.c2;replace Hb:=ak Hb ae;clear ae;have cX:=ownsRow_below Ho.out Hb.out;have lH:=Hb.out.size;have hnews:=jL Hd.out;clear d0 d1;go_wp2_with (at_builtin;refine wpList_append_own_at _ rfl _ _ 144 rfl wc.heap.size 32 i0 _ 2 24 Tryz.underlying144 Hi.out fC.out fJ.out eF.out rfl zd v2 j (zC (Z.take j)) rfl cX ⟨w7.heap.size,0,none⟩ 1 1 [.bool (aj Y),.string (bs (nt Y.natAbs))] rfl rfl hnews zy zx zo zo ?_;intro v' w9 lF TY _ _;obtain⟨g',pO,rfl⟩:=ownsRow_succ lF);go_roundw;case rel=>
           refine⟨j+1,_,by omega,by go_num,rfl,?_,?_⟩
           . rw[bR.out];exact lF
           . exact(aG cQ.out Hb.out).grown TY zo (λj e=>eJ cX j e)
          case measure=>simp[intOf];omega
        . obtain rfl:j=n:=by omega
          have tN:Z.take j=Z:=List.take_of_length_le (by rw[<-HZ.out];simp[nZ.out]);rw[tN]at ho;obtain⟨a2,cap2,rfl,_,_⟩:=eI ho;have gK:=ho.lt;obtain⟨vals,hvl,hov,nJ,BH⟩:=cZ.out;have oW:∀g,(Value.slice a2 j cap2).ownBlock=some g->∀m (h:m<vals.length),vals[m].ownBlock≠some g:=by intro g h1 m h2 h3;have:=(gK g h1).1;have:=((nJ m h2).lt g h3).2;omega
          obtain⟨Im,rC,vd,dL,cQ,Jf,Ho⟩:=jC oW hvl nJ hov hb2 BH ho;have Hb:Hid (Bw wr wr):=Below.refl _ _;have Yb:=hb2.size;clear oW hvl hov nJ hb2 BH gK tN ho aZ hj;obtain⟨W6,pV,ae,Hd⟩:=bH wr 144 [.slice a2 j cap2];have d0:=Hd.out.c1;replace Hb:=ak Hb ae;clear ae;have Kt:=aG cQ.out Hb.out;have cX:=ownsRow_below dL.out Kt;have lH:=Hb.out.size;have hnews:∀i u,([.slice a2 j cap2]:List Value)[i]?=some u->W6.cell? ((⟨wr.heap.size,0,none⟩:Addr).add i)=some u:=jL Hd.out;clear d0;go_wp2_with (at_builtin;refine wpList_append_own_at _ rfl _ _ 170 rfl w.heap.size 144 j0 _ 1 24 Tryz.underlying170 Hj.out lf.out oh.out lh.out rfl zd v i vals rfl cX ⟨wr.heap.size,0,none⟩ 1 1 [.slice a2 j cap2] rfl rfl hnews zy zx zo zo ?_;intro v' w7 fY gA _ _;obtain⟨g',pO,rfl⟩:=ownsRow_succ fY);go_roundw;case rel=>
           refine⟨i+1,_,by omega,by go_num,rfl,?_,?_⟩
           . refine gS.push (w:=W6) rC.out cX (λm h=>ownsRow_below (vd.out m h) Kt) Jf.out ?_ Im.out fY gA;rw[wX.out];exact wE (ownsRow_below Ho.out Hb.out) zo
           . exact(aG aR.out Kt).grown gA zo (λj e=>eJ cX j e)
          case measure=>simp[intOf];omega
     . obtain rfl:i=k:=by omega
       obtain⟨aR,cZ⟩:=aJ pb pv;clear pb pv;have hnl:=IJ.out;go_wp2;refine bodyPost_ret (v:=.tuple #[v,.int .i64 nl]) (by simp[results,Tryz.results142,go_sem]) rfl ⟨v,rfl,cZ.out,aR.out⟩
end Go.Proofs.YtoopepmmepmfnaaGreatDoor
namespace Go.Proofs.YtoopepmmepmfnaaGreatDoor
open Go.RowKit
theorem kd {w:World}{base:Nat}{e:TypeId}{size n cap g:Nat}{xs:List Value}(h:w.ownsRow base e size (.slice (some ⟨g,0,none⟩) n cap) n xs)(j:Nat)(hj:j<xs.length):w.cell? ⟨g,j,none⟩=some xs[j]:=by
 rcases h.2 with⟨h1,_⟩ |⟨g',cap',cur,h1,_,hg,_,_,_,hx⟩
 . simp at h1
 . simp only[Value.slice.injEq,Option.some.injEq,Addr.mk.injEq,and_true,true_and]at h1;obtain⟨rfl,rfl⟩:=h1;have h2:cur.toList.take (n*size)=xs:=hx;have h3:cur.toList[j]?=some xs[j]:=by rw[<-List.getElem?_eq_getElem hj];simp only[<-h2];rw[List.getElem?_take];rw[<-h2,List.length_take]at hj;rw[if_pos (Nat.lt_of_lt_of_le hj (Nat.min_le_left _ _))]
   have h4:ag w g e cur.toList:=by unfold ag;simpa using hg
   rw[h4.cell];exact h3
theorem ke {w:World}{base:Nat}{e:TypeId}{size n cap g:Nat}{xs:List Value}(h:w.ownsRow base e size (.slice (some ⟨g,0,none⟩) n cap) n xs)(j:Nat)(u:Value):(w.setCell ⟨g,j,none⟩ u).ownsRow base e size (.slice (some ⟨g,0,none⟩) n cap) n (xs.set j u):=by
 refine⟨by rw[List.length_set];exact h.1,?_⟩;rcases h.2 with⟨h1,_⟩ |⟨g',cap',cur,h1,hb,hg,h4,h5,h6,hx⟩
 . simp at h1
 . simp only[Value.slice.injEq,Option.some.injEq,Addr.mk.injEq,and_true,true_and]at h1;obtain⟨rfl,rfl⟩:=h1;refine .inr ⟨g,cap,cur.setIfInBounds j u,rfl,hb,?_,h4,h5,by simpa using h6,?_⟩
   . simp[World.setCell,Array.getElem?_modify,hg]
   . rw[<-hx];simp[List.take_set]
theorem amc (zs:List Int):(zC zs).length=zs.length*2:=lu iC 2 (λ_=>rfl) zs
theorem amb (zs:List Int)(j:Nat)(hj:j<zs.length):(zC zs)[j*2]?=some (.bool (aj zs[j]))/\(zC zs)[j*2+1]?=some (.string (bs (nt zs[j].natAbs))):=by
 induction zs generalizing j with
 |nil=>simp at hj
 | cons z zs ih=>
   have e:zC (z::zs)=.bool (aj z)::.string (bs (nt z.natAbs))::zC zs:=rfl;rw[e];cases j with
   |zero=>exact⟨rfl,rfl⟩
   |succ j=>have:=ih j (by simpa using hj);rw[show(j+1) *2=j*2+1+1 by omega];simpa using this
theorem amd (zs:List Int)(j:Nat)(hj:j<zs.length)(y:Int):((zC zs).set (j*2) (.bool (aj y))).set (j*2+1) (.string (bs (nt y.natAbs)))=zC (zs.set j y):=by
 induction zs generalizing j with
 |nil=>simp at hj
 | cons z zs ih=>
   have e:zC (z::zs)=.bool (aj z)::.string (bs (nt z.natAbs))::zC zs:=rfl;rw[e];cases j with
   |zero=>rfl
   |succ j=>have:=ih j (by simpa using hj);rw[show(j+1) *2=j*2+1+1 by omega];simp only[List.set_cons_succ];rw[this];rfl
theorem gS.num {w:World}{base n L:Nat}{R:List (List Int)}{v:Value}(h:gS w base n R L v)(i j:Nat)(hi:i<L)(hj:j<n)(hR:R.length=L)(hr:(R.getD i []).length=n):
 ∃go cap g c,v=.slice (some ⟨go,0,none⟩) L cap/\base<=go/\base<=g/\g≠go/\w.cell? ⟨go,i,none⟩=some (.slice (some ⟨g,0,none⟩) n c)/\
  w.cell? ⟨g,j*2,none⟩=some (.bool (aj ((R.getD i []).getD j 0)))/\w.cell? ⟨g,j*2+1,none⟩=some (.string (bs (nt ((R.getD i []).getD j 0).natAbs)))/\
  ∀y:Int,gS ((w.setCell ⟨g,j*2,none⟩ (.bool (aj y))).setCell ⟨g,j*2+1,none⟩ (.string (bs (nt y.natAbs)))) base n (R.set i ((R.getD i []).set j y)) L v:=by
 obtain⟨vals,hl,ho,hv,hd⟩:=h;have hi2:i<vals.length:=by omega
 have hrow:=hv i hi2;have hxl:(zC (R.getD i [])).length=n*2:=by rw[amc,hr]
 obtain⟨a0,cap,rfl,_,_⟩:=eI ho;obtain⟨a1,c,e1,_,hab⟩:=eI hrow;rw[e1]at hrow;rcases ho.2 with⟨h1,_⟩ |⟨go,cap',cur,h1,rQ,hgo,_⟩
 . simp at h1;omega
 simp only[Value.slice.injEq,true_and]at h1;obtain⟨rfl,rfl⟩:=h1;rcases hrow.2 with⟨h1,_⟩ |⟨g,c',cur',h1,hbg,hgg,_⟩
 . simp at h1;omega
 simp only[Value.slice.injEq,true_and]at h1;obtain⟨rfl,rfl⟩:=h1;have hne:g≠go:=by rintro rfl;rw[hgo]at hgg;simp at hgg
 have hat:=amb (R.getD i []) j zo;have hg0:(R.getD i []).getD j 0=(R.getD i [])[j]'zo:=by rw[List.getD_eq_getElem?_getD,List.getElem?_eq_getElem zo];rfl
 have hc0:=kd hrow (j*2) zo;have hc1:=kd hrow (j*2+1) zo;rw[<-List.getElem?_eq_getElem]at hc0 hc1;rw[hat.1]at hc0;rw[hat.2]at hc1;refine⟨go,cap,g,c,rfl,rQ,hbg,hne,?_,by rw[hg0];exact hc0,by rw[hg0];exact hc1,λy=>?_⟩
 . rw[kd ho i zo,e1]
 . refine⟨vals,hl,?_,λm hm=>?_,hd⟩
   . exact ownsRow_setCell_other (ownsRow_setCell_other ho (by simpa[Value.ownBlock]using hne.symm) _) (by simpa[Value.ownBlock]using hne.symm) _
   . by_cases jz:m=i
     . subst jz;have hs:(R.set m ((R.getD m []).set j y)).getD m []=(R.getD m []).set j y:=by rw[List.getD_eq_getElem?_getD,List.getElem?_set_self zo];rfl
       rw[hs,e1,<-amd _ _ zo];exact ke (ke hrow _ _) _ _
     . have hs:(R.set i ((R.getD i []).set j y)).getD m []=R.getD m []:=by rw[List.getD_eq_getElem?_getD,List.getElem?_set_ne (λe=>jz e.symm),<-List.getD_eq_getElem?_getD]
       rw[hs];have hno:vals[m].ownBlock≠some g:=λe=>jz (hd m i hm hi2 g e (by rw[e1];rfl));exact ownsRow_setCell_other (ownsRow_setCell_other (hv m hm) hno _) hno _
def swp (i m k:Nat):Nat:=if k=i then m else if k=m then i else k
theorem ak3 {i m a b:Nat}(h:swp i m a=swp i m b):a=b:=by
 unfold swp at h;repeat' split at h
 all_goals omega
theorem FW {i m k L:Nat}(hi:i<L)(hm:m<L)(hk:k<L):swp i m k<L:=by
 unfold swp;repeat' split
 all_goals omega
theorem Nu {α:Type}(l:List α)(d:α)(i m:Nat)(hi:i<l.length)(hm:m<l.length)(k:Nat)(hk:k<l.length):((l.set i (l.getD m d)).set m (l.getD i d)).getD k d=l.getD (swp i m k) d:=by
 unfold swp;by_cases h1:k=m
 . subst h1;rw[List.getD_eq_getElem?_getD,List.getElem?_set_self (by simpa using hk)];by_cases h2:k=i
   . subst h2;simp
   . simp[h2]
 . rw[List.getD_eq_getElem?_getD,List.getElem?_set_ne (λe=>h1 e.symm)];by_cases h2:k=i
   . subst h2;rw[List.getElem?_set_self (by simpa using hk)];simp
   . rw[List.getElem?_set_ne (λe=>h2 e.symm)];simp[h1,h2]
theorem gS.swap {w:World}{base n L go cap:Nat}{R:List (List Int)}(h:gS w base n R L (.slice (some ⟨go,0,none⟩) L cap))(i m:Nat)(hi:i<L)(hm:m<L)(hR:R.length=L):
 ∃x y,w.cell? ⟨go,i,none⟩=some x/\w.cell? ⟨go,m,none⟩=some y/\gS ((w.setCell ⟨go,i,none⟩ y).setCell ⟨go,m,none⟩ x) base n ((R.set i (R.getD m [])).set m (R.getD i [])) L (.slice (some ⟨go,0,none⟩) L cap):=by
 obtain⟨vals,hl,ho,hv,hd⟩:=h;have hi2:i<vals.length:=by omega
 have hm2:m<vals.length:=by omega
 have hgo:∀k (hk:k<vals.length),vals[k].ownBlock≠some go\/vals[k].ownBlock=none:=by
  intro k hk;rcases Ci (hv k hk) ho zd with e|e
  . exact .inr e
  . exact .inl e
 have hel:∀k (hk:k<vals.length),((vals.set i vals[m]).set m vals[i])[k]'(by simpa using hk)=vals[swp i m k]'(FW hi2 hm2 hk):=by intro k hk;have:=Nu vals (.bool false) i m hi2 hm2 k hk;have hs:=FW hi2 hm2 hk;simpa[List.getD_eq_getElem?_getD,List.getElem?_eq_getElem,hi2,hm2,hk,hs]using this
 refine⟨vals[i],vals[m],kd ho i zo,kd ho m zo,_,by simp[hl],ke (ke ho i _) m _,λk hk=>?_,λa b ha hb g e1 e2=>?_⟩
 . have hk2:k<vals.length:=by simpa using hk
   have hs:=FW hi2 hm2 hk2;rw[hel k hk2,Nu R [] i m zo zo k zo];have hno:vals[swp i m k].ownBlock≠some go:=by
    rcases hgo _ hs with e|e
    . exact e
    . rw[e];simp
   exact ownsRow_setCell_other (ownsRow_setCell_other (hv _ hs) hno _) hno _
 . have ha2:a<vals.length:=by simpa using ha
   have hb2:b<vals.length:=by simpa using hb
   rw[hel a ha2]at e1;rw[hel b hb2]at e2;exact ak3 (hd _ _ _ _ g e1 e2)
def eO (w:World)(base n:Nat)(R:List (List Dyadic))(k:Nat)(v:Value):Prop:=
 ∃vals:List Value,vals.length=k/\w.ownsRow base 49 1 v k vals/\(∀i (h:i<vals.length),w.ownsRow base 39 3 vals[i] n (dC (R.getD i [])))/\
  ∀i j (hi:i<vals.length) (hj:j<vals.length) g,vals[i].ownBlock=some g->vals[j].ownBlock=some g->i=j
theorem eO.nil (w:World)(base n:Nat)(R:List (List Dyadic)):eO w base n R 0 (.slice none 0 0):=
 ⟨[],rfl,World.ownsRow_nil _ _ _ _,λ_ h=>absurd h (Nat.not_lt_zero _),λ_ _ h=>absurd h (Nat.not_lt_zero _)⟩
theorem eO.below {w w':World}{base n k:Nat}{R:List (List Dyadic)}{v:Value}(h:eO w base n R k v)(hb:Bw w w'):eO w' base n R k v:=by obtain⟨vals,hl,ho,hi,hd⟩:=h;exact⟨vals,hl,ownsRow_below ho hb,λi h=>ownsRow_below (hi i h) hb,hd⟩
theorem eO.push {w w':World}{base n k:Nat}{R:List (List Dyadic)}{v v' x:Value}{vals:List Value}(hl:vals.length=k)(hov:w.ownsRow base 49 1 v k vals)(hi:∀i (h:i<vals.length),w.ownsRow base 39 3 vals[i] n (dC (R.getD i [])))
 (hd:∀i j (hi:i<vals.length) (hj:j<vals.length) g,vals[i].ownBlock=some g->vals[j].ownBlock=some g->i=j)
 (hx:w.ownsRow base 39 3 x n (dC (R.getD k []))) (oW:∀g,x.ownBlock=some g->∀i (h:i<vals.length),vals[i].ownBlock≠some g)
 (ho:w'.ownsRow base 49 1 v' (k+1) (vals++[x])) (hg:w.grownBy w' v.ownBlock):eO w' base n R (k+1) v':=by
 refine⟨_,by simp[hl],ho,λi h=>?_,λi j h1 h2 g e1 e2=>?_⟩
 . by_cases hk:i<vals.length
   . rw[List.getElem_append_left hk];exact(hi i hk).kept hg (Ci (hi i hk) hov zd)
   . have hik:i=k:=by simp at h;omega
     subst hik;rw[List.getElem_append_right zo];simp only[hl,Nat.sub_self,List.getElem_cons_zero];exact hx.kept hg (Ci hx hov zd)
 . by_cases k1:i<vals.length
   . rw[List.getElem_append_left k1]at e1;by_cases k2:j<vals.length
     . rw[List.getElem_append_left k2]at e2;exact hd i j k1 k2 g e1 e2
     . have hjk:j=k:=by simp at h2;omega
       subst hjk;rw[List.getElem_append_right zo]at e2;simp only[hl,Nat.sub_self,List.getElem_cons_zero]at e2;exact absurd e1 (oW g e2 i k1)
   . have hik:i=k:=by simp at h1;omega
     subst hik;rw[List.getElem_append_right zo]at e1;simp only[hl,Nat.sub_self,List.getElem_cons_zero]at e1;by_cases k2:j<vals.length
     . rw[List.getElem_append_left k2]at e2;exact absurd e2 (oW g e1 j k2)
     . simp at h2;omega
theorem eO.tbl {w:World}{base n k:Nat}{R:List (List Dyadic)}{v:Value}(h:eO w base n R k v)(hk:R.length=k)(hn:∀r∈R,r.length=n):∃a c,v=.slice a k c/\k<=c/\cn w a (R.map λr=>r.map canon):=by
 obtain⟨vals,hl,ho,hi,hd⟩:=h;obtain⟨a,c,hv,hat,_⟩:=eI ho;subst hv;refine⟨a,c,rfl,FI ho,vals,by simp[hl,hk],hat,λi h1 h2=>?_⟩;obtain⟨a1,c1,e1,e2,_⟩:=eI (hi i h2);have hi1:i<R.length:=by simpa using h1
 have eg:R.getD i []=R[i]:=by simp[hi1]
 rw[eg]at e2;refine⟨a1,c1,?_,?_⟩
 . rw[e1];simp[hn _ (List.getElem_mem hi1)]
 . rw[List.getElem_map,<-Aj];exact e2
theorem aem (ds:List Dyadic)(j:Nat)(hj:j<ds.length):(dC ds)[j*3]?=some (.bool (aj (dN ds[j])))/\(dC ds)[j*3+1]?=some (.string (bs (nt (dN ds[j]).natAbs)))/\(dC ds)[j*3+2]?=some (.int .i64 (dE ds[j])):=by have h:=λi (hi:i<3)=>flat_get (λd=>bJ (canon d)) 3 (λ_=>rfl) ds j i hj hi;unfold dC;exact⟨(h 0 zd),(h 1 zd),(h 2 zd)⟩
theorem eO.num {w:World}{base n L:Nat}{R:List (List Dyadic)}{v:Value}(h:eO w base n R L v)(i j:Nat)(hi:i<L)(hj:j<n)(hR:R.length=L)(hr:(R.getD i []).length=n):
 ∃go cap g c,v=.slice (some ⟨go,0,none⟩) L cap/\base<=go/\base<=g/\g≠go/\w.cell? ⟨go,i,none⟩=some (.slice (some ⟨g,0,none⟩) n c)/\
  bg w g (j*3) [.bool (aj (dN ((R.getD i []).getD j 0))),.string (bs (nt (dN ((R.getD i []).getD j 0)).natAbs)),.int .i64 (dE ((R.getD i []).getD j 0))]/\(∀o,w.frozen? ⟨g,o,none⟩=false)/\
  ∀y:Dyadic,eO (((w.setCell ⟨g,j*3,none⟩ (.bool (aj (dN y)))).setCell ⟨g,j*3+1,none⟩ (.string (bs (nt (dN y).natAbs)))).setCell ⟨g,j*3+2,none⟩ (.int .i64 (dE y))) base n (R.set i ((R.getD i []).set j y)) L v:=by
 obtain⟨vals,hl,ho,hv,hd⟩:=h;have hi2:i<vals.length:=by omega
 have hrow:=hv i hi2;have hxl:(dC (R.getD i [])).length=n*3:=by rw[aen,hr]
 obtain⟨a0,cap,rfl,_,_⟩:=eI ho;obtain⟨a1,c,e1,_,hab⟩:=eI hrow;rw[e1]at hrow;rcases ho.2 with⟨h1,_⟩ |⟨go,cap',cur,h1,rQ,hgo,_⟩
 . simp at h1;omega
 simp only[Value.slice.injEq,true_and]at h1;obtain⟨rfl,rfl⟩:=h1;have hrow2:=hrow;rcases hrow.2 with⟨h1,_⟩ |⟨g,c',cur',h1,hbg,hgg,_⟩
 . simp at h1;omega
 simp only[Value.slice.injEq,true_and]at h1;obtain⟨rfl,rfl⟩:=h1;have hne:g≠go:=by rintro rfl;rw[hgo]at hgg;simp at hgg
 have hat:=aem (R.getD i []) j zo;have hg0:(R.getD i []).getD j 0=(R.getD i [])[j]'zo:=by rw[List.getD_eq_getElem?_getD,List.getElem?_eq_getElem zo];rfl
 have hc0:=kd hrow (j*3) zo;have hc1:=kd hrow (j*3+1) zo;have hc2:=kd hrow (j*3+2) zo;rw[<-List.getElem?_eq_getElem]at hc0 hc1 hc2;rw[hat.1]at hc0;rw[hat.2.1]at hc1;rw[hat.2.2]at hc2;refine⟨go,cap,g,c,rfl,rQ,hbg,hne,?_,by rw[hg0];exact nU hc0 hc1 hc2,λo=>?_,λy=>?_⟩
 . rw[kd ho i zo,e1]
 . have h4:ag w g 39 cur'.toList:=by unfold ag;simpa using hgg
   exact h4.free o
 . refine⟨vals,hl,?_,λm hm=>?_,hd⟩
   . have hn:∀(o:Nat) (u:Value) (W:World),W.ownsRow base 49 1 (.slice (some ⟨go,0,none⟩) L cap) L vals->(W.setCell ⟨g,o,none⟩ u).ownsRow base 49 1 (.slice (some ⟨go,0,none⟩) L cap) L vals:=λo u W h=>ownsRow_setCell_other h (by simpa[Value.ownBlock]using hne.symm) _;exact hn _ _ _ (hn _ _ _ (hn _ _ _ ho))
   . by_cases jz:m=i
     . subst jz;have hs:(R.set m ((R.getD m []).set j y)).getD m []=(R.getD m []).set j y:=by rw[List.getD_eq_getElem?_getD,List.getElem?_set_self zo];rfl
       rw[hs,e1,<-aeo];exact ke (ke (ke hrow _ _) _ _) _ _
     . have hs:(R.set i ((R.getD i []).set j y)).getD m []=R.getD m []:=by rw[List.getD_eq_getElem?_getD,List.getElem?_set_ne (λe=>jz e.symm),<-List.getD_eq_getElem?_getD]
       rw[hs];have hno:vals[m].ownBlock≠some g:=λe=>jz (hd m i hm hi2 g e (by rw[e1];rfl));exact ownsRow_setCell_other (ownsRow_setCell_other (ownsRow_setCell_other (hv m hm) hno _) hno _) hno _
end Go.Proofs.YtoopepmmepmfnaaGreatDoor
namespace Go.Proofs.YtoopepmmepmfnaaGreatDoor
end Go.Proofs.YtoopepmmepmfnaaGreatDoor
