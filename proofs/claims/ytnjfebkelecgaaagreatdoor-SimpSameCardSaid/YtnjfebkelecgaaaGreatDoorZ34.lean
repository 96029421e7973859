/- Package ogeelaw16: point. -/
import Derived.Test.YtnjfebkelecgaaaGreatDoorZ32
import Derived.Test.YtnjfebkelecgaaaGreatDoorZ17
set_option linter.all false
set_option maxRecDepth 100000
set_option maxHeartbeats 16000000
namespace Go.Proofs.YtnjfebkelecgaaaGreatDoor
open Go.RowKit
attribute [local go_sem ↓] Go.wp_at_zero Go.wp_at_succ
def vd (P:Nat->Nat->Dyadic)(X:Nat->Dyadic)(n:Nat):List Dyadic:=(List.range n).map λk=>sumTo (λi=>P i k*X i) (n+1)
def axa (n A B:Nat)(aS:Option Addr)(cap:Nat)(rows:List (List Raw))(aW:Option Addr)(cW:Nat)(iX:List Raw)(X:Nat->Dyadic)(w:World)(hn:n<=4)(hr:Rw n B rows)(ha:cZ w aS rows)(hl:iX.length=n+1)(hf:∀x∈iX,Fit A x)(hX:∀i,(iX.map aJ).getD i 0=X i)(hB:A+B<=1000000)(haw:At w aW (iX.flatMap bG))(hT:aM w):
 Cl 31 #[.slice aS (n+1) cap,.slice aW (n+1) cW] w λe w'=>∃a c,e=.returned (.slice a n c)/\n<=c/\At w' a (dC (vd (cF rows) X n))/\Bw w w':=by
 obtain⟨i0,hi,hz0,hz1,hz2⟩:=info_parts Tryz.aFN;obtain⟨P,hP⟩:=aK (cF rows);have hpv:∀i (h:i<rows.length) k (h2:k<rows[i].length),aJ rows[i][k]=P i k:=λi h k h2=>by rw[<-hP];exact(tv rows i k h h2).symm
 have hxv:∀i (h:i<iX.length),aJ iX[i]=X i:=λi h=>by rw[<-hX i];simp[List.getD_eq_getElem?_getD,h]
 have hrl:=λi (h:i<rows.length)=>hr.2.1 _ (List.getElem_mem h);have BZ:=λi (h:i<rows.length) k (h2:k<rows[i].length)=>hr.2.2 _ (List.getElem_mem h) _ (List.getElem_mem h2);have hL:=hr.1;rw[hP];obtain⟨Z,hZ⟩:=aK (vd P X n);have rf:Z.length=n:=by rw[<-hZ];simp[vd]
 have hZa:∀k (h:k<n),Z.take (k+1)=Z.take k++[sumTo (λi=>P i k*X i) (n+1)]:=λk h=>by rw[List.take_succ_eq_append_getElem (by rw[rf];exact h)];congr 2;simp[<-hZ,vd]
 rw[hZ];obtain⟨Hi,dF,dv,di,Ha,HL,Hrl,Gc,eK,Mi,Hl,Hf⟩:=gg hi hz0 hz1 hz2 ha hL hrl BZ hpv hxv hl hf;obtain⟨Df,fH,yE,QJ,HAB⟩:=fU haw hT rf hZa hB;clear hi hz0 hz1 hz2 ha hL hrl BZ hpv hxv hl hf haw hT rf hZa hZ hP hr hX hB;have Hb:=hbz w;go_enter Tryz.func31,Tryz.ntmps31;go_wp2_with fail;go_loopw[5,6] (λs5 x wr=>∃(k:Nat) (v:Value),k<=n/\x=ah (k:Int)/\v=s5/\wr.ownsRow w.heap.size 48 3 v k (dC (Z.take k))/\Bw w wr) (λ_ x _=>n-(intOf x).toNat);case atStart=>exact⟨0,_,Nat.zero_le _,rfl,rfl,World.ownsRow_nil _ _ _ _,Hb.out⟩
 case round=>
  clear Hb;obtain⟨k,v,hk,rfl,rfl,pv,pb⟩:=hrel;obtain⟨Sc,bj⟩:=aZ pv pb;have gM:=pb.size;clear pv pb;by_cases hlt:k<n
  . obtain⟨G,hG⟩:∃G:Nat->Dyadic,sumTo (λi=>P i k*X i)=G:=⟨_,rfl⟩;have Ls:Hid (G 0=0):=by show _=_;rw[<-hG];rfl
    have Lt:Hid (∀i,G (i+1)=G i+P i k*X i):=by show ∀i,_;intro i;rw[<-hG];rfl
    have Va:=QJ.out k hlt;rw[hG]at Va;have II:∀i,i<=n+1->Sm (A+B+20+i) (G i):=by
     intro i;induction i with
     |zero=>intro _;rw[Ls.out];exact Sm.zero _
     | succ i ih=>
       intro h;have hi1:i<rows.length:=by rw[HL.out];omega
       have hk1:k<rows[i].length:=by rw[Hrl.out i hi1];exact hlt
       have hs1:i<iX.length:=by rw[Hl.out];omega
       rw[Lt.out,<-eK.out i hi1 k hk1,<-Mi.out i hs1];exact Sm.add (ih zo) ((Sm.mul (Gc.out i hi1 k hk1).2 (Hf.out _ (List.getElem_mem hs1)).2).mono (show B+A<=A+B+20+i by omega))
    obtain⟨HGm,HZk⟩:=aZ II Va;clear hG II Va;obtain⟨wo,hwo⟩:∃wo,wo=wr:=⟨_,rfl⟩;subst hwo;have Hb:=hbz wo;have xR:decide ((k:Int)<(n:Int))=true:=by simp;omega
    obtain⟨W4,ov,ag,Hz⟩:=cE wo 48 [aj false,.string ⟨#[]⟩,ah 0];obtain⟨z0,gw,z1,fR,z2,iU⟩:=Hz.out.g3;replace Hb:=az Hb ag;go_wp2_with fail;first|refine cd (bY W4 (wo.heap.size) 0 [aj false,.string ⟨#[]⟩,ah 0]) cC ?_|refine cw (bY W4 (wo.heap.size) 0 [aj false,.string ⟨#[]⟩,ah 0]) cC ?_
    intro W5 hs;replace Hz:=dt Hz hs;obtain⟨z0,gw,z1,fR,z2,iU⟩:=Hz.out.g3;replace Hb:=bS Hb hs ZS;clear hs;have hzl:=Hz.out.lt;have Hz5:=Hz;have eX:=Hb;clear z0 z1 z2 gw fR iU Hz Hb;go_wp2_with fail;clear xR;go_loopw[8] (λy wr=>∃i:Nat,i<=n+1/\y=ah (i:Int)/\au wr wo.heap.size 48 (bG (canon (G i)))/\Bw wo wr) (λy _=>n+1-(intOf y).toNat);case atStart=>exact⟨0,Nat.zero_le _,rfl,by rw[Ls.out];exact Hz5.out,eX.out⟩
    case round=>
     clear Hz5 eX;obtain⟨i,hi2,rfl,hz,pb⟩:=hrel;obtain⟨amA,FV⟩:=aZ pb (aO bj.out pb);have aC7:=pb.size;obtain⟨S,hS⟩:=aK (G i);rw[hS]at hz;have Hz:Hid (au wr wo.heap.size 48 [aj (aC (dN S)),ai (nt (dN S).natAbs),ah (dE S)]):=hz;have OY:=Hz.out.lt;clear hz;by_cases fS:i<n+1
     . have hir:i<rows.length:=by rw[HL.out];exact fS
       have Wl:i<iX.length:=by rw[Hl.out];exact fS
       have hpa:=HAB.out;obtain⟨b,o,a1,c1,hab,hcell,hat⟩:=(Ha.out.below FV.out).row i hir;have hrl:=Hrl.out i hir;rw[hrl]at hcell;have hkr:k<rows[i].length:=by rw[hrl];exact hlt
       obtain⟨sx,mx,ex,nC⟩:=pJ (rows[i][k]);obtain⟨b2,o2,iM,q0,q1,q2⟩:=hat.num k hkr nC;obtain⟨sy,my,ey,WH⟩:=pJ (iX[i]);obtain⟨b9,o9,Vd,p0,p1,p2⟩:=(Df.out.below FV.out).num i Wl WH;have hpv:=eK.out i hir k hkr;have pM:=Gc.out i hir k hkr;have hf2:=Hf.out _ (List.getElem_mem Wl);have hxv:=Mi.out i Wl;rw[nC]at hpv pM;rw[WH]at hf2 hxv;obtain⟨Y,hY⟩:=aK (aJ (sx,mx,ex) *aJ (sy,my,ey));obtain⟨S2,Er⟩:=aK (S+Y);have hnx:G (i+1)=S2:=by rw[Lt.out,hS,<-hpv,<-hxv,hY,Er]
       have hYs:Sm (A+B+20) Y:=by rw[<-hY];exact(Sm.mul pM.2 hf2.2).mono zo
       have iL:=HGm.out i zo;rw[hS]at iL;have fw:=λb W9 (hbl:au W9 b 48 [aj sx,ai mx,ah ex,aj sy,ai my,ah ey]) (xJ:aM W9)=>xy sx mx ex sy my ey Y (A+B) hY b 2 48 W9 (pM.mono zo) (hf2.mono zo) zo hbl xJ;have had:=λb W9 (hbl:au W9 b 48 [aj (aC (dN S)),ai (nt (dN S).natAbs),ah (dE S),aj (aC (dN Y)),ai (nt (dN Y).natAbs),ah (dE Y)]) (xJ:aM W9)=>DW (aC (dN S)) (nt (dN S).natAbs) (dE S) (aC (dN Y)) (nt (dN Y).natAbs) (dE Y) S2 (A+B+30) (by show aJ (canon S)+aJ (canon Y)=S2;rw[cp,cp];exact Er) b 2 48 W9 ((iL.mono zo).fit zo) ((hYs.mono zo).fit zo) zo hbl xJ;have i8:=Ai (n+1) cap i (i:Int) hab fS rfl;have i9:=kP (n+1) cW i (i:Int) Vd fS rfl;have i7:=EW n c1 k (k:Int) iM hlt rfl;rw[Nat.mul_one]at i8;have Hp:Hid (bH wr b9 (o9+i*3) [aj sy,ai my,ah ey]):=jH p0 p1 p2;have Hu:Hid (bH wr b (o+i) [.slice a1 n c1]):=λj hj=>by
        obtain rfl:j=0:=by simp at hj;omega
        exact hcell
       have Hq:Hid (bH wr b2 (o2+k*3) [aj sx,ai mx,ah ex]):=jH q0 q1 q2;have lb9:b9<w.heap.size:=by have h3:=Df.out;rw[Vd]at h3;exact h3.lt (by intro h0;have:=congrArg List.length h0;rw[kj bG 3 (λ_=>rfl)]at this;rw[List.length_nil]at this;omega)
       have lb:b<w.heap.size:=by obtain⟨b',o',_,_,h1,h2,_⟩:=Ha.out.row i hir;rw[hab]at h1;simp only[Option.some.injEq,Addr.mk.injEq,and_true]at h1;rw[h1.1];exact World.block_lt_of_cell? w _ h2
       have oJ:b2<w.heap.size:=by
        obtain⟨b',o',a1',c1',h1,h2,h3⟩:=Ha.out.row i hir;have h4:=cell_later FV.out h2;have e1:b'=b:=by rw[hab]at h1;simp at h1;exact h1.1.symm
        have e2:o'=o:=by rw[hab]at h1;simp at h1;exact h1.2.symm
        rw[e1,e2,hrl]at h4;rw[hcell]at h4;simp only[Option.some.injEq,Value.slice.injEq,true_and]at h4;rw[<-h4.1]at h3;subst iM;exact h3.lt (by intro h0;have:=congrArg List.length h0;rw[kj bG 3 (λ_=>rfl)]at this;rw[List.length_nil]at this;omega)
       obtain⟨gB,pp,pk,AY⟩:=ej (fH.out.below FV.out) fw had hnx;clear fw had hnx hYs iL Er hY pM hf2 hpv hxv nC WH q0 q1 q2 p0 p1 p2 hab iM Vd hat hcell hS pb hrl hpa;have Hb:Hid (Bw wo wr):=amA;obtain⟨z0,gw,z1,fR,z2,iU⟩:=Hz.out.g3;obtain⟨p0,p1,p2⟩:=Hp.out.w3;have u0:=Hu.out.w1;obtain⟨q0,q1,q2⟩:=Hq.out.w3;have HT:Hid (aM wr):=gB.out;go_wp2_with fail;refine bV (λw'=>aF w' (wo.heap.size) 0 (aj (aC (dN S)))/\aF w' (wo.heap.size) 1 (ai (nt (dN S).natAbs))/\aF w' (wo.heap.size) 2 (ah (dE S))/\aF w' b9 (o9+i*3) (aj sy)/\aF w' b9 (o9+i*3+1) (ai my)/\aF w' b9 (o9+i*3+2) (ah ey)/\aF w' b (o+i) (.slice a1 n c1)/\aF w' b2 (o2+k*3) (aj sx)/\aF w' b2 (o2+k*3+1) (ai mx)/\aF w' b2 (o2+k*3+2) (ah ex)) (λi=>Nat.blt i 16) [(0,true),(1,true),(2,true),(3,true),(4,true),(5,true),(6,true),(7,true),(8,true),(9,true),(10,true),(11,true),(12,false),(13,false),(14,false),(15,false),(16,false)] zk zk rfl zk zc ⟨z0,z1,z2,p0,p1,p2,u0,q0,q1,q2⟩ ?_;iterate 12 (refine pT rfl rfl ?_ (by intro w' ⟨q0,q1,q2,q3,q4,q5,q6,q7,q8,q9⟩;go_simp;try with_reducible rfl);try simp only[UU])
       refine aR rfl rfl (λK hK=>?_);go_simp;refine hK _ _ (λ_=>⟨aV z0,aV z1,aV z2,aV p0,aV p1,aV p2,aV u0,aV q0,aV q1,aV q2⟩) ?_;try simp only[UU]
       refine bZ (λw6=>au w6 (wr.heap.size) 48 [aj sx,ai mx,ah ex,aj sy,ai my,ah ey]/\Bw wr w6) (by first|exact eo|exact eu) ?_;rintro w6 ⟨KH,ag⟩;have aE0:=Hz.out.lt;replace Hz:=kB Hz ag;replace Hp:=kW Hp ag;replace Hu:=kW Hu ag;replace Hq:=kW Hq ag;replace HT:=kT HT ag;have jL:=ar KH;clear KH;obtain⟨z0,gw,z1,fR,z2,iU⟩:=Hz.out.g3;obtain⟨p0,p1,p2⟩:=Hp.out.w3;have u0:=Hu.out.w1;obtain⟨q0,q1,q2⟩:=Hq.out.w3;obtain⟨uQ,uR,uS,rY,rZ,m15⟩:=jL.out.c6;replace Hb:=az Hb ag;refine aR rfl rfl (λK hK=>?_);go_simp;with_reducible refine(pp.out _ _ jL.out (by first|exact HT.out|exact aM.drew HT.out|exact aM.alloc HT.out _|exact aM.drew (aM.alloc HT.out _) |exact aM.alloc (aM.drew HT.out) _)).mono ?_
       rintro e w7 ⟨rfl,hq⟩;have ag:Bw w6 w7:=by first|exact hq|exact bo hq
       clear z0 gw z1 fR z2 iU p0 p1 p2 u0 q0 q1 q2 uQ uR uS rY rZ m15;obtain⟨Hz,z0,gw,z1,fR,z2,iU⟩:=bg Hz ag;replace Hp:=kW Hp ag;replace Hu:=kW Hu ag;replace Hq:=kW Hq ag;replace HT:=kT HT ag;replace jL:=kB jL ag;obtain⟨p0,p1,p2⟩:=Hp.out.w3;have u0:=Hu.out.w1;obtain⟨q0,q1,q2⟩:=Hq.out.w3;obtain⟨uQ,uR,uS,rY,rZ,m15⟩:=jL.out.c6;replace Hb:=az Hb ag;refine hK _ _ (λ_=>⟨z0,z1,z2,p0,p1,p2,u0,q0,q1,q2⟩) ?_;try simp only[UU]
       refine aR rfl rfl (λK hK=>?_);go_simp;refine hK _ _ (λ_=>⟨aV z0,aV z1,aV z2,aV p0,aV p1,aV p2,aV u0,aV q0,aV q1,aV q2⟩) ?_;try simp only[UU]
       refine bZ (λw8=>au w8 (w7.heap.size) 48 [aj (aC (dN S)),ai (nt (dN S).natAbs),ah (dE S),aj (aC (dN Y)),ai (nt (dN Y).natAbs),ah (dE Y)]/\Bw w7 w8) (by first|exact eo|exact eu) ?_;rintro w8 ⟨qm2,ag⟩;clear z0 gw z1 fR z2 iU p0 p1 p2 u0 q0 q1 q2 uQ uR uS rY rZ m15;have aE1:=Hz.out.lt;have aEf:=jL.out.lt;replace Hz:=kB Hz ag;replace Hp:=kW Hp ag;replace Hu:=kW Hu ag;replace Hq:=kW Hq ag;replace HT:=kT HT ag;replace jL:=kB jL ag;have yL:=ar qm2;clear qm2;obtain⟨z0,gw,z1,fR,z2,iU⟩:=Hz.out.g3;obtain⟨p0,p1,p2⟩:=Hp.out.w3;have u0:=Hu.out.w1;obtain⟨q0,q1,q2⟩:=Hq.out.w3;obtain⟨uQ,uR,uS,rY,rZ,m15⟩:=jL.out.c6;obtain⟨Pn,Po,Pp,Pq,Pr,Ps⟩:=yL.out.c6;replace Hb:=az Hb ag;refine aR rfl rfl (λK hK=>?_);go_simp;with_reducible refine(pk.out _ _ yL.out (by first|exact HT.out|exact aM.drew HT.out|exact aM.alloc HT.out _|exact aM.drew (aM.alloc HT.out _) |exact aM.alloc (aM.drew HT.out) _)).mono ?_
       rintro e w9 ⟨rfl,hq⟩;have ag:Bw w8 w9:=by first|exact hq|exact bo hq
       clear z0 gw z1 fR z2 iU p0 p1 p2 u0 q0 q1 q2 uQ uR uS rY rZ m15 Pn Po Pp Pq Pr Ps;obtain⟨Hz,z0,gw,z1,fR,z2,iU⟩:=bg Hz ag;replace Hp:=kW Hp ag;replace Hu:=kW Hu ag;replace Hq:=kW Hq ag;replace HT:=kT HT ag;replace jL:=kB jL ag;replace yL:=kB yL ag;obtain⟨p0,p1,p2⟩:=Hp.out.w3;have u0:=Hu.out.w1;obtain⟨q0,q1,q2⟩:=Hq.out.w3;obtain⟨uQ,uR,uS,rY,rZ,m15⟩:=jL.out.c6;obtain⟨Pn,Po,Pp,Pq,Pr,Ps⟩:=yL.out.c6;replace Hb:=az Hb ag;refine hK _ _ (λ_=>⟨z0,z1,z2,p0,p1,p2,u0,q0,q1,q2⟩) ?_;try simp only[UU]
       refine aR rfl rfl (λK hK=>?_);go_simp;refine hK _ _ (λh=>absurd h zd) ?_;try simp only[UU]
       clear z0 gw z1 fR z2 iU p0 p1 p2 u0 q0 q1 q2 uQ uR uS rY rZ m15 Pn Po Pp Pq Pr Ps;refine bZ (bY w9 (wo.heap.size) 0 [aj (aC (dN S2)),ai (nt (dN S2).natAbs),ah (dE S2)]) cC ?_;intro fx hs;replace Hz:=dt Hz hs;replace Hp:=WQ Hp hs zo;replace Hu:=WQ Hu hs zo;replace Hq:=WQ Hq hs zo;replace jL:=kS jL hs zo;replace yL:=kS yL hs zo;obtain⟨z0,gw,z1,fR,z2,iU⟩:=Hz.out.g3;obtain⟨p0,p1,p2⟩:=Hp.out.w3;have u0:=Hu.out.w1;obtain⟨q0,q1,q2⟩:=Hq.out.w3;obtain⟨uQ,uR,uS,rY,rZ,m15⟩:=jL.out.c6;obtain⟨Pn,Po,Pp,Pq,Pr,Ps⟩:=yL.out.c6;replace Hb:=bS Hb hs ZS;clear hs;simp only[bu];go_wp2;go_roundw;case rel=>exact⟨i+1,by omega,by go_num,by rw[AY.out];exact Hz.out,Hb.out⟩
       case measure=>exact bI
     . obtain rfl:i=n+1:=by omega
       have hst:dC (Z.take (k+1))=dC (Z.take k)++[aj (aC (dN S)),ai (nt (dN S).natAbs),ah (dE S)]:=by rw[HZk.out,hS,BA];rfl
       have hov:=ownsRow_below Sc.out pb;obtain⟨dQ,cn⟩:=aZ hov hst;clear hst hov hS pb;have Hb:=hbz wr;obtain⟨z0,z1,z2⟩:=Hz.out.c3;have P0:=z0;have P1:=z1;have P2:=z2;have aEY:=Hz.out.lt;obtain⟨W6,uz,ag,Hc⟩:=cE wr 48 [aj (aC (dN S)),ai (nt (dN S).natAbs),ah (dE S)];obtain⟨Hz,z0,z1,z2⟩:=cm Hz ag;obtain⟨c0,c1,c2⟩:=Hc.out.c3;replace Hb:=az Hb ag;have dR:=ownsRow_below dQ.out Hb.out;have ky:=Hb.out.size;go_wp2_with (at_builtin;refine wpList_append_own_at _ rfl _ _ 32 rfl w.heap.size 48 i0 _ 3 32 Tryz.underlying32 Hi.out dF.out dv.out di.out rfl zd _ k (dC (Z.take k)) rfl dR ⟨wr.heap.size,0,none⟩ 1 1 [aj (aC (dN S)),ai (nt (dN S).natAbs),ah (dE S)] rfl rfl (gW Hc.out) zy zx zo zo ?_;intro v' w7 fg fM _ gY;obtain⟨g',sL,rfl⟩:=ownsRow_succ fg);go_roundw;case rel=>exact⟨k+1,_,by omega,by go_num,rfl,by rw[cn.out];exact fg,(aO FV.out Hb.out).grown fM zo (λj e=>dX dR j e)⟩
       case measure=>exact bI
  . obtain rfl:k=n:=by omega
    have uB:Z.take k=Z:=List.take_of_length_le (by rw[yE.out];exact Nat.le_refl _);have ho:=Sc.out;rw[uB]at ho;obtain⟨a2,cap2,rfl,jR,_⟩:=dS ho;have hsl:=yl ho;obtain⟨wN,Gz⟩:=aZ jR hsl;clear ho jR hsl uB Sc;go_wp2;refine bodyPost_ret (results_tmp rfl _ _ _) rfl ⟨a2,cap2,rfl,Gz.out.1,wN.out,bj.out⟩
end Go.Proofs.YtnjfebkelecgaaaGreatDoor
