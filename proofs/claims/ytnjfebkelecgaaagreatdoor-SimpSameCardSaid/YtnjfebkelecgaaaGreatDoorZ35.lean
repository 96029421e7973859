/- Plain: a form's numbers at the corners and at shares,as the law asks them. -/
import Derived.Test.YtnjfebkelecgaaaGreatDoorZ33
import Derived.Test.YtnjfebkelecgaaaGreatDoorZ34
import Derived.Test.YtnjfebkelecgaaaGreatDoorZ31
import Derived.Test.YtnjfebkelecgaaaGreatDoorZ29
import Derived.Test.YtnjfebkelecgaaaGreatDoorZ16
import Derived.Test.YtnjfebkelecgaaaGreatDoorZ27
set_option linter.all false
set_option maxRecDepth 100000
set_option maxHeartbeats 16000000
namespace Go.Proofs.YtnjfebkelecgaaaGreatDoor
def ag4 (X:Nat->Dyadic)(V:Nat)(rows:List (List Raw))(k:Nat):yb X V (rows.map λr=>r.map aJ) k=sumTo (λj=>cF rows j k*X j) (V+1):=by unfold yb;exact sumTo_congr _ (λj _=>by rw[acm])
def ahs (Y Z:Nat->Dyadic)(V:Nat)(ts:List aQ)(h:∀k,k<V->Y k=Z k):df (fD Y V) ts=df (fD Z V) ts:=by
 have:fD Y V=fD Z V:=by
  funext m
  show fJ Y 1 m V=fJ Z 1 m V
  rw[Xi,Xi,Xh _ _ h]
 rw[this]
def acS (Y:Nat->Dyadic)(V:Nat)(ts:List aQ):pI Y V ts ts.length=df (fD Y V) ts:=by rw[Ub Y V ts _ (Nat.le_refl _),List.take_length]
def aAH (rows:List (List Raw))(j k:Nat)(h:j<rows.length):lV rows[j] k=cF rows j k:=by unfold lV cF dx;simp[List.getD_eq_getElem?_getD,h]
def az0 (j n:Nat)(h:j<n):sumTo (tH j) n=1:=by have:=aji j n h (λ_=>1);rw[<-this];exact sumTo_congr _ (λk _=>by grind)
def aqi {V D:Nat}{rows:List (List Raw)}{ts:List aQ}(hd:fy V D ts)(j i:Nat)(hj:j<V+1)(hr:j<rows.length)(hi:i<cnt V D)(hx:((bK (V+1) D).getD i []).getD j 0=D)(hD:0<D):(fQ V D (rows.map λr=>r.map aJ) (jp ts)).getD i 0=pI (lV rows[j]) V ts ts.length:=by
 rw[ayP V D j i _ hj hi hx hD,acS];show iR (tH j) V D (fQ V D _ (ts.map λt=>(aJ t.2,t.1.map UInt8.toNat)))=_
 rw[aio _ _ _ _ _ hd (az0 j (V+1) hj)];refine ahs _ _ _ _ (λk _=>?_);rw[ag4,aji j (V+1) hj (λj=>cF rows j k),aAH rows j k hr]
def aw9 {V D:Nat}{rows:List (List Raw)}{ts:List aQ}(X:Nat->Dyadic)(hd:fy V D ts)(hs:sumTo X (V+1)=1)(xs:List Raw)(hx:xs=(vd (cF rows) X V).map canon):iR X V D (fQ V D (rows.map λr=>r.map aJ) (jp ts))=pI (lV xs) V ts ts.length:=by
 rw[acS];show iR X V D (fQ V D _ (ts.map λt=>(aJ t.2,t.1.map UInt8.toNat)))=_
 rw[aio _ _ _ _ _ hd hs];refine ahs _ _ _ _ (λk hk=>?_);rw[ag4,hx];unfold lV vd;simp[List.getD_eq_getElem?_getD,hk,cp]
def an5 (X:Dyadic):(if eG X<0 then-X else X)=gL X*X:=by
 rw[Yh];by_cases h:X<0
 . rw[if_pos h,if_pos ((Ik X).2 h)];grind
 . rw[if_neg h,if_neg (λh2=>h ((Ik X).1 h2))];split
   . rename_i h0;rw[h0];grind
   . grind
def ayQ {V A D N:Nat}{rows:List (List Raw)}{ts:List aQ}{F:List Dyadic}(hr:Rw V 192 rows)(hp:dJ V 192 D ts)(h12:ts.length<=12)(hV1:1<=V)(kN:V<=3)(hD:D<=5)(hN:cnt V D=N)(BN:∀d∈F,Sm A d)(hA:A<=100000)(hF:fQ V D (rows.map λr=>r.map aJ) (jp ts)=F):
 Sm 1000 (dz V (cF rows))/\Sm 1000 (gL (dz V (cF rows)) *dz V (cF rows))/\Sm 6000 (cP (gL (dz V (cF rows)) *dz V (cF rows)) D)/\pD V (fA V (cF rows) V) (bK (V+1) D) F N=bP (dA (cP (gL (dz V (cF rows)) *dz V (cF rows)) D) ts):=by
 have pK:∀a b,a<=V->b<V->Sm 192 (cF rows a b):=λa b ha hb=>by rw[tv rows a b (by rw[hr.1];omega) (by rw[hr.2.1 _ (List.getElem_mem _)];exact hb)];exact(hr.2.2 _ (List.getElem_mem _) _ (List.getElem_mem _)).2
 have hFm:∀j,j<=V->dJ V 1000 1 (fA V (cF rows) V j)/\(fA V (cF rows) V j).length<=8:=λj hj=>by
  refine⟨⟨(ac6 (B:=192) hV1 zo pK zo V (Nat.le_refl _) j).mono zd,ac5 V _ V j⟩,?_⟩;unfold fA;split
  . exact Nat.le_trans (Ue V _ V) zo
  . exact Nat.le_trans (Pe V _ _) zo
 have h1:Sm 1000 (dz V (cF rows)):=(TU (B:=192+1) hV1 zo (λi j hi hj=>Il pK i j hi hj)).mono zd;have h2:Sm 1000 (gL (dz V (cF rows)) *dz V (cF rows)):=(Yl (B:=192) zo pK).mono zd;have h3:Sm 6000 (cP (gL (dz V (cF rows)) *dz V (cF rows)) D):=(Fu h2 D).mono zo;refine⟨h1,h2,h3,?_⟩;have gy:(bK (V+1) D).length=N:=by rw[nS,hN]
 have hR:∀k,k<(bK (V+1) D).length->((bK (V+1) D).getD k []).sum<=D:=λk hk=>by
  have:(bK (V+1) D).getD k []∈bK (V+1) D:=by rw[List.getD_eq_getElem?_getD,List.getElem?_eq_getElem hk];exact List.getElem_mem hk
  exact Nat.le_of_eq ((kV V D _).1 this).2
 have aB5:N<=216:=by rw[<-hN];exact Nat.le_trans (MQ V D) (XL kN hD)
 have hb:=abY (D:=D) hFm BN kN hR hD zo N zo zo;have hb2:=dJ.mono hb (show _<=30000000 by omega) (Nat.le_refl D);have hsc:gj V 30000000 (bP (dA (cP (gL (dz V (cF rows)) *dz V (cF rows)) D) ts)):=by
  have hl:(dA (cP (gL (dz V (cF rows)) *dz V (cF rows)) D) ts).length=ts.length:=by simp[dA]
  refine gj.mono (Eb (B:=10000) zo (λt ht=>?_) zo (λt ht=>?_) zo) zo
  . obtain⟨x,hx,rfl⟩:=List.mem_map.1 ht;exact hp.1.1.2.1 x hx
  . obtain⟨x,hx,rfl⟩:=List.mem_map.1 ht;show Sm 10000 (aJ (canon (aJ x.2*_)))
    rw[cp];exact(Sm.mul (hp.1.2 x hx).2 h3).mono zd
 rw[<-hN];rw[<-hN]at hb2;exact aoS hV1 kN hFm BN hD zo hp.2 hF.symm hb2.1 hsc
def azi {f:Nat->Dyadic}{B:Nat}(n:Nat)(h:∀k,k<n->Sm B (f k)):Sm (B+n) (sumTo f n):=by
 induction n with
 |zero=>exact Sm.zero _
 |succ n ih=>rw[sumTo,<-Nat.add_assoc];exact(ih (λk hk=>h k zo)).add ((h n zo).mono zo)
def axr {P:Nat->Nat->Dyadic}{X:Nat->Dyadic}{V A B:Nat}(hP:∀a b,a<=V->b<V->Sm A (P a b))(hX:∀k,k<=V->Sm B (X k)):∀d∈vd P X V,Sm (A+B+(V+1)) d:=by intro d hd;unfold vd at hd;obtain⟨k,hk,rfl⟩:=List.mem_map.1 hd;exact azi _ (λi hi=>(hP i k zo (List.mem_range.1 hk)).mul (hX i zo))
def ayY (S:Dyadic)(zs:List Raw)(X:Nat->Dyadic)(hS:1-jQ zs=S)(hX:∀i,((canon S::zs).map aJ).getD i 0=X i):sumTo X (zs.length+1)=1:=by
 have h:=azh X (canon S::zs) (λk hk=>by rw[<-hX k,List.getD_eq_getElem?_getD,List.getElem?_map,List.getElem?_eq_getElem hk];rfl);rw[List.length_cons]at h;rw[h];show aJ (canon S)+jQ zs=1
 rw[cp,<-hS];grind
def awe (ys:List Raw)(k:Nat)(hk:k<=ys.length):(ys.flatMap bG).take (k*3)=(ys.take k).flatMap bG:=by
 have e0:ys.flatMap bG=(ys.take k).flatMap bG++(ys.drop k).flatMap bG:=by rw[<-List.flatMap_append,List.take_append_drop]
 have e1:((ys.take k).flatMap bG).length=k*3:=by rw[kj bG 3 (λ_=>rfl),List.length_take,Nat.min_eq_left hk]
 rw[e0,<-e1,List.take_left]
def art :Fit 192 (false,[],0):=by rw[<-apI];exact(Sm.zero 192).fit zd
def slN :Value->Nat
 | .slice _ n _=>n
 |_=>0
def ax9 {w:World}{base:Nat}{e:TypeId}{n cap g:Nat}{y0:Raw}{zs:List Raw}{S:Dyadic}(h:w.ownsRow base e 3 (.slice (some ⟨g,0,none⟩) n cap) n ((y0::zs).flatMap bG)):
 (((w.setCell ⟨g,0,none⟩ (aj (aC (dN S)))).setCell ⟨g,1,none⟩ (ai (nt (dN S).natAbs))).setCell ⟨g,2,none⟩ (ah (dE S))).ownsRow base e 3 (.slice (some ⟨g,0,none⟩) n cap) n ((canon S::zs).flatMap bG):=
 kX (kX (kX h 0 _) 1 _) 2 _
end Go.Proofs.YtnjfebkelecgaaaGreatDoor
namespace Go.Proofs.YtnjfebkelecgaaaGreatDoor
open Go.RowKit
attribute [local go_sem ↓] Go.wp_at_zero Go.wp_at_succ
def FrZ (PV d:Int)(ts:List aQ)(rows:List (List Raw))(N:Nat)(s s':Value)(w:World):Prop:=
 (∃(c:Int) (g:Nat),c≠0/\s'=ah c/\s=.pointer (some ⟨g,0,none⟩)/\au w g 34 [ah 0,ah 0,.slice none 0 0])\/(rF PV ts rows d=0/\∃g b:Nat,s=.pointer (some ⟨g,0,none⟩)/\s'=ah 0/\au w g 34 [ah PV,ah d,.slice (some ⟨b,0,none⟩) N N]/\At w (some ⟨b,0,none⟩) (dC (fQ (rows.length-1) d.toNat (rows.map λr=>r.map aJ) (jp ts))))
def an0 (tp:List aQ)(rows:List (List Raw))(d:Int)(xs:List Raw):Prop:=Tb tp/\Ta rows/\d<=5/\xs.length<=4/\∀x∈xs,okW x
def ayO (PV:Int)(aP:Option Addr)(nP fX:Nat)(tp:List aQ)(a:Option Addr)(L cap:Nat)(rows:List (List Raw))(d:Int)(xa:Option Addr)(xn xc:Nat)(xs:List Raw)(w:World)
 (Jv:tp.length=nP) (rh:At w aP (tp.flatMap aY)) (OO:Sl aP nP fX) (hL:rows.length=L) (hcap:L<=cap) (ha:cZ w a rows) (hX:xs.length=xn) (hx:At w xa (xs.flatMap bG)) (Af:Sl xa xn xc) (hT:aM w):
 Cv 5 #[.agg #[ah PV,.slice aP nP fX],.slice a L cap,ah d,.slice xa xn xc] w (aj true):=by
 obtain⟨Hwp,Hvs,vw,Df,xe,wM,HsP,HL,QW,Ha,HX,Hx⟩:=gg (λW (hW:Bw w W)=>aAr PV aP fX nP tp W Jv (rh.below hW)) (λW (hW:Bw w W)=>az9 rows L a cap W hL (ha.below hW)) (λW (hW:Bw w W) (h4:xn<=4)=>Ud xs xn xa xc W hX zo (hx.below hW)) (λW (hW:Bw w W)=>aoQ W (hT.below hW)) Jv rh OO hL hcap ha hX hx;obtain⟨HsX,HT⟩:=aZ Af hT;obtain⟨i0,hi,hz0,hz1,hz2⟩:=info_parts Tryz.aFN;obtain⟨Hi,dF,dv,di⟩:=ej hi hz0 hz1 hz2;clear Jv rh OO hL hcap ha hX hx Af hT hi hz0 hz1 hz2;obtain⟨W,dK,Hb,Hp⟩:=jD w 24 [ah PV,.slice aP nP fX];obtain⟨p0,p1⟩:=Hp.out.c2;have tM:=Hb;replace Hb:=hbz W;go_enter Tryz.func5,Tryz.ntmps5;go_upto_region 1 with fail
 go_cut[45] (λs48 wx=>∃b:Bool,s48=aj b/\(b=false->an0 tp rows d xs)/\Bw W wx);case first=>
  go_wp2_with fail;refine(Hwp.out _ (aO tM.out Hb.out)).mono ?_;rintro e w1 ⟨⟨b1,rfl,hb1⟩,ag⟩;obtain⟨Hp,p0,p1⟩:=bi Hp ag;replace Hb:=az Hb ag;cases b1 with
  |true=>go_wp2_with fail;go_meet;exact⟨true,rfl,λh=>(by cases h),Hb.out⟩
  | false=>
    have Hq1:=ar (hb1 rfl);clear hb1;go_wp2_with fail;refine(Hvs.out _ (aO tM.out Hb.out)).mono ?_;rintro e w3 ⟨⟨b3,rfl,hb3⟩,ag⟩;obtain⟨Hp,p0,p1⟩:=bi Hp ag;replace Hb:=az Hb ag;cases b3 with
    |true=>go_wp2_with fail;go_meet;exact⟨true,rfl,λh=>(by cases h),Hb.out⟩
    | false=>
      have Gt:=ar (hb3 rfl);clear hb3;by_cases g4:5<d
      . go_wp2_with fail;go_meet;exact⟨true,rfl,λh=>(by cases h),Hb.out⟩
      . by_cases g5:4<xn
        . have g5i:(4:Int)<(xn:Int):=by omega
          go_wp2_with fail;go_meet;exact⟨true,rfl,λh=>(by cases h),Hb.out⟩
        . have g5i:¬(4:Int)<(xn:Int):=by omega
          go_wp2_with fail;refine(vw.out _ (aO tM.out Hb.out) zo).mono ?_;rintro e w4 ⟨⟨b4,rfl,hb4⟩,ag⟩;obtain⟨Hp,p0,p1⟩:=bi Hp ag;replace Hb:=az Hb ag;have Hq4:=ar hb4;clear hb4;go_wp2_with fail;go_meet;exact⟨b4,by rw[decide_eq_false (show ¬(5:Int)<d by omega),decide_eq_false (show ¬(4:Int)<(xn:Int)by omega)];rfl,λh=>⟨Hq1.out,Gt.out,by omega,by rw[HX.out];omega,Hq4.out h⟩,Hb.out⟩
 obtain⟨b,rfl,hok,qb⟩:=hcut;obtain⟨w5,xX⟩:∃u,u=wc:=⟨_,rfl⟩;subst xX;replace Hp:=kB Hp qb;obtain⟨p0,p1⟩:=Hp.out.c2;replace Hb:=ar (aO tM.out qb);clear qb tM Hwp Hvs vw;cases b with
 |true=>clear hok;go_wp2_with fail;refine(Df.out _ Hb.out).mono ?_;rintro e w6 ⟨rfl,ag⟩;obtain⟨Hp,p0,p1⟩:=bi Hp ag;replace Hb:=az Hb ag;go_wp2;refine bodyPost_ret (results_tmp rfl _ _ _) rfl ⟨rfl,Hb.out⟩
 | false=>
   obtain⟨hq1,rA,hd5,JS,hxo⟩:=hok rfl;clear hok;have hfit:∀r∈rows,∀c∈r,Fit 192 c:=λr hr c hc=>Xv ((rA.2 r hr).2 c hc);have Cw:∀t∈tp,Fit 192 t.2:=λt ht=>Xv (hq1.2 t ht).2;have hL4:L<=4:=by rw[<-HL.out];exact rA.1
   have vV:nP<=12:=by rw[<-xe.out];exact hq1.1
   have hlp:∀t∈tp,t.1.length<=9223372036854775807:=λt ht=>by have:=(hq1.2 t ht).1;omega
   have dG:∀x∈xs,Fit 192 x:=λx hx=>Xv (hxo x hx);obtain⟨N,hN⟩:=aK (cnt (L-1) d.toNat);obtain⟨Hto,tX,Htp,fO,HN,Hx4⟩:=iq (λW (hW:Bw w W)=>azK PV aP nP fX tp a L cap rows 192 N d W xe.out zo (wM.out.below hW) Cw hlp HL.out hL4 QW.out (Ha.out.below hW) hfit zd zd (HT.out.below hW) zo hN) hfit Cw dG hN JS;clear hfit Cw hlp dG hN hq1 rA hxo JS;have jI:=Hb;replace Hb:=hbz w5;go_upto_region 3 with fail
   go_cut[9,10] (λYc s12 wx=>FrZ PV d tp rows N Yc s12 wx/\Bw w5 wx);case first=>
    go_wp2_with fail;refine(Hto.out _ (aO jI.out Hb.out)).mono ?_;rintro e wa ⟨h1,ag⟩;obtain⟨Hp,p0,p1⟩:=bi Hp ag;replace Hb:=az Hb ag;rcases h1 with⟨IH,c1,hc1,rfl⟩ |⟨IH,b1,rfl,lH⟩
    . skip
      have aDe:=Hb.out.size;have au9:=Hp.out.lt;obtain⟨Wd,asy,ag,Hf⟩:=cE wa 34 [ah 0,ah 0,.slice none 0 0];obtain⟨Hp,p0,p1⟩:=bi Hp ag;obtain⟨f0,ff0,f1,ff1,f2,ff2⟩:=Hf.out.g3;replace Hb:=az Hb ag;go_wp2_with fail;go_meet;exact⟨.inl ⟨c1,_,hc1,rfl,rfl,((Hf.out.set 0 _).set 1 _).set 2 _⟩,((Hb.out.setCell zp _).setCell zp _).setCell zp _⟩
    . skip
      have QD:Hid (At wa (some ⟨b1,0,none⟩) (dC (fQ (rows.length-1) d.toNat (rows.map λr=>r.map aJ) (jp tp)))):=lH;clear lH;have au9:=Hp.out.lt;obtain⟨Wd,asy,ag,Hf⟩:=cE wa 34 [ah PV,ah d,.slice (some ⟨b1,0,none⟩) N N];obtain⟨Hp,p0,p1⟩:=bi Hp ag;replace QD:=kA QD ag;obtain⟨f0,f1,f2⟩:=Hf.out.c3;replace Hb:=az Hb ag;go_wp2_with fail;go_meet;exact⟨.inr ⟨IH,_,b1,rfl,rfl,Hf.out,QD.out⟩,Hb.out⟩
   obtain⟨Jj,qb⟩:=hcut;obtain⟨w6,xY⟩:∃u,u=wc:=⟨_,rfl⟩;subst xY;replace Hp:=kB Hp qb;obtain⟨p0,p1⟩:=Hp.out.c2;replace Hb:=ar (aO jI.out qb);clear qb jI Hto;rcases Jj with⟨c1,g1,hc1,rfl,rfl,IZ⟩ |⟨IH,g1,b1,rfl,rfl,IZ,lH⟩
   . have Hf:=ar IZ;clear IZ;have kC:=Hb;replace Hb:=hbz w6;obtain⟨f0,f1,f2⟩:=Hf.out.c3;go_wp2_with fail;refine(Df.out _ kC.out).mono ?_;rintro e w7 ⟨rfl,ag⟩;have AO:=ar (aO kC.out ag);go_wp2;refine bodyPost_ret (results_tmp rfl _ _ _) rfl ⟨rfl,AO.out⟩
   . obtain⟨V,hV1,kN,rfl,hl,h9,hr,hd0,hp⟩:=aiW (by rw[HL.out];exact hL4) tX.out Htp.out IH;obtain⟨D,rfl⟩:∃D:Nat,d=(D:Int):=⟨d.toNat,by omega⟩;rw[Int.toNat_natCast]at hp lH;have hlV:rows.length-1=V:=by omega
     have El:L=V+1:=by rw[<-HL.out];exact hl
     have zL:=HN.out;rw[El,Nat.add_sub_cancel,Int.toNat_natCast]at zL;rw[hlV]at lH;have hD5:D<=5:=by omega
     have aCn:N<=216:=by rw[<-zL];exact acf kN zo
     have OM:Rw V 192 rows:=hr;have adN:tp.length<=12:=by rw[xe.out];exact vV
     obtain⟨S,hS⟩:=aK (rows.map (λr=>r.map aJ));obtain⟨F,hF⟩:=aK (fQ V D S (jp tp));have iL:∀r∈S,∀d∈r,Sm 192 d:=λr hr d hd=>by rw[<-hS]at hr;obtain⟨r',hr',rfl⟩:=List.mem_map.1 hr;obtain⟨x,hx,rfl⟩:=List.mem_map.1 hd;exact(tX.out r' hr' x hx).2
     have hpA:F.length=N/\∀d∈F,Sm 97000 d:=by have h1:=ac8 V D 192 N S tp zL zo zo (λd hd=>by have:=acf (V:=V) (D:=d) kN zo;omega) iL zd (λt ht=>⟨(hp.1.2 t ht).2,(hp.2 t ht).2⟩) tp.length (Nat.le_refl _);rw[List.take_length]at h1;rw[<-hF];exact⟨h1.1,λd hd=>(h1.2 d hd).mono zo⟩
     rw[hS,hF]at lH;have aeN:∀j i,j<V+1->(h:j<rows.length)->i<N->((bK (V+1) D).getD i []).getD j 0=D->0<D->F.getD i 0=pI (lV rows[j]) V tp nP:=λj i hj h hi hx h0=>by rw[<-hF,<-hS,<-xe.out];exact aqi hp.2 j i hj h (by rw[zL];exact hi) hx h0
     have hpt:∀X:Nat->Dyadic,sumTo X (V+1)=1->iR X V D F=pI (lV ((vd (cF rows) X V).map canon)) V tp nP:=λX h=>by rw[<-hF,<-hS,<-xe.out];exact aw9 X hp.2 h _ rfl
     obtain⟨R,hR⟩:=aK (bK (V+1) D);have gy:R.length=N:=by rw[<-hR,nS,zL]
     have hrow:∀i (h:i<R.length),R[i].length=L/\(∀a∈R[i],a<=20):=λi h=>by
      have hm:R[i]∈bK (V+1) D:=by rw[hR];exact List.getElem_mem h
      have h1:=(kV V D _).1 hm;exact⟨by rw[h1.1,El],λa ha=>by have:=Fb ha;omega⟩
     have vX:∀W,Cl 21 #[ah (V:Int),ah (D:Int)] W λe w'=>∃a cap,e=.returned (.slice a N cap)/\At w' a (R.flatMap λx=>[Value.string (bs (x.map UInt8.ofNat))])/\Bw W w':=λW=>by refine(Fl V D N hV1 zo zo zL zo W).mono ?_;rintro e w' ⟨a0,c0,h1,h2,_,h4⟩;exact⟨a0,c0,h1,by rw[Ec,<-hR];exact h2,h4⟩
     have hev:∀j i (h:j<rows.length) W a1 c1,Bw w W->i<N->(R.getD i []).getD j 0=D->0<D->At W a1 (rows[j].flatMap bG)->Cv 22 #[.agg #[ah (V:Int),.slice aP nP fX],.slice a1 V c1] W (.tuple #[cK (F.getD i 0),ah 0]):=λj i h W a1 c1 hW hi hx h0 hat=>by rw[aeN j i zo h hi (by rw[hR];exact hx) h0];exact acV V aP fX nP tp a1 c1 rows[j] 192 192 W xe.out (OM.2.1 _ (List.getElem_mem h)) hp.1 (wM.out.below hW) hat (OM.2.2 _ (List.getElem_mem h)) zd zd (HT.out.below hW)
     have ou:IntKind.i64.wrap ((L:Int)-1)=(V:Int):=by rw[IntKind.wrap_i64];omega
     obtain⟨tP,mn,Gq,Hev,vv,QE,Gl,iD,vE,yN,ZC,HFd⟩:=gg gy hrow vX hev El zL hpA hpt OM hp adN (show fQ V D (rows.map λr=>r.map aJ) (jp tp)=F by rw[hS];exact hF);obtain⟨fe,H9⟩:=aZ hR h9;clear gy hrow vX hev El zL hpA hpt OM hr hp adN hF hR aeN iL hS IH hl hlV h9 hd0;have Hf:=ar IZ;obtain⟨p0,p1⟩:=Hp.out.c2;obtain⟨f0,f1,f2⟩:=Hf.out.c3;have cz:Hid (At w6 (some ⟨b1,0,none⟩) (dC F)):=lH;clear lH IZ;go_wp2_with fail;refine(Gq.out _).mono ?_;rintro e w7 ⟨a0,DU,rfl,ow,ag⟩;obtain⟨Hp,p0,p1⟩:=bi Hp ag;obtain⟨Hf,f0,f1,f2⟩:=cm Hf ag;replace cz:=kA cz ag;replace Hb:=az Hb ag;have qC:Hid (At w7 a0 (R.flatMap λx=>[Value.string (bs (x.map UInt8.ofNat))])):=ow;clear ow;go_wp2_with fail;have Ep:=Hp;have Ef:=Hf;have EA:=cz;have EL:=qC;have E0:=Hb;clear Hp Hf cz qC Hb p0 p1 f0 f1 f2;go_loopw[12] (λx wr=>∃i:Nat,i<=N/\x=ah (i:Int)/\Bw w7 wr) (λx _=>N-(intOf x).toNat);case atStart=>exact⟨0,Nat.zero_le _,rfl,Below.refl _ _⟩
     case round=>
      obtain⟨i,hi,rfl,pb⟩:=hrel;by_cases hlt:i<N
      . as_aux_lemma=>
        have hk2:i<R.length:=by rw[tP.out];exact hlt
        obtain⟨xk,hxk⟩:∃x,R[i]=x:=⟨_,rfl⟩;obtain⟨hxl,pV⟩:=mn.out i hk2;have kz:R.getD i []=xk:=by simp[hk2,hxk]
        rw[hxk]at hxl pV;obtain⟨l8,jW⟩:∃l,xk.map UInt8.ofNat=l:=⟨_,rfl⟩;obtain⟨b0,o0,hab,uE⟩:=(EL.out.below pb).elem (f:=λx=>[Value.string (bs (x.map UInt8.ofNat))]) (sz:=1) (λ_=>rfl) zd i hk2;have hc0:wr.cell? ⟨b0,o0+i,none⟩=some (ai l8):=by have:=uE 0 zd;rw[hxk,jW]at this;simpa using this
        have bD:=vZ N DU i (i:Int) hab hlt rfl;rw[Nat.mul_one]at bD;have sX:l8.length=L:=by rw[<-jW,List.length_map];exact hxl
        have zS:∀j (h:j<l8.length),l8[j].toNat=xk.getD j 0/\xk.getD j 0<=20:=λj h=>by
         have jx:j<xk.length:=by omega
         have e8:l8[j]=UInt8.ofNat xk[j]:=by
          have:l8[j]?=(xk.map UInt8.ofNat)[j]?:=by rw[jW]
          rw[List.getElem?_eq_getElem h,List.getElem?_eq_getElem (by simpa using jx)]at this;simpa using this
         have h20:=pV _ (List.getElem_mem jx);rw[e8,show xk.getD j 0=xk[j]by simp[jx]];exact⟨by simp;omega,h20⟩
        have hsz:(bs l8).size=L:=by rw[iH,sX]
        have HeO:Hid (bH wr b0 (o0+i) [ai l8]):=λj hj=>by
         obtain rfl:j=0:=by simp at hj;omega
         exact hc0
        obtain⟨bj,tY,qG,sG⟩:=ej pb sX zS kz;clear pb kz hxl pV jW sX zS uE hc0 hab hxk;obtain⟨wo,hwo⟩:∃wo,wo=wr:=⟨_,rfl⟩;subst hwo;go_wp2_with fail;go_loopw[13] (λx wr=>∃j:Nat,j<=L/\x=ah (j:Int)/\Bw wo wr) (λx _=>L-(intOf x).toNat);case atStart=>exact⟨0,Nat.zero_le _,rfl,Below.refl _ _⟩
        case round=>
         obtain⟨j,hj,rfl,qb⟩:=hrel;by_cases bC:j<L
         . have EF:j<rows.length:=by rw[HL.out];exact bC
           have j8:j<l8.length:=by rw[tY.out];exact bC
           obtain⟨hq1,hq2⟩:=qG.out j j8;obtain⟨q,hq⟩:=aK (xk.getD j 0);have ix:=uO l8 (j:Int) j j8 rfl;rw[hq1,hq]at ix;rw[hq]at hq2;have Wz:IntKind.i64.wrap (q:Int)=(q:Int):=by rw[IntKind.wrap_i64];omega
           have ES:(R.getD i []).getD j 0=q:=by rw[sG.out];exact hq
           have bQ:=aO (aO E0.out bj.out) qb;obtain⟨He,Hp,Hf,Hn⟩:=ej (HeO.out.below qb) (Ep.out.below (aO bj.out qb)) (Ef.out.below (aO bj.out qb)) qb;have hwn:=arJ (EA.out.below (aO bj.out qb)) (k:=i) (by rw[Gl.out.1];exact hlt);obtain⟨E,hE⟩:=aK (F.getD i 0);rw[hE]at hwn;have xd:=ar hwn;obtain⟨b,o,a1,c1,hab,hcell,hat⟩:=(Ha.out.below bQ).row j EF;have hrl:=vE.out.2.1 _ (List.getElem_mem EF);rw[hrl]at hcell;have i8:=Ai L cap j (j:Int) hab bC rfl;rw[Nat.mul_one]at i8;have ixn:=kP N N i (i:Int) (rfl:(some ⟨b1,0,none⟩:Option Addr)=_) hlt rfl;rw[Nat.zero_add]at ixn;have Hu:Hid (bH wr b (o+j) [.slice a1 V c1]):=λj hj=>by
            obtain rfl:j=0:=by simp at hj;omega
            exact hcell
           obtain⟨eJ,fW,Hxj,HE⟩:=ej bQ hat ES hE;clear qb bQ hq hq1 hwn hat hcell hab hrl ES hE;have Hb:=hbz wr;have e0:=He.out.w1;obtain⟨p0,p1⟩:=Hp.out.c2;obtain⟨f0,f1,f2⟩:=Hf.out.c3;have u0:=Hu.out.w1;obtain⟨Nw,Ny,Nz⟩:=xd.out.w3;by_cases We:q=D
           . by_cases hD0:D=0
             . have h1:((q:Int)=(D:Int)):=by omega
               have h2:((D:Int)=0):=by omega
               go_wp2;go_roundw;case rel=>exact⟨j+1,by omega,by go_num,Hn.out⟩
               case measure=>exact bI
             . have h1:((q:Int)=(D:Int)):=by omega
               have h2:¬((D:Int)=0):=by omega
               have aeZ:∀W,Bw wr W->Cv 22 #[.agg #[ah (V:Int),.slice aP nP fX],.slice a1 V c1] W (.tuple #[cK E,ah 0]):=λW hW=>by rw[<-HE.out];exact Hev.out j i EF W a1 c1 (aO eJ.out hW) hlt (by rw[Hxj.out,We]) zo (fW.out.below hW)
               have alp:=ar aeZ;clear aeZ;go_upto_region 16 with fail
               go_cut[14,15] (λKQ s15 wx=>∃g:Nat,KQ=.pointer (some ⟨g,0,none⟩)/\s15=ah 0/\au wx g 48 (bG (canon E))/\Bw wr wx);case first=>
                have fe:∀w',dW wr w'->aF w' (w.heap.size) 0 (ah (V:Int))/\aF w' (w.heap.size) 1 (.slice aP nP fX)/\aF w' b (o+j) (.slice a1 V c1):=λw' h=>⟨cell_later h p0,cell_later h p1,cell_later h u0⟩;refine wI (λw'=>dW wr w') (λi=>Nat.blt i 11) 9 48 [aj false,.string ⟨#[]⟩,ah 0] [(0,true),(1,true),(2,true),(3,true),(4,true),(5,false),(6,true),(7,true),(8,true)] [(10,false),(11,false)] zk zk rfl rfl rfl zk zk zc zc (λK a w h=>ww rfl rfl (λK' hK=>by go_simp;exact hK _ _ h)) ?_;clear e0 p0 p1 f0 f1 f2 u0 Nw Ny Nz He Hp Hf Hu xd;intro wrf ag;replace Hb:=ar (aO Hb.out ag);refine⟨Hb.out,?_⟩;iterate 5 (refine kY rfl rfl (v:=?_) (λw' hw'=>?_) ?_;rotate_left;(focus have hw':=fe w' hw';obtain⟨q0,q1,q2⟩:=hw';go_simp;try with_reducible rfl);try simp only[UU])
                refine ke rfl rfl (λK hK=>?_);go_simp;with_reducible refine(alp.out _ Hb.out).mono ?_
                rintro e w9 ⟨rfl,hq⟩;refine hK _ _ hq (λw8 ag hb2=>?_);replace Hb:=ar (aO Hb.out ag);refine⟨Hb.out,?_⟩;clear ag hb2 hq hK K;try simp only[UU]
                iterate 3 (refine kY rfl rfl (v:=?_) (λw' hw'=>?_) ?_;rotate_left;(focus go_simp;try with_reducible rfl);try simp only[UU])
                intro YN hb0 qx;have Hv:=ar qx;clear qx;obtain⟨v0,Nu,v1,Nv,v2,fv2⟩:=Hv.out.g3;try simp only[U1]
                try simp only[Act.put,U2,U3]
                refine aR rfl rfl (λK hK=>?_);go_simp;refine hK _ _ (λ_=>by first|exact((Hb.out.setCell zp _).setCell zp _) |exact(((Hb.out.setCell zp _).setCell zp _).setCell zp _)) ?_;try simp only[UU]
                refine aR rfl rfl (λK hK=>?_);go_simp;refine hK _ _ (λh=>absurd h zd) ?_;try simp only[UU]
                simp only[bu];go_wp2_with fail;go_meet;exact⟨YN,rfl,rfl,((Hv.out.set 0 _).set 1 _).set 2 _,((Hb.out.setCell zp _).setCell zp _).setCell zp _⟩
               case rest=>
                obtain⟨g9,rfl,rfl,hv,rb⟩:=hcut;obtain⟨LP,aaw,Gw⟩:=cX (Hf.out.below rb) (xd.out.below rb) (aO Hn.out rb);have Hv:Hid (au wc g9 48 [aj (aC (dN E)),ai (nt (dN E).natAbs),ah (dE E)]):=hv;clear hv rb Hf xd Hb Hp Hu He e0 p0 p1 f0 f1 f2 u0 Nw Ny Nz;have Hf:=LP;have xd:=aaw;clear LP aaw;have Hb:=hbz wc;obtain⟨f0,f1,f2⟩:=Hf.out.c3;obtain⟨Nw,Ny,Nz⟩:=xd.out.w3;obtain⟨v0,v1,v2⟩:=Hv.out.c3;go_wp2_with fail;refine bV (λw'=>aF w' g9 0 (aj (aC (dN E)))/\aF w' g9 1 (ai (nt (dN E).natAbs))/\aF w' g9 2 (ah (dE E))/\aF w' g1 2 (.slice (some ⟨b1,0,none⟩) N N)/\aF w' b1 (i*3) (aj (aC (dN E)))/\aF w' b1 (i*3+1) (ai (nt (dN E).natAbs))/\aF w' b1 (i*3+2) (ah (dE E))) (λi=>Nat.blt i 100000) [(0,true),(1,true),(2,true),(3,true),(4,true),(5,true),(6,true),(7,true),(8,true),(9,true),(10,true)] zk zk rfl zk zc ⟨v0,v1,v2,f2,Nw,Ny,Nz⟩ ?_;iterate 11 (refine pT rfl rfl ?_ (by intro w' ⟨q0,q1,q2,q3,q4,q5,q6⟩;go_simp;try with_reducible rfl);try simp only[UU])
                simp only[bu];go_wp2;go_roundw;case rel=>exact⟨j+1,by omega,by go_num,(aO Gw.out Hb.out).drew⟩
                case measure=>exact bI
           . have h1:¬((q:Int)=(D:Int)):=by omega
             go_wp2;go_roundw;case rel=>exact⟨j+1,by omega,by go_num,Hn.out⟩
             case measure=>exact bI
         . obtain rfl:j=L:=by omega
           have Hn:=ar (aO bj.out qb);clear qb;go_wp2;go_roundw;case rel=>exact⟨i+1,by omega,by go_num,Hn.out⟩
           case measure=>exact bI
      . as_aux_lemma=>
        have hiN:i=N:=by omega
        clear hi hlt;subst hiN;obtain⟨z1,z2,z3,hbk⟩:=ayQ vE.out yN.out ZC.out hV1 kN hD5 QE.out Gl.out.2 zd HFd.out;obtain⟨Hp,Hf⟩:=aZ (Ep.out.below pb) (Ef.out.below pb);have hbA:=aO E0.out pb;have ha1:=EA.out.below pb;obtain⟨X0,Eu⟩:∃X,dz V (cF rows)=X:=⟨_,rfl⟩;rw[Eu]at z1 z2 z3 hbk;obtain⟨X1,hX1⟩:∃X,gL X0*X0=X:=⟨_,rfl⟩;rw[hX1]at z2 z3 hbk;obtain⟨P0,xG⟩:∃X,cP X1 D=X:=⟨_,rfl⟩;rw[xG]at z3 hbk;obtain⟨C,hC⟩:=aK (bP (dA P0 tp));rw[hC]at hbk;have ar9:C.length<=12:=by rw[<-hC];exact Nat.le_trans (Br _) (by simp[dA];exact ZC.out)
        obtain⟨n9,vU⟩:∃n,C.length=n:=⟨_,rfl⟩;have OQ:∀W,Bw w W->Cv 23 #[.slice a L cap] W (.tuple #[cK X0,ah 0]):=λW hW=>by have h:=aiy a cap V rows 192 X0 W hV1 zo vE.out.1 vE.out.2.1 (by have:=QW.out;have:=vv.out;omega) (Ha.out.below hW) vE.out.2.2 zd (HT.out.below hW) Eu;rw[<-vv.out]at h;exact h
        have hab:=λW (hW:Bw w W)=>acv (aC (dN X0)) (nt (dN X0).natAbs) (dE X0) X1 (by show(if eG (aJ (canon X0))<0 then-aJ (canon X0)else aJ (canon X0))=X1;rw[cp,an5];exact hX1) W (z1.ok zd) (HT.out.below hW);have hpw:=λW (hW:Bw w W)=>acz (aC (dN X1)) (nt (dN X1).natAbs) (dE X1) D X1 P0 1000 (cp _) xG W (z2.fit zd) zd zo (HT.out.below hW);have hsc:∀W,Bw w W->Cl 24 #[.agg #[ah (V:Int),.slice aP nP fX],cK P0] W λex w'=>∃a' c',ex=.returned (.tuple #[.agg #[ah (V:Int),.slice a' n9 c'],ah 0])/\bE w' a' c' C/\Bw W w':=λW hW=>by have h:=ait V aP fX tp (aC (dN P0)) (nt (dN P0).natAbs) (dE P0) P0 6000 W (yN.out.1.mono zd) ⟨wM.out.below hW,by rw[xe.out];exact HsP.out⟩ (z3.fit zd) zd (HT.out.below hW) (cp _);rw[xe.out,hC,vU]at h;exact h
        have hfc:∀x∈F.map canon,Fit 97000 x:=λx hx=>by obtain⟨d,hd,rfl⟩:=List.mem_map.1 hx;exact(Gl.out.2 d hd).fit zd
        have hbc:∀W,Bw w W->At W (some ⟨b1,0,none⟩) (dC F)->Cl 27 #[.agg #[ah (V:Int),ah (D:Int),.slice (some ⟨b1,0,none⟩) i i],.slice a L cap] W λex w'=>∃a9 c9,ex=.returned (.tuple #[.agg #[ah (V:Int),.slice a9 n9 c9],ah 0])/\bE w' a9 c9 C/\Bw W w':=λW hW hat=>by have h:=air V D i L 97000 192 (some ⟨b1,0,none⟩) i (F.map canon) F a cap rows C W hV1 kN vv.out.symm zo QE.out zo (by rw[List.length_map];exact Gl.out.1) (Px F) hfc zd zd vE.out QW.out (Ha.out.below hW) H9.out (by rw[<-oh];exact hat) (HT.out.below hW) hbk;rw[vU]at h;exact h
        have hps:∀W a1 c1 a2 c2,At W a1 (C.flatMap aY)->At W a2 (C.flatMap aY)->Cv 28 #[.agg #[ah (V:Int),.slice a1 n9 c1],.agg #[ah (V:Int),.slice a2 n9 c2]] W (aj true):=λW a1 c1 a2 c2 h1 h2=>by have h:=axo (V:Int) C a1 a2 c1 c2 W zo h1 h2;rw[vU]at h;exact h
        obtain⟨Hsi,pj,Ba,mR,yH,vD,yI,Zm⟩:=oK OQ hab hpw hsc hbc hps hfc (aO E0.out pb);clear OQ hab hpw hsc hbc hps hfc hbA vU ar9 hC hbk xG hX1 Eu z1 z2 z3 pb Ep Ef EA EL E0;have Hb:=hbz wr;obtain⟨p0,p1⟩:=Hp.out.c2;obtain⟨f0,f1,f2⟩:=Hf.out.c3;have cz:Hid (At wr (some ⟨b1,0,none⟩) (dC F)):=ha1;clear ha1;have P0':=p0;have P1':=p1;go_wp2_with fail;refine(Hsi.out _ (aO Zm.out Hb.out)).mono ?_;rintro e fx ⟨rfl,ag⟩;obtain⟨Hp,p0,p1⟩:=bi Hp ag;obtain⟨Hf,f0,f1,f2⟩:=cm Hf ag;replace cz:=kA cz ag;replace Hb:=az Hb ag;have aEl:=Hp.out.lt;have aD4:=Hf.out.lt;obtain⟨xt,aCu,ag,mS⟩:=cE fx 48 [aj (aC (dN X0)),ai (nt (dN X0).natAbs),ah (dE X0)];replace Hp:=kB Hp ag;obtain⟨Hf,f0,f1,f2⟩:=cm Hf ag;replace cz:=kA cz ag;obtain⟨p0,p1⟩:=Hp.out.c2;obtain⟨Qg,sk,vh⟩:=mS.out.c3;replace Hb:=az Hb ag;go_upto_region 20 with fail
        have FJ:=ar (aO Zm.out Hb.out);replace Hb:=hbz xt;go_cut[18,19] (λs18 s19 wx=>∃g a' c',s18=.pointer (some ⟨g,0,none⟩)/\s19=ah 0/\au wx g 24 [ah (V:Int),.slice a' n9 c']/\bE wx a' c' C/\Bw xt wx);case first=>
         have fe:∀w',dW xt w'->aF w' (w.heap.size) 0 (ah (V:Int))/\aF w' (w.heap.size) 1 (.slice aP nP fX)/\aF w' (fx.heap.size) 0 (aj (aC (dN X0)))/\aF w' (fx.heap.size) 1 (ai (nt (dN X0).natAbs))/\aF w' (fx.heap.size) 2 (ah (dE X0)):=λw' h=>⟨cell_later h p0,cell_later h p1,cell_later h Qg,cell_later h sk,cell_later h vh⟩;refine wI (λw'=>dW xt w') (λi=>Nat.blt i 11) 9 24 [ah 0,.slice none 0 0] [(0,true),(1,true),(3,true),(2,false),(4,false),(5,false),(6,true),(7,true),(8,true)] [(10,false),(11,false)] zk zk rfl rfl rfl zk zk zc zc (λK a w h=>ww rfl rfl (λK' hK=>by go_simp;exact hK _ _ h)) ?_;clear p0 p1 f0 f1 f2 Qg sk vh Hp Hf cz mS;intro aBw ag;replace Hb:=ar (aO Hb.out ag);refine⟨Hb.out,?_⟩;iterate 3 (refine kY rfl rfl (v:=?_) (λw' hw'=>?_) ?_;rotate_left;(focus have hw':=fe w' hw';obtain⟨q0,q1,q2,q3,q4⟩:=hw';go_simp;try with_reducible rfl);try simp only[UU])
         refine ke rfl rfl (λK hK=>?_);go_simp;with_reducible refine(pj.out _ (aO FJ.out Hb.out)).mono ?_
         rintro e w9 ⟨rfl,hq⟩;refine hK _ _ hq (λjG ag hb2=>?_);replace Hb:=ar (aO Hb.out ag);refine⟨Hb.out,?_⟩;clear ag hb2 hq hK K;try simp only[UU]
         refine ke rfl rfl (λK hK=>?_);go_simp;with_reducible refine(Ba.out _ (aO FJ.out Hb.out)).mono ?_
         rintro e w9 ⟨rfl,hq⟩;refine hK _ _ hq (λqu ag hb2=>?_);replace Hb:=ar (aO Hb.out ag);refine⟨Hb.out,?_⟩;clear ag hb2 hq hK K;try simp only[UU]
         refine ke rfl rfl (λK hK=>?_);go_simp;with_reducible refine(mR.out _ (aO FJ.out Hb.out)).mono ?_
         rintro e w9 ⟨a2,c2,rfl,hp2,hq⟩;refine hK _ _ hq (λAE ag hb2=>?_);have qQ:=ar (hp2.below hb2);clear hp2;replace Hb:=ar (aO Hb.out ag);refine⟨Hb.out,?_⟩;clear ag hb2 hq hK K;have HQ:=qQ;clear qQ;try simp only[UU]
         iterate 3 (refine kY rfl rfl (v:=?_) (λw' hw'=>?_) ?_;rotate_left;(focus go_simp;try with_reducible rfl);try simp only[UU])
         intro YN hb0 qx;have Hv:=ar qx;clear qx;obtain⟨v0,Nu,v1,Nv⟩:=Hv.out.g2;try simp only[U1]
         try simp only[Act.put,U2,U3]
         refine aR rfl rfl (λK hK=>?_);go_simp;refine hK _ _ (λ_=>by first|exact((Hb.out.setCell zp _).setCell zp _) |exact(((Hb.out.setCell zp _).setCell zp _).setCell zp _)) ?_;try simp only[UU]
         refine aR rfl rfl (λK hK=>?_);go_simp;refine hK _ _ (λh=>absurd h zd) ?_;try simp only[UU]
         simp only[bu];go_wp2_with fail;go_meet;exact⟨YN,a2,c2,rfl,rfl,(Hv.out.set 0 _).set 1 _,HQ.out.store Hv.out zd _ _,(Hb.out.setCell zp _).setCell zp _⟩
        case rest=>
         obtain⟨g2,a2,c2,rfl,rfl,hv,hp2,qb⟩:=hcut;obtain⟨YO,atE⟩:∃u,u=wc:=⟨_,rfl⟩;subst atE;replace Hp:=kB Hp qb;replace Hf:=kB Hf qb;replace cz:=kA cz qb;replace mS:=kB mS qb;obtain⟨p0,p1⟩:=Hp.out.c2;obtain⟨f0,f1,f2⟩:=Hf.out.c3;obtain⟨Qg,sk,vh⟩:=mS.out.c3;replace Hb:=ar qb;have Hv:Hid (au YO g2 24 [ah (V:Int),.slice a2 n9 c2]):=hv;clear qb hv p0 p1 f0 f1 f2 Qg sk vh;obtain⟨p0,p1⟩:=Hp.out.c2;obtain⟨f0,f1,f2⟩:=Hf.out.c3;obtain⟨v0,v1⟩:=Hv.out.c2;have cz:Hid (At YO (some ⟨b1,0,none⟩) (dC F)):=cz.out;have yC:Hid (bE YO a2 c2 C):=hp2;clear hp2;go_wp2_with fail;refine(yH.out _ (aO FJ.out Hb.out) cz.out).mono ?_;rintro e FB ⟨a9,c9,rfl,gZ,ag⟩;replace Hp:=kB Hp ag;replace Hf:=kB Hf ag;replace Hv:=kB Hv ag;replace cz:=kA cz ag;replace yC:=ar (yC.out.below ag);obtain⟨p0,p1⟩:=Hp.out.c2;obtain⟨f0,f1,f2⟩:=Hf.out.c3;obtain⟨v0,v1⟩:=Hv.out.c2;replace Hb:=az Hb ag;have Dc:Hid (bE FB a9 c9 C):=gZ;clear gZ;have au7:=Hp.out.lt;have aD5:=Hf.out.lt;have avg:=Hv.out.lt;obtain⟨GM,aCv,ag,Hz⟩:=cE FB 24 [ah (V:Int),.slice a9 n9 c9];replace Hp:=kB Hp ag;replace Hf:=kB Hf ag;replace Hv:=kB Hv ag;replace cz:=kA cz ag;replace yC:=ar (yC.out.below ag);replace Dc:=ar (Dc.out.below ag);obtain⟨p0,p1⟩:=Hp.out.c2;obtain⟨f0,f1,f2⟩:=Hf.out.c3;obtain⟨v0,v1⟩:=Hv.out.c2;obtain⟨z0,z1⟩:=Hz.out.c2;replace Hb:=az Hb ag;go_wp2_with fail;refine(vD.out _ a9 c9 a2 c2 Dc.out.1 yC.out.1).mono ?_;rintro e sw ⟨rfl,ag⟩;replace Hp:=kB Hp ag;replace Hf:=kB Hf ag;replace Hv:=kB Hv ag;replace cz:=kA cz ag;replace yC:=ar (yC.out.below ag);replace Dc:=ar (Dc.out.below ag);obtain⟨Hz,z0,z1⟩:=bi Hz ag;obtain⟨p0,p1⟩:=Hp.out.c2;obtain⟨f0,f1,f2⟩:=Hf.out.c3;obtain⟨v0,v1⟩:=Hv.out.c2;replace Hb:=az Hb ag;have atM:xn<=4:=by have:=Hx4.out;rw[HX.out]at this;exact this
         have Lq:=ar (aO FJ.out Hb.out);have Ep:=Hp;have Ef:=Hf;have EA:=cz;clear Hp Hf Hv Hz cz yC Dc Hb p0 p1 f0 f1 f2 v0 v1 z0 z1;go_wp2_with (at_builtin;refine vr rfl _ _ 32 rfl sw.heap.size 48 i0 _ 3 32 Tryz.underlying32 Hi.out dF.out dv.out di.out rfl zd _ 0 [] rfl (World.ownsRow_made sw #[] 0 (Nat.le_refl _) (Nat.zero_le _) zm) xa xn xc (xs.flatMap bG) rfl HsX.out (by rw[kj bG 3 (λ_=>rfl),HX.out]) (Hx.out.below (aO Lq.out ((Below.refl _ sw).alloc (Nat.le_refl _) _))) (Xr _) zx zo zm ?_;intro v1 FC eH hg1 Ck);rw[Nat.zero_add,List.nil_append]at eH;have hb1:=((Below.refl _ sw).alloc (Nat.le_refl _) (.cells #[] 48)).grown hg1 zm (λk hk=>by have h9:sw.heap.size=k:=Option.some.inj hk;omega);obtain⟨ml,cu⟩:=aZ eH hb1;clear eH hb1 hg1 Ck;obtain⟨wo,hwo⟩:∃wo,wo=wr:=⟨_,rfl⟩;subst hwo;go_loopw[22] (λYf wr=>∃(n:Nat) (ys:List Raw) (v:Value),v=Yf/\n<=4/\ys.length=n/\(∀y∈ys,Fit 192 y)/\wr.ownsRow sw.heap.size 48 3 v n (ys.flatMap bG)/\Bw sw wr) (λYf _=>L-slN Yf);case atStart=>exact⟨xn,xs,_,rfl,atM,HX.out,fO.out,ml.out,cu.out⟩
         case round=>
          clear ml cu;obtain⟨n,ys,v,rfl,cV,hyl,hyf,pv,pb⟩:=hrel;obtain⟨ay,cy,rfl,_,_⟩:=dS pv;obtain⟨eK,bj,SP,Hyf⟩:=ej pv pb hyl hyf;clear pv pb hyl hyf;have Hb:=hbz wr;by_cases hlt:n<L
          . skip
            obtain⟨W20,aCw,ag,Hc⟩:=cE wr 48 [aj false,.string ⟨#[]⟩,ah 0];obtain⟨c0,c1,c2⟩:=Hc.out.c3;replace Hb:=az Hb ag;have dR:=ownsRow_below eK.out Hb.out;have ky:=Hb.out.size;have gM:=bj.out.size;go_wp2_with (at_builtin;refine wpList_append_own_at _ rfl _ _ 32 rfl sw.heap.size 48 i0 _ 3 32 Tryz.underlying32 Hi.out dF.out dv.out di.out rfl zd _ n (ys.flatMap bG) rfl dR ⟨wr.heap.size,0,none⟩ 1 1 [aj false,.string ⟨#[]⟩,ah 0] rfl rfl (gW Hc.out) zy zx zo zo ?_;intro v' w21 fg fM _ gY;obtain⟨g',sL,rfl⟩:=ownsRow_succ fg);go_roundw;case rel=>exact⟨n+1,ys++[(false,[],0)],_,rfl,by omega,by simp[SP.out],λy hy=>by rcases List.mem_append.1 hy with h|h;exact Hyf.out y h;rw[List.mem_singleton.1 h];exact art,by rw[List.flatMap_append];exact fg,(aO bj.out Hb.out).grown fM zo (λj e=>dX dR j e)⟩
            case measure=>simp[slN];omega
          . have hL2:2<=L:=by have:=vv.out;omega
            obtain⟨g,cg,e9,hgb,hgl,ru⟩:=wy eK.out zo;simp only[Value.slice.injEq,true_and]at e9;obtain⟨rfl,e9⟩:=e9;subst e9;have hrow:=XA eK.out L zo;rw[awe ys L (by rw[SP.out];omega)]at hrow;obtain⟨Qw,hzl⟩:∃z,ys.take L=z:=⟨_,rfl⟩;have OX:∀y∈Qw,Fit 192 y:=λy hy=>Hyf.out y (by rw[<-hzl]at hy;exact List.mem_of_mem_take hy);have OZ:Qw.length=V+1:=by rw[<-hzl,List.length_take,SP.out,<-vv.out];omega
            rw[hzl]at hrow;obtain⟨y0,zs,rfl⟩:∃y z,Qw=y::z:=by
             cases Qw with
             |nil=>simp at OZ
             |cons y z=>exact⟨y,z,rfl⟩
            have hzs:zs.length=V:=by simpa using OZ
            have af1:At wr (some ⟨g,3,none⟩) (zs.flatMap bG):=by obtain⟨_,_,e7,h7,_⟩:=dS hrow;simp only[Value.slice.injEq,true_and]at e7;obtain⟨rfl,rfl⟩:=e7;have h8:=At.cut (size:=3) (n:=L) (k:=1) (cap:=cy) h7 (by rw[kj bG 3 (λ_=>rfl),OZ,vv.out]) zo zo;rw[if_neg zo]at h8;exact h8
            obtain⟨Q,hQ⟩:=aK (jQ zs);obtain⟨O,hO⟩:=aK (Dyadic.ofIntWithPrec 1 0);have UB:O=1:=by rw[<-hO];decide+kernel
            obtain⟨S,hS⟩:=aK (O-Q);have zM:Sm 200 Q:=by rw[<-hQ];exact(acL zs (λx hx=>(OX x (List.mem_cons_of_mem _ hx)).2)).mono zo
            have UD:Sm 200 O:=by rw[UB];exact Ym.mono zd
            have iL:Sm 201 S:=by rw[<-hS];exact UD.sub zM
            obtain⟨X,hX⟩:∃X:Nat->Dyadic,(λk=>((canon S::zs).map aJ).getD k 0)=X:=⟨_,rfl⟩;have IR:∀k,((canon S::zs).map aJ).getD k 0=X k:=λk=>by rw[<-hX]
            have td:sumTo X (V+1)=1:=by rw[<-hzs];exact ayY S zs X (by rw[<-hS,hQ,UB]) IR
            have rT:∀x∈canon S::zs,Fit 201 x:=λx hx=>by
             rcases List.mem_cons.1 hx with rfl|h
             . exact iL.fit zd
             . exact(OX x (List.mem_cons_of_mem _ h)).mono zd
            have fY:∀k,k<=V->Sm 201 (X k):=λk hk=>by
             have h:k<(canon S::zs).length:=by rw[List.length_cons,hzs];omega
             rw[<-IR k,List.getD_eq_getElem?_getD,List.getElem?_map,List.getElem?_eq_getElem h];exact(rT _ (List.getElem_mem h)).2
            obtain⟨Y,hY⟩:=aK (iR X V D F);have BP:=iD.out X td;rw[hY]at BP;obtain⟨Z,hZ⟩:=aK (vd (cF rows) X V);rw[hZ]at BP;have rf:Z.length=V:=by rw[<-hZ];simp[vd]
            have IU:∀d∈Z,Sm 500 d:=by rw[<-hZ];refine λd hd=>(axr (A:=192) (B:=201) (λa b ha hb=>?_) fY d hd).mono zo;rw[tv rows a b (by rw[vE.out.1];omega) (by rw[vE.out.2.1 _ (List.getElem_mem _)];exact hb)];exact(vE.out.2.2 _ (List.getElem_mem _) _ (List.getElem_mem _)).2
            have hof:=λW (hW:Bw w W)=>BB 1 O hO W zd (HT.out.below hW);have had:∀W,Bw wr W->Cv 18 #[.slice (some ⟨g,3,none⟩) (L-1) (cy-1)] W (cK Q):=λW hW=>by have h:=acw zs 192 Q hQ (some ⟨g,3,none⟩) (cy-1) W (λx hx=>OX x (List.mem_cons_of_mem _ hx)) zo zo (af1.below hW) (HT.out.below (aO Lq.out (aO bj.out hW)));rw[hzs]at h;rw[show L-1=V by have:=vv.out;omega];exact h
            have hsu:=λW (hW:Bw w W)=>TL (aC (dN O)) (nt (dN O).natAbs) (dE O) (aC (dN Q)) (nt (dN Q).natAbs) (dE Q) S 200 (by show aJ (canon O)-aJ (canon Q)=S;rw[cp,cp];exact hS) W (UD.fit zd) (zM.fit zd) zd (HT.out.below hW);have hat:∀W,Bw w W->At W (some ⟨b1,0,none⟩) (dC F)->At W (some ⟨g,0,none⟩) ((canon S::zs).flatMap bG)->Cv 19 #[.agg #[ah (V:Int),ah (D:Int),.slice (some ⟨b1,0,none⟩) i i],.slice (some ⟨g,0,none⟩) L cy] W (.tuple #[cK Y,ah 0]):=λW hW h1 h2=>
             aiq V D i L 97000 (some ⟨b1,0,none⟩) i (F.map canon) (some ⟨g,0,none⟩) cy (canon S::zs) X F Y W hV1 zo vv.out.symm zo QE.out zo (by rw[List.length_map];exact Gl.out.1) (Px F) yI.out (by rw[List.length_cons,hzs,vv.out]) (λk h=>by rw[<-IR k,List.getD_eq_getElem?_getD,List.getElem?_map,List.getElem?_eq_getElem h];rfl) (λx hx=>(rT x hx).mono zd) zd (by rw[<-oh];exact h1) h2 (HT.out.below hW) hY
            have hpo:∀W,Bw w W->At W (some ⟨g,0,none⟩) ((canon S::zs).flatMap bG)->Cl 31 #[.slice a L cap,.slice (some ⟨g,0,none⟩) L cy] W λe w'=>∃a c,e=.returned (.slice a V c)/\At w' a (dC Z)/\Bw W w':=λW hW h2=>by have h:=axa V 201 192 a cap rows (some ⟨g,0,none⟩) cy (canon S::zs) X W zo vE.out (Ha.out.below hW) (by rw[List.length_cons,hzs]) rT IR zd h2 (HT.out.below hW);rw[<-vv.out,hZ]at h;exact h.mono λe w' ⟨a,c,h1,_,h3,h4⟩=>⟨a,c,h1,h3,h4⟩
            have hev:∀W a5 c5,Bw w W->At W a5 (dC Z)->Cv 22 #[.agg #[ah (V:Int),.slice aP nP fX],.slice a5 V c5] W (.tuple #[cK Y,ah 0]):=λW a5 c5 hW h5=>by rw[BP];exact acV V aP fX nP tp a5 c5 (Z.map canon) 500 192 W xe.out (by rw[List.length_map,rf]) yN.out.1 (wM.out.below hW) (by rw[<-oh];exact h5) (λx hx=>by obtain⟨d,hd,rfl⟩:=List.mem_map.1 hx;exact(IU d hd).fit zd) zd zd (HT.out.below hW)
            have WO:=kP L cy 0 0 (rfl:(some ⟨g,0,none⟩:Option Addr)=_) zo rfl;rw[Nat.zero_mul,Nat.add_zero]at WO;obtain⟨mn,og,pk,Hsu,fW,Dz,alo,QA,Hgl,Rs⟩:=Kc hrow hof had hsu hat hpo hev (aO Lq.out bj.out) hgl hgb;have aCG:¬cy=1:=by omega
            have h1L:(1:Int)<=(L:Int):=by omega
            clear hrow hof had hsu hat hpo hev hzl OX OZ hzs af1 hQ hO UB hS zM UD iL hX IR td rT fY hY BP hZ rf IU hgb hgl eK;go_upto_region 28 with fail
            refine bV (λw'=>True) (λi=>Nat.blt i 7) [(0,true),(2,true),(3,true),(1,false),(4,false),(5,false),(6,true),(7,false)] zk zk rfl zk zc True.intro ?_;iterate 3 (refine pT rfl rfl ?_;try simp only[UU])
            refine aR rfl rfl (λK hK=>?_);go_simp;with_reducible refine(og.out _ (by first|exact aO QA.out Hb.out|exact(aO QA.out Hb.out).drew)).mono ?_
            rintro e w22 ⟨rfl,hq⟩;have ag:Bw wr w22:=by first|exact hq|exact bo hq
            replace Hb:=az Hb ag;refine hK _ _ (λ_=>True.intro) ?_;try simp only[UU]
            refine aR rfl rfl (λK hK=>?_);go_simp;with_reducible refine(pk.out _ Hb.out).mono ?_
            rintro e w23 ⟨rfl,hq⟩;have ag:Bw w22 w23:=by first|exact hq|exact bo hq
            replace Hb:=az Hb ag;refine hK _ _ (λ_=>True.intro) ?_;try simp only[UU]
            refine aR rfl rfl (λK hK=>?_);go_simp;with_reducible refine(Hsu.out _ (aO QA.out Hb.out)).mono ?_
            rintro e Qm ⟨rfl,hq⟩;have ag:Bw w23 Qm:=by first|exact hq|exact bo hq
            replace Hb:=az Hb ag;refine hK _ _ (λ_=>True.intro) ?_;try simp only[UU]
            refine pT rfl rfl ?_;try simp only[UU]
            refine aR rfl rfl (λK hK=>?_);have hov:=ownsRow_below mn.out Hb.out;have gw:=nK hov 0;have fR:=nK hov 1;have iU:=nK hov 2;have k0:Qm.cell? ⟨g,0,none⟩=some (aj y0.1):=lR hov 0 (by simp[bG]);have k1:Qm.cell? ⟨g,1,none⟩=some (ai y0.2.1):=lR hov 1 (by simp[bG]);have k2:Qm.cell? ⟨g,2,none⟩=some (ah y0.2.2):=lR hov 2 (by simp[bG]);have dQ:=ar hov;clear hov;go_simp;refine hK _ _ (λ_=>True.intro) ?_;try simp only[UU]
            simp only[bu];go_upto_region 29 with fail
            refine cd (λW=>W.ownsRow sw.heap.size 48 3 (.slice (some ⟨g,0,none⟩) L cy) L ((canon S::zs).flatMap bG)/\Bw sw W) ⟨ax9 dQ.out,(((aO bj.out Hb.out).setCell Rs.out _).setCell Rs.out _).setCell Rs.out _⟩ ?_;rintro Td ⟨afZ,IX⟩;obtain⟨_,_,e7,h7,_⟩:=dS afZ;simp only[Value.slice.injEq,true_and]at e7;obtain⟨e7,e8⟩:=e7;subst e7;subst e8;obtain⟨Hp,Hf,Zd⟩:=cX (Ep.out.below IX) (Ef.out.below IX) (aO Lq.out IX);have aei:=EA.out.below IX;replace Hb:=hbz Td;clear k0 k1 k2 gw fR iU dQ afZ IX mn bj Ep Ef EA;obtain⟨p0,p1⟩:=Hp.out.c2;obtain⟨f0,f1,f2⟩:=Hf.out.c3;have cz:Hid (At Td (some ⟨b1,0,none⟩) (dC F)):=aei;have HG:Hid (At Td (some ⟨g,0,none⟩) ((canon S::zs).flatMap bG)):=h7;clear aei h7;go_wp2_with fail;refine(fW.out _ (aO Zd.out Hb.out) cz.out HG.out).mono ?_;rintro e w26 ⟨rfl,ag⟩;obtain⟨Hp,p0,p1⟩:=bi Hp ag;obtain⟨Hf,f0,f1,f2⟩:=cm Hf ag;replace cz:=kA cz ag;replace HG:=kA HG ag;replace Hb:=az Hb ag;have aEo:=Hp.out.lt;have aD7:=Hf.out.lt;obtain⟨Ms,aCx,ag,yV⟩:=cE w26 48 [aj (aC (dN Y)),ai (nt (dN Y).natAbs),ah (dE Y)];replace Hp:=kB Hp ag;obtain⟨Hf,f0,f1,f2⟩:=cm Hf ag;replace cz:=kA cz ag;replace HG:=kA HG ag;obtain⟨p0,p1⟩:=Hp.out.c2;obtain⟨Qt,Qu,Qv⟩:=yV.out.c3;replace Hb:=az Hb ag;go_upto_region 30 with fail
            have Qy:=ar (aO Zd.out Hb.out);replace Hb:=hbz Ms;have aj4:=HG;go_cut[25,26] (λs25 s26 wx=>∃g,s25=.pointer (some ⟨g,0,none⟩)/\s26=ah 0/\au wx g 48 (bG (canon Y))/\Bw Ms wx);case first=>
             have fe:∀w',dW Ms w'->aF w' (w.heap.size) 0 (ah (V:Int))/\aF w' (w.heap.size) 1 (.slice aP nP fX):=λw' h=>⟨cell_later h p0,cell_later h p1⟩;refine wI (λw'=>dW Ms w') (λi=>Nat.blt i 10) 8 48 [aj false,.string ⟨#[]⟩,ah 0] [(0,true),(1,true),(2,true),(3,false),(4,false),(5,true),(6,true),(7,true)] [(9,false),(10,false)] zk zk rfl rfl rfl zk zk zc zc (λK a w h=>ww rfl rfl (λK' hK=>by go_simp;exact hK _ _ h)) ?_;clear p0 p1 f0 f1 f2 Qt Qu Qv Hp Hf cz HG yV;intro aBy ag;replace Hb:=ar (aO Hb.out ag);refine⟨Hb.out,?_⟩;iterate 3 (refine kY rfl rfl (v:=?_) (λw' hw'=>?_) ?_;rotate_left;(focus have hw':=fe w' hw';obtain⟨q0,q1⟩:=hw';go_simp;try with_reducible rfl);try simp only[UU])
             refine ke rfl rfl (λK hK=>?_);go_simp;with_reducible refine(Dz.out _ (aO Qy.out Hb.out) (aj4.out.below Hb.out)).mono ?_
             rintro e w9 ⟨a5,c5,rfl,h5,hq⟩;refine hK _ _ hq (λw28 ag hb2=>?_);have qPZ:=ar (h5.below hb2);clear h5;replace Hb:=ar (aO Hb.out ag);refine⟨Hb.out,?_⟩;clear ag hb2 hq hK K;have js:=qPZ;clear qPZ;try simp only[UU]
             refine ke rfl rfl (λK hK=>?_);go_simp;with_reducible refine(alo.out _ a5 c5 (aO Qy.out Hb.out) js.out).mono ?_
             rintro e w9 ⟨rfl,hq⟩;refine hK _ _ hq (λw29 ag hb2=>?_);replace Hb:=ar (aO Hb.out ag);replace js:=ar (js.out.below ag);refine⟨Hb.out,?_⟩;clear ag hb2 hq hK K;try simp only[UU]
             iterate 3 (refine kY rfl rfl (v:=?_) (λw' hw'=>?_) ?_;rotate_left;(focus go_simp;try with_reducible rfl);try simp only[UU])
             intro aAO hb0 qx;have Mj:=ar qx;clear qx;obtain⟨yy0,aBZ,yy1,aB0,yy2,aB1⟩:=Mj.out.g3;try simp only[U1]
             try simp only[Act.put,U2,U3]
             refine aR rfl rfl (λK hK=>?_);go_simp;refine hK _ _ (λ_=>by first|exact((Hb.out.setCell zp _).setCell zp _) |exact(((Hb.out.setCell zp _).setCell zp _).setCell zp _)) ?_;try simp only[UU]
             refine aR rfl rfl (λK hK=>?_);go_simp;refine hK _ _ (λh=>absurd h zd) ?_;try simp only[UU]
             simp only[bu];go_wp2_with fail;go_meet;exact⟨aAO,rfl,rfl,((Mj.out.set 0 _).set 1 _).set 2 _,((Hb.out.setCell zp _).setCell zp _).setCell zp _⟩
            case rest=>obtain⟨g8,rfl,rfl,hy,rb⟩:=hcut;obtain⟨w30,atG⟩:∃u,u=wc:=⟨_,rfl⟩;subst atG;replace Hp:=kB Hp rb;replace Hf:=kB Hf rb;replace cz:=kA cz rb;replace HG:=kA HG rb;replace yV:=kB yV rb;obtain⟨p0,p1⟩:=Hp.out.c2;obtain⟨f0,f1,f2⟩:=Hf.out.c3;obtain⟨Qt,Qu,Qv⟩:=yV.out.c3;have Mj:Hid (au w30 g8 48 [aj (aC (dN Y)),ai (nt (dN Y).natAbs),ah (dE Y)]):=hy;have Ze:=ar (aO Qy.out rb);replace Hb:=hbz w30;clear hy rb p0 p1 f0 f1 f2 Qt Qu Qv Hp Hf cz HG;obtain⟨Qt,Qu,Qv⟩:=yV.out.c3;obtain⟨yy0,yy1,yy2⟩:=Mj.out.c3;go_wp2_with fail;refine(Df.out _ (aO Ze.out Hb.out)).mono ?_;rintro e w31 ⟨rfl,ag⟩;have HbE:=ar (aO Ze.out ag);go_wp2;refine bodyPost_ret (results_tmp rfl _ _ _) rfl ⟨rfl,HbE.out⟩
end Go.Proofs.YtnjfebkelecgaaaGreatDoor
