/- ogeelaw21.ProdHolds: no line of any domain is below 0 at a point of it;whatever is fair is above 0 there,expanded: the walk of the whole law. -/
import Derived.Test.YtpfgffadgkkedaaGreatDoorZ7
import Derived.Test.YtpfgffadgkkedaaGreatDoorZ30
import Derived.Test.YtpfgffadgkkedaaGreatDoorZ33
import Derived.Test.YtpfgffadgkkedaaGreatDoorZ36
set_option linter.all false
set_option maxRecDepth 100000
set_option maxHeartbeats 16000000
namespace Go.Proofs.YtpfgffadgkkedaaGreatDoor
open Go.RowKit
attribute [local go_sem ↓] Go.wp_at_zero Go.wp_at_succ
def UH (bx:List (Raw×Raw))(rows:List (List Raw))(w:World)(e:Ending)(w':World):Prop:=
 ∃(a2:Option Addr) (c2:Nat) (xs:List Raw),e=.returned (.slice a2 (gD bx.length rows.length) c2)/\xs.length=gD bx.length rows.length/\(∀x∈xs,Fit 2000 x)/\Cs bx rows (eT xs)/\At w' a2 (xs.flatMap aY)/\Bw w w'
def ant (bx:List (Raw×Raw))(rows:List (List Raw))(n m:Nat)(a a':Option Addr)(cap cap':Nat)(tb:List UInt8)(ta:Option Addr)(tn tc:Nat)(w:World)(hn:bx.length=n)(hm:rows.length=m)(hb:At w a (bx.flatMap fA))(ha:cC w a' rows)(eK:nD 192 bx)(eY:∀r∈rows,∀c∈r,Fit 192 c)(xH:m<=5)(ht:tb.length=tn)(js:At w ta (ja tb))(hT:aB w)
 (hc:rB n m (jG (bx.map dm)) (nu rows)=0):
 Cl 25 #[.agg #[.slice a n cap,.slice a' m cap'],.slice ta tn tc] w (UH bx rows w):=by
 rcases MX hc with⟨hn0,hm0,hct⟩ |⟨hm0,iw,OT,hcb⟩
 . obtain⟨q,Ja,vE⟩:=Ru (B:=192) zo eY hct;have OQ:m=q+1+1:=by rw[<-hm];exact vE.1
   subst OQ hn0;have lO:bx=[]:=List.length_eq_zero_iff.1 hn;subst lO;refine(anv rows (q+1) 192 a a' cap cap' tb ta tn tc w zo Ja vE zd ha ht js hT).mono ?_;rintro e w' ⟨a2,c2,xs,rfl,h1,h2,h3,h4,h5⟩;have hV:gD ([]:List (Raw×Raw)).length rows.length=q+1:=by unfold gD;rw[hm,if_pos zo];omega
   exact⟨a2,c2,xs,by rw[hV],by rw[hV];exact h1,λx hx=>(h2 x hx).mono zd,ao8 zo Ja hm h3,h4,h5⟩
 . subst hm0;have vE:rows=[]:=List.length_eq_zero_iff.1 hm;subst vE;refine(anu bx n 0 192 a a' cap cap' tb ta tn tc w hn iw zo eK zd zd hb ht js hT).mono ?_;rintro e w' ⟨a2,c2,rfl,h4,h5⟩;subst hn;refine⟨a2,c2,_,rfl,by simp[gD],fun x hx=>?_,ao7 hcb rfl,h4,h5⟩;obtain⟨k,hk,rfl⟩:=List.mem_map.1 hx;have hk2:=List.mem_range.1 hk;have hs:=eK _ (List.getElem_mem hk2);have ho:=yo (p:=dm bx[k]) ⟨hs.1.2,hs.2.2⟩;have hs2:Sm 600 (rW bx (qH tb bx.length) k):=by
    unfold rW;rw[show bx.getD k default=bx[k]by simp[hk2]];have e2:(qH tb bx.length).getD k default=canon (cV tb k):=by unfold qH;simp[hk2]
    rw[e2,bD];exact(Sm.add (ho.1.mono (show 192<=400 by decide)) ((Sm.mul (MK tb k) (as3 ho)).mono zd)).mono zd
   exact(hs2.mono zd).fit zd
def amO (bx:List (Raw×Raw))(rows:List (List Raw))(n m:Nat)(a a':Option Addr)(cap cap':Nat)(Vq:Int)(q:List Trm)(nq:Nat)(aq:Option Addr)(cq:Nat)(tb:List UInt8)(ta:Option Addr)(tn tc:Nat)(w:World)(hn:bx.length=n)(hm:rows.length=m)(hcap:m<=cap')(hb:At w a (bx.flatMap fA))(ha:cC w a' rows)(hq:q.length=nq)(xV:Sl aq nq cq)(De:At w aq (q.flatMap aH))(ht:tb.length=tn)(js:At w ta (ja tb))(hT:aB w):
 Cv 5 #[.agg #[.slice a n cap,.slice a' m cap'],.agg #[af Vq,.slice aq nq cq],.slice ta tn tc] w (ag true):=by
 have zr:=aj λW (hW:Bw w W)=>aif W (hT.below hW);have Kva:=aj λW (hW:Bw w W)=>asK bx rows n m a a' cap cap' W hn hm (hb.below hW) (ha.below hW);have Khe:=aj λW (hW:Bw w W)=>amm Vq q nq aq cq W hq (De.below hW);obtain⟨Hn,Hm,KL,HB,HA,Hq,FT,SS,Ht,uD,HT⟩:=aaW hn hm hcap hb ha hq xV De ht js hT;clear hn hm hcap hb ha hq xV De ht js hT;have Hb:=hbz w;go_enter Tryz.func5,Tryz.ntmps5;go_wp2_with fail;refine gG w (Hb.an trivial) 27 [.slice a n cap,.slice a' m cap'] 41 [af Vq,.slice aq nq cq] λW aG ae ai=>?_;go_wp2_with fail;refine(Kva.out _ ae.2.2.1.out).mono ?_;rintro e w1 ⟨⟨v,rfl,hv⟩,ak⟩;obtain⟨ae,ai⟩:=qX ak ae;cases v with
 |true=>go_wp2_with fail;refine aJ ae (zr.out _ ae.2.2.1.out) λw2 ae ai=>?_;go_wp2;refine bodyPost_ret (results_tmp rfl _ _ _) rfl ⟨rfl,ae.2.2.1.out⟩
 | false=>
   have Hv:Hid (NotVastD bx rows):=hv rfl;clear hv;go_wp2_with fail;refine(Khe.out _ ae.2.2.1.out).mono ?_;rintro e w2 ⟨⟨v,rfl,hv⟩,ak⟩;obtain⟨ae,ai⟩:=qX ak ae;cases v with
   |true=>go_wp2_with fail;refine aJ ae (zr.out _ ae.2.2.1.out) λw3 ae ai=>?_;go_wp2;refine bodyPost_ret (results_tmp rfl _ _ _) rfl ⟨rfl,ae.2.2.1.out⟩
   | false=>
     have hh:NotHeavy q:=hv rfl;clear hv;have ma:=Hv.out;have Ay:=Hn.out;have hmm:=Hm.out;have ZQ:=Hq.out;have eK:nD 192 bx:=λx hx=>⟨JE (ma.box x hx).1,JE (ma.box x hx).2⟩;have eY:∀r∈rows,∀c∈r,Fit 192 c:=λr hr c hc=>JE ((ma.row r hr).2 c hc);have au9:n<=20:=by have:=ma.few;omega
     have xH:m<=5:=by have:=ma.five;omega
     have avf:nq<=10:=by have:=hh.few;omega
     obtain⟨c,hc⟩:=az (rB n m (jG (bx.map dm)) (nu rows));have Ga:=aj λW (hW:Bw w W)=>Qg bx rows n m 192 a a' cap cap' c W Hn.out Hm.out (HB.out.below hW) (HA.out.below hW) eK eY zd zd zo xH KL.out (HT.out.below hW) hc;by_cases h0:c=0
     rotate_left
     . have GY:(c==0)=false:=by simpa using h0
       have xn:(c !=0)=true:=by simpa using h0
       clear ma hh eK eY hc Ay hmm ZQ;go_wp2_with fail;refine(Ga.out _ ae.2.2.1.out).mono ?_;rintro e w3 ⟨la,k,lc,rfl,hne,_,ak⟩;obtain⟨ae,ai⟩:=qX ak ae;obtain rfl:=hne h0;clear hne;go_wp2_with fail;go_wp2_with fail;refine aJ ae (zr.out _ ae.2.2.1.out) λw4 ae ai=>?_;go_wp2;refine bodyPost_ret (results_tmp rfl _ _ _) rfl ⟨rfl,ae.2.2.1.out⟩
     subst h0;have Ms:=aj λW (hW:Bw w W)=>ant bx rows n m a a' cap cap' tb ta tn tc W Hn.out Hm.out (HB.out.below hW) (HA.out.below hW) eK eY xH Ht.out (uD.out.below hW) (HT.out.below hW) hc;have Dq:=MX hc;have hV1:0<gD n m:=by
      unfold gD;rcases Dq with⟨h1,h2,h3⟩ |⟨h1,h2,_⟩
      . obtain⟨z,_,hz⟩:=Ru (B:=192) zo eY h3;have:=hz.1;rw[if_pos h2];omega
      . rw[if_neg zo];omega
     have hV4:gD n m<=4:=by
      unfold gD;have:=ma.few;rcases Dq with⟨h1,h2,_⟩ |⟨h1,h2,h3,_⟩
      . rw[if_pos h2];omega
      . rw[if_neg zo];omega
     have CQ:0<mh n m:=by
      unfold mh;rcases Dq with⟨h1,h2,_⟩ |⟨h1,h2,_⟩
      . rw[if_pos h2];omega
      . rw[if_neg zo];omega
     have hL8:mh n m<=8:=by
      unfold mh;have:=ma.few;rcases Dq with⟨h1,h2,_⟩ |⟨h1,h2,h3,_⟩
      . rw[if_pos h2];omega
      . rw[if_neg zo];omega
     have hr1:0<rows.length->1<=rows.length-1:=λh=>by have h9:=hV1;unfold gD at h9;rw[if_pos zo]at h9;omega
     have hsub:=λhf=>an2 (bx:=bx) (rows:=rows) (by rw[Ay,hmm];exact hV4) hf hr1;have tH:∀t∈q,t.1.length<=1000/\Fit 192 t.2/\degN t.1<=5:=λt ht=>by obtain⟨h1,h2,h3⟩:=hh.all t ht;exact⟨by omega,JE h1,h3⟩
     have Yz:=λ(X:Nat->Dyadic) (V L:Nat) (l:Nat->List Trm) (hok:SubOk V L 5 993 1018 5 l) (hp:gP Vq q=0) (hL:(L:Int)=Vq) (hX:∀k,k<L->0<=bz (fw X V) (l k)) (hF:lM Vq q=true)=>(by
      subst hL
      exact ak8 hok (QO hp) (λt ht=>(tH t ht).2.2) hX hF:0<bz (fw X V) (dv V l L L q))
     have Xc:∀X,Cs bx rows X->∀k,k<mh n m->0<=bz (fw X (gD n m)) (iX bx rows k):=λX h=>by unfold Cs at h;rw[Ay,hmm]at h;exact h
     unfold UH at Ms;unfold UK at Ga;rw[Ay,hmm]at hsub Ms Ga;generalize iX bx rows=l at*;generalize gD n m=V at*;generalize mh n m=L at*;obtain⟨FU,BZ,Tu,SB⟩:=bU hsub tH Yz Xc;clear ma hh eK eY hc Ay hmm ZQ hsub tH Yz Xc Dq hr1;go_wp2_with fail;refine(Ga.out _ ae.2.2.1.out).mono ?_;rintro e w3 ⟨la,k,lc,rfl,_,heq,ak⟩;obtain⟨ae,ai⟩:=qX ak ae;obtain⟨ps,oc,hlc,hpl,Df,ZN⟩:=heq (by trivial);obtain rfl:L=k:=oc.symm;have jW:=aj hpl;have HA:Hid (At w3 la (ps.flatMap eJ)):=Df;have HB:Hid (dK w3 V (5*192+33) ps l):=ZN;clear heq Df ZN hpl;go_wp2_with fail;refine(Ms.out _ ae.2.2.1.out).mono ?_;rintro e w4 ⟨a2,c2,xs,rfl,hxl,xZ,hnn,XJ,ak⟩;obtain⟨ae,ai⟩:=qX ak (HA.an<|HB.an ae);have HC:Hid (At w4 a2 (xs.flatMap aY)):=XJ;obtain⟨zq,zn,TT⟩:=bM hxl xZ (SB.out _ hnn);clear hxl xZ hnn XJ;have RZ:=ae.1;have wn:=ae.2.1;have Sc:=HC;have FK:=ae.2.2.2.1;have gS:=ae.2.2.2.2.1;have hfl:∀k,k<L->dJ V 993 (l k):=λk hk=>by obtain⟨_,_,_,_,h9⟩:=wn.out k (by rw[jW.out];exact hk);exact h9
     have hok:=FU.out hfl;have fu:gP Vq q=0->(L:Int)=Vq->dJ V 10000 (dv V l L L q)/\zw L q:=λhp hL=>by subst hL;have hpo:=QO hp;exact⟨hok.aw2 (A:=192) zo (Nat.le_refl _) (λt ht=>by rw[QZ t.1 L (AR (hpo.2.1 t ht))];exact(BZ.out t ht).2.2) (λt ht=>(BZ.out t ht).2.1.2) zo zd,hpo⟩
     have UJ:=aj λ(ts:List Trm) (a9:Option Addr) (c9:Nat) (W:World) (hW:Bw w W) (hf:dJ V 10000 ts) (h9:At W a9 (ts.flatMap aH)) (h8:At W a2 (xs.flatMap aY))=>akW V a9 c9 ts.length ts a2 c2 xs 2000 10000 W rfl zq.out hf h9 h8 zn.out zd zd (HT.out.below hW);have Kex:=aj λ(W:World) (hW:Bw w W) (eN:At W la (ps.flatMap eJ)) (hls:dK W V (5*192+33) ps l)=>Wk V L 5 993 1018 5 192 10000 l ps la lc hok hV1 zo zo zd zd jW.out CQ zo Vq aq nq cq q W Hq.out zo FT.out (SS.out.below hW) eN (hls.more zd) (HT.out.below hW) BZ.out;have Kfa:=aj λ(W:World) (hW:Bw w W)=>Wo Vq aq nq cq q W Hq.out zo (SS.out.below hW) (HT.out.below hW) (λt ht=>⟨(BZ.out t ht).1,(BZ.out t ht).2.1.1⟩);obtain⟨sF,rc⟩:=aI hfl fu;have lC:=aj λ(hp:gP Vq q=0) (hL:(L:Int)=Vq) (hF:lM Vq q=true)=>Tu.out (eT xs) V L l hok hp hL TT.out hF;clear hfl hok fu Tu FU SB;go_wp2_with fail;go_loopw[10] (λx wr=>∃i:Nat,i<=L/\x=af (i:Int)/\ar wr (w.heap.size+1) 41 [af Vq,.slice aq nq cq]/\Bw w4 wr) (λx _=>L-(intOf x).toNat);case atStart=>exact⟨0,Nat.zero_le _,rfl,FK.out,Below.refl _ _⟩
     case round=>
      obtain⟨i,hi,rfl,hp,pb⟩:=hrel;obtain⟨Hp,Hb⟩:=aI hp pb;clear hp pb;by_cases hlt:i<L
      . have hi2:i<ps.length:=by rw[jW.out];exact hlt
        obtain⟨a9,c9,e9,ky,_⟩:=wn.out i hi2;obtain⟨b,o,hab,hw⟩:=(RZ.out.below Hb.out).awJ i hi2 e9;have aQ:=mY L lc i (i:Int) hab hlt rfl;have hev:=UJ.out (l i) a9 c9 wr (aC gS.out Hb.out) ((sF.out i hlt).mono zd) (ky.1.below Hb.out) (Sc.out.below Hb.out);have hz:=TT.out i hlt;rw[<-Nj]at hz;have hzs:=Wi ((sF.out i hlt).mono (show 993<=10000 by decide)) zq.out zn.out zd zd;obtain⟨N,hN⟩:=az ((l i).length);rw[hN]at hw hev hz hzs;generalize mH (eT xs) V (l i) N=Z at*;obtain⟨g,hg⟩:=az (bg Z);have hg0:¬g<0:=λh=>by rw[<-hg]at h;have:=(sW Z).1 h;grind
        have KY:=aj hev;have iL:=aj λW=>lK (au (dN Z)) (nt (dN Z).natAbs) (dE Z) g (by show bg (dval (canon Z))=g;rw[bD];exact hg) W (hzs.ok zd);have Hx:Hid (aR wr b (o+i*2) [af (V:Int),.slice a9 N c9]):=hw;clear hw hev hz hzs hab e9 ky hN hg;obtain⟨ae,ai⟩:=qZ (Hp.an<|Hx.an trivial);go_wp2_with fail;refine aJ (Hb.an ae) (KY.out) λw5 ae ai=>?_;have aG:=qL ae;go_wp2_with fail;refine bP w5 ae 45 (bo Z) λW6 aG ae ai=>?_;go_wp2_with fail;refine aJ ae (iL.out _) λw7 ae ai=>?_;go_wp2;go_roundw;case rel=>exact⟨i+1,by omega,by go_num,ae.2.2.1.out,ae.2.1.out⟩
        case measure=>exact bf
      . obtain rfl:i=L:=by omega
        obtain⟨cs,hcs⟩:=az (ui Vq q i);have hex:=Kex.out wr (aC gS.out Hb.out) (RZ.out.below Hb.out) (wn.out.below Hb.out);rw[hcs]at hex;obtain⟨P,hP⟩:=az (dv V l i i q);have Yk:cs=0->gP Vq q=0/\(i:Int)=Vq:=λh=>by
         unfold ui at hcs;by_cases h1:gP Vq q=0
         . rw[if_pos h1]at hcs;by_cases h2:(i:Int)=Vq
           . exact⟨h1,h2⟩
           . rw[if_neg h2]at hcs;omega
         . rw[if_neg h1]at hcs;omega
        have fu:=rc.out;have hfin:=lC.out;rw[hP]at fu hfin hex;obtain⟨BI,aeZ,LM,afq⟩:=bU hex Yk fu hfin;clear hex Yk hcs fu hfin hP;unfold My at BI;obtain⟨ae,ai⟩:=qZ (Hp.an trivial);go_wp2_with fail;refine(BI.out).mono ?_;rintro e w8 ⟨v,a8,n8,c8,rfl,h8,ak⟩;obtain⟨ae,ai⟩:=qX ak (Hb.an ae);by_cases hs0:cs=0
        rotate_left
        . have avh:(cs==0)=false:=by simpa using hs0
          have avi:(cs !=0)=true:=by simpa using hs0
          clear h8;have aG:=qL ae;go_wp2_with fail;refine bP w8 ae 41 [af v,.slice a8 n8 c8] λW9 aG ae ai=>?_;go_wp2_with fail;refine aJ ae (zr.out _ (aC gS.out ae.2.1.out)) λfB ae ai=>?_;go_wp2;refine bodyPost_ret (results_tmp rfl _ _ _) rfl ⟨rfl,aC gS.out ae.2.1.out⟩
        subst hs0;obtain⟨hv8,OU,fL⟩:=h8 rfl;obtain⟨hp0,oK⟩:=aeZ.out rfl;subst hv8 OU;have HU:Hid (aM w8 a8 c8 P):=fL;clear h8 fL;have fu:=LM.out hp0 oK;have hev:=λW (hW:Bw w W) h9 h8=>UJ.out P a8 c8 W hW fu.1 h9 h8;have hzs:=Wi fu.1 zq.out zn.out zd zd;have hz:=afq.out hp0 oK;rw[<-Nj]at hz;generalize mH (eT xs) V P P.length=Z at*;obtain⟨F,hF⟩:=az (lM Vq q);have iq:=λW hW=>Kfa.out W hW;rw[hF]at iq hz;obtain⟨sB,KY,Hz,Hzs⟩:=bU iq hev hz hzs;clear iq hev hz hzs fu hF hp0 oK;have aG:=qL (HU.an ae);go_wp2_with fail;refine bP w8 (HU.an ae) 41 [af (V:Int),.slice a8 P.length c8] λW9 aG ae ai=>?_;go_wp2_with fail;refine aJ ae (sB.out _ (aC gS.out ae.2.2.1.out)) λfB ae ai=>?_;cases F with
        |false=>go_wp2_with fail;refine aJ ae (zr.out _ (aC gS.out ae.2.2.1.out)) λjz ae ai=>?_;go_wp2;refine bodyPost_ret (results_tmp rfl _ _ _) rfl ⟨rfl,aC gS.out ae.2.2.1.out⟩
        | true=>
          obtain⟨g,hg⟩:=az (bg Z);have hg0:0<g:=by rw[<-hg];exact(akw Z).2 (Hz.out rfl)
          have iL:=aj λW=>lK (au (dN Z)) (nt (dN Z).natAbs) (dE Z) g (by show bg (dval (canon Z))=g;rw[bD];exact hg) W (Hzs.out.ok zd);clear hg;go_wp2_with fail;refine aJ ae (KY.out _ (aC gS.out ae.2.2.1.out) ae.2.1.out.1 (Sc.out.below ae.2.2.1.out)) λjz ae ai=>?_;have aG:=qL ae;go_wp2_with fail;refine bP jz ae 45 (bo Z) λzz aG ae ai=>?_;go_wp2_with fail;refine aJ ae (iL.out _) λny ae ai=>?_;go_wp2_with fail;refine aJ ae (zr.out _ (aC gS.out ae.2.2.2.1.out)) λKb ae ai=>?_;go_wp2;refine bodyPost_ret (results_tmp rfl _ _ _) rfl ⟨rfl,aC gS.out ae.2.2.2.1.out⟩
end Go.Proofs.YtpfgffadgkkedaaGreatDoor
