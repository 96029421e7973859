/- TriWeights: the law's own walk. -/
import Derived.Test.YtdaadlblknpipaaGreatDoorZ24
import Derived.Test.YtdaadlblknpipaaGreatDoorZ26
import Derived.Test.YtdaadlblknpipaaGreatDoorZ23
set_option linter.unusedVariables false
set_option linter.unusedSimpArgs false
set_option maxRecDepth 100000
set_option maxHeartbeats 16000000
namespace Go.Proofs.YtdaadlblknpipaaGreatDoor
open Go.RowKit
attribute [local go_sem ↓] Go.wp_at_zero Go.wp_at_succ
theorem Ym {x:Raw}(h:AC x):gY 192 x:=⟨⟨by have:=h.1;omega,by have:=h.2.1;omega,by have:=h.2.2;omega⟩,(OB h).2⟩
theorem aj1 (D:List Dyadic)(k:Nat)(hk:k<D.length):kQ (D.take (k+1))=(kQ (D.take k)&&decide (0<=bZ D[k])):=by unfold kQ;rw[List.take_add_one,List.all_append];simp[hk]
theorem ang (a:Option Addr)(L cap:Nat)(rows:List (List Raw))(xa:Option Addr)(xn xc:Nat)(xs:List Raw)(w:World)(hL:rows.length=L)(hX:xs.length=xn)(hsl:Sl a L cap)(rq:Sl xa xn xc)(ha:kC w a rows)(hx:At w xa (xs.flatMap bA))(hT:aF w):
 Calls Tryz.prog 4 #[.slice a L cap,.slice xa xn xc] w λe w'=>e=.returned (.bool true)/\Bw w w':=by
 have hvs:=λW (hW:Bw w W)=>amX a L cap rows xa xn xc xs W hL hX (ha.below hW) (hx.below hW) rq;obtain⟨Hvs,Ha,Hx,fL,HL,HX,td⟩:=oH hvs ha.tbl hx hT hL hX hsl;clear hvs ha hx hT hL hX hsl rq;have Hb:Hid (Bw w w):=Below.refl _ _;go_enter Tryz.func4,Tryz.ntmps4;go_wp2_with fail;refine(Hvs.out _ Hb.out).mono ?_;rintro e w1 ⟨⟨v,rfl,hv⟩,ae⟩;replace Hb:=ah (aK Hb.out ae);clear ae;cases v with
 |true=>clear hv;go_wp2_with fail;refine(Li _ (fL.out.below Hb.out)).mono ?_;rintro e w2 ⟨rfl,ae⟩;replace Hb:=az Hb ae;clear ae;go_wp2;refine bodyPost_ret (results_tmp rfl _ _ _) rfl ⟨rfl,Hb.out⟩
 | false=>
   have pL:=hv rfl;obtain⟨hf,dL⟩:=pL.fit;have iX:∀r∈rows,∀c∈r,gY 192 c:=λr hr c hc=>Ym (pL.2.2.2.1 r hr c hc);have jB:∀c∈xs,gY 192 c:=λc hc=>Ym (pL.2.2.2.2 c hc);have h5:L<=5:=by have:=pL.1;rw[HL.out]at this;exact this
   obtain⟨c,hc⟩:=aB (fD rows);obtain⟨q,hq⟩:=aB (Bd rows xn);obtain⟨V,hV⟩:=aB (eo rows);have hcap:=td.out.1
   -- the code,by what is told
   have hc1:c=1↔V=0:=by
    rw[<-hc,<-hV];unfold fD;by_cases h:eo rows=0
    . simp[h]
    . rw[if_neg h];split<;>simp[h]
   have Im:q=if V=0\/(xn:Int)≠V then 1 else c:=by rw[<-hq,<-hc,<-hV];rfl
   have tT:c=0->∃m,m+1<=4/\Rw (m+1) 192 rows/\L=m+1+1/\V=((m+1:Nat):Int):=λh=>by obtain⟨m,h1,h2⟩:=amA (by rw[HL.out];exact h5) hf (by rw[hc];exact h);exact⟨m,h1,h2,by rw[<-HL.out];exact h2.1,by rw[<-hV];exact amV h2 zo zo⟩
   have hq0:q=0->c=0/\(xn:Int)=V:=λh=>by
    by_cases h1:V=0\/(xn:Int)≠V
    . rw[if_pos h1]at Im;omega
    . rw[if_neg h1]at Im;exact⟨by omega,Classical.byContradiction λh2=>h1 (.inr h2)⟩
   obtain⟨Z,hZ⟩:=aB (gX (L-1) (bJ rows) (fE xs));obtain⟨T,Ms⟩:=aB (fQ (L-1) (bJ rows) (L-1));have ye:∀W,Bw w W->Calls Tryz.prog 22 #[.slice a L cap,.slice xa xn xc] W λe w'=>∃a5 n5 c5,e=.returned (.tuple #[.slice a5 n5 c5,.int .i64 q])/\(q=0->n5=L/\At w' a5 (dC Z))/\(q≠0->n5=0)/\Bw W w':=λW hW=>by
    by_cases h:q=0
    . obtain⟨h1,h2⟩:=hq0 h;obtain⟨m,hm,hr,mF,uV⟩:=tT h1;have DT:xn=m+1:=by omega
      subst mF;subst DT;refine(Qd a cap m rows 192 xa xc xs W hm hr hcap (Ha.out.below hW) (Hx.out.below hW) HX.out dL zd (fL.out.below hW) (by rw[hc];exact h1)).mono ?_;rintro e w' ⟨a',c',rfl,_,hat,hb⟩;exact⟨a',_,c',by rw[h],λ_=>⟨rfl,by rw[<-hZ];exact hat⟩,λh9=>absurd h h9,hb⟩
    . refine(ZW a L cap rows 192 q xa xn xc W HL.out h5 hcap (Ha.out.below hW) hf zd (fL.out.below hW) hq h).mono ?_;rintro e w' ⟨rfl,hb⟩;exact⟨none,0,0,rfl,λh9=>absurd h9 h,λ_=>rfl,hb⟩
   have hfo:∀W,Bw w W->Calls Tryz.prog 23 #[.slice a L cap] W λe w'=>∃a7 n7 c7 ps,e=.returned (.tuple #[.slice a7 n7 c7,.int .i64 c])/\(c=0->n7=L/\ps.length=L/\At w' a7 (ps.flatMap iR)/\ic w' (L-1) (5*192+33) ps T)/\(c≠0->n7=0)/\Bw W w':=λW hW=>by
    by_cases h:c=0
    . obtain⟨m,hm,hr,mF,uV⟩:=tT h;subst mF;refine(TL a cap m rows 192 W hm hr hcap (Ha.out.below hW) zd (fL.out.below hW) (by rw[hc];exact h)).mono ?_;rintro e w' ⟨a',c',ps,rfl,_,h1,h2,h3,hb⟩;exact⟨a',_,c',ps,by rw[h],λ_=>⟨rfl,h1,h2,by rw[<-Ms];exact h3⟩,λh9=>absurd h h9,hb⟩
    . refine(ags a L cap rows 192 c W HL.out h5 hcap (Ha.out.below hW) hf zd (fL.out.below hW) hc h).mono ?_;rintro e w' ⟨rfl,hb⟩;exact⟨none,0,0,[],rfl,λh9=>absurd h9 h,λ_=>rfl,hb⟩
   have nz:c=0->dz (L-1) (bJ rows)≠0:=λh=>by obtain⟨m,hm,hr,mF,uV⟩:=tT h;intro h2;have h9:=hc;unfold fD at h9;rw[hV,if_neg zo,uV,Int.toNat_natCast,show m+1=L-1 by omega,if_pos h2]at h9;omega
   have hrf:c=0->∀W,Bw w W->Calls Tryz.prog 24 #[.slice a L cap] W λe w'=>∃a8 c8 ps,e=.returned (.slice a8 L c8)/\ps.length=L/\At w' a8 (ps.flatMap iR)/\ic w' (L-1) (5*192+50) ps T/\Bw W w':=λh W hW=>by obtain⟨m,hm,hr,mF,uV⟩:=tT h;have hd:=nz h;subst mF;refine(alk a cap (m+1) 192 rows W hr.1 zo hm hr.2.1 iX zd zd (Ha.out.below hW) hd).mono ?_;rintro e w' ⟨a',c',ps,rfl,_,h1,h2,h3,hb⟩;exact⟨a',c',ps,rfl,h1,h2,by rw[<-Ms];exact h3,hb⟩
   have rX:q=0->∀W,Bw w W->Calls Tryz.prog 27 #[.slice a L cap,.slice xa xn xc] W λe w'=>∃a8 c8,e=.returned (.slice a8 L c8)/\At w' a8 (dC Z)/\Bw W w':=λh W hW=>by
    obtain⟨h1,h2⟩:=hq0 h;obtain⟨m,hm,hr,mF,uV⟩:=tT h1;have hd:=nz h1;have DT:xn=m+1:=by omega
    subst mF;subst DT;refine(Pm a cap (m+1) 192 rows xa xc xs W hr.1 zo hm hr.2.1 iX HX.out jB zd (Ha.out.below hW) (Hx.out.below hW) hd).mono ?_;rintro e w' ⟨a',c',rfl,_,hat,hb⟩;exact⟨a',c',rfl,by rw[<-hZ];exact hat,hb⟩
   have rU:∀W,Bw w W->Calls Tryz.prog 26 #[.slice a L cap,.slice xa xn xc] W λe w'=>e=.returned (.bool (if q=0 then kQ Z else false))/\Bw W w':=λW hW=>by
    by_cases h:q=0
    . obtain⟨h1,h2⟩:=hq0 h;obtain⟨m,hm,hr,mF,uV⟩:=tT h1;have DT:xn=m+1:=by omega
      subst mF;subst DT;rw[if_pos h,<-hZ];exact UR a cap m rows 192 xa xc xs W hm hr hcap (Ha.out.below hW) (Hx.out.below hW) HX.out dL zd (fL.out.below hW) (by rw[hc];exact h1)
    . rw[if_neg h];exact aha a L cap rows 192 xa xn xc W HL.out h5 hcap (Ha.out.below hW) hf zd (fL.out.below hW) (by rw[hq];exact h)
   have ez:=λW (hW:Bw w W)=>alb a L cap 192 rows W HL.out h5 iX zd (Ha.out.below hW);rw[hc]at ez;have oD:=λW (hW:Bw w W)=>Pk a L cap rows V W HL.out zo (Ha.out.below hW) hV;have nu:q=0->Z.length=L:=λh=>by obtain⟨h1,h2⟩:=hq0 h;obtain⟨m,hm,hr,mF,uV⟩:=tT h1;rw[<-hZ];simp[gX];omega
   have ny:q=0->∀d∈Z,Sm (5*192+20) d:=λh=>by obtain⟨h1,h2⟩:=hq0 h;obtain⟨m,hm,hr,mF,uV⟩:=tT h1;rw[<-hZ];subst mF;exact Qg zo hm (OS hr) (aac (by rw[HX.out];omega) dL)
   obtain⟨KR,Fl,RN,Cb,Fs,jU,zu,mh,JB,sN,KA⟩:=aiL ye hfo hrf rX rU ez oD nu ny hc1 Im;clear ye hfo hrf rX rU ez oD nu ny hc1 Im hq0 tT nz hZ Ms hV hq hc iX jB hf dL pL hv hcap;go_wp2_with fail;refine(KR.out _ Hb.out).mono ?_;rintro e w2 ⟨a5,n5,c5,rfl,hw0,hw1,ae⟩;replace Hb:=ah (aK Hb.out ae);obtain⟨xb,KP⟩:=aM hw0 hw1;have hs2:=ae.size;clear hw0 hw1 ae;go_wp2_with fail;refine(Fl.out _ Hb.out).mono ?_;rintro e w3 ⟨a7,n7,c7,ps,rfl,hw0,hw1,ae⟩;have QN:=ah ae;replace Hb:=ah (aK Hb.out ae);obtain⟨uB,Rf⟩:=aM hw0 hw1;clear hw0 hw1 ae;go_wp2_with fail;refine(jU.out _ Hb.out).mono ?_;rintro e w4 ⟨rfl,ae⟩;have QP:=ah ae;replace Hb:=ah (aK Hb.out ae);have QO:=ah (aK QN.out ae);clear ae;have hcc:(c !=c)=false:=by simp
   go_upto_if 36 with fail
   go_cut[9] (λs9 wx=>s9=.int .i64 c/\Bw w4 wx);case first=>
    by_cases h0:c=0
    . obtain⟨hn7,hps,UW,Nt⟩:=uB.out h0;have hrf:=RN.out h0;subst h0;subst hn7;obtain⟨N,hN⟩:=aB (n7-1);rw[hN]at Nt;simp only[hN]at hrf;obtain⟨mA,aaZ,acr,acH⟩:=dS hps UW Nt hrf;clear hps UW Nt hrf hN hcc;go_wp2_with fail;refine(acH.out _ Hb.out).mono ?_;rintro e w5 ⟨a8,c8,ps8,rfl,Wx,Df,Ww,ae⟩;obtain⟨aa6,QQ,RJ,Fe,acs⟩:=fC ae (aK QP.out ae) Wx Df Ww;clear Wx Df Ww ae Hb;go_wp2_with fail;go_loopw[11] (λx wr=>∃i:Nat,i<=n7/\x=.int .i64 (i:Int)/\Bw w5 wr) (λx _=>n7-(intOf x).toNat);case atStart=>exact⟨0,Nat.zero_le _,rfl,Below.refl _ _⟩
      case round=>
       obtain⟨i,hi,rfl,pb⟩:=hrel;by_cases hlt:i<n7
       . obtain⟨au,cu,eu,pu,fu⟩:=(acr.out.below (aK QQ.out pb)) i (by rw[mA.out];exact hlt);obtain⟨av,cv,ev,pv,_⟩:=(acs.out.below pb) i (by rw[RJ.out];exact hlt);obtain⟨b7,o7,rfl,wu⟩:=(aaZ.out.below (aK QQ.out pb)).aqV i (by rw[mA.out];exact hlt) eu;obtain⟨b8,o8,rfl,wv⟩:=(Fe.out.below pb).aqV i (by rw[RJ.out];exact hlt) ev;have hsm:=λW (hW:Bw wr W)=>YS (N:Int) (T i) au av cu cv W (by have:=fu.1.2.2.1;omega) (pu.1.below hW) (pv.1.below hW);obtain⟨M,hM⟩:=aB ((T i).length);rw[hM]at wu wv;simp only[hM]at hsm;have ixu:=rA n7 c7 i (i:Int) (rfl:(some ⟨b7,o7,none⟩:Option Addr)=_) hlt rfl;have ixv:=rA n7 c8 i (i:Int) (rfl:(some ⟨b8,o8,none⟩:Option Addr)=_) hlt rfl;obtain⟨Hu,Hv,FB,aQ⟩:=dS wu wv hsm pb;clear wu wv hsm pb pu pv fu eu ev hM;have Hb:Hid (Bw wr wr):=Below.refl _ _;obtain⟨u0,u1⟩:=Hu.out.w2;obtain⟨v0,v1⟩:=Hv.out.w2;go_wp2_with fail;refine bM (λw'=>w'.cell? ⟨b7,o7+i*2,none⟩=some (.int .i64 (N:Int))/\w'.cell? ⟨b7,o7+i*2+1,none⟩=some (.slice au M cu)/\w'.cell? ⟨b8,o8+i*2,none⟩=some (.int .i64 (N:Int))/\w'.cell? ⟨b8,o8+i*2+1,none⟩=some (.slice av M cv)) (λi=>Nat.blt i 100000) [(0,true),(1,true),(2,true),(3,true),(4,true),(5,true),(6,true),(7,true),(8,true),(9,true),(10,true),(11,true),(12,true),(13,true),(14,false),(15,true),(16,true)] zk zk rfl zk zc ⟨u0,u1,v0,v1⟩ ?_;iterate 14 (refine pT rfl rfl ?_ (by intro w' ⟨q0,q1,q2,q3⟩;go_simp;try with_reducible rfl);try simp only[UU])
         refine aI rfl rfl (λK hK=>?_);go_simp;with_reducible refine(FB.out _ (by first|exact Hb.out|exact Hb.out.drew)).mono ?_
         rintro e w6 ⟨rfl,hq⟩;have ae:Bw wr w6:=by first|exact hq|exact aV hq
         clear u0 u1 v0 v1;replace Hu:=kW Hu ae;replace Hv:=kW Hv ae;obtain⟨u0,u1⟩:=Hu.out.w2;obtain⟨v0,v1⟩:=Hv.out.w2;replace Hb:=az Hb ae;clear ae;refine hK _ _ (λ_=>⟨u0,u1,v0,v1⟩) ?_;clear hK K;try simp only[UU]
         iterate 2 (refine pT rfl rfl ?_;try simp only[UU])
         simp only[aZ];go_wp2;go_roundw;case rel=>exact⟨i+1,by omega,by go_num,aK aQ.out Hb.out⟩
         case measure=>simp[intOf];omega
       . obtain rfl:i=n7:=by omega
         have aQ:=ah pb;clear pb;go_wp2_with fail;go_meet;exact⟨rfl,aK aa6.out aQ.out⟩
    . obtain rfl:=Rf.out h0;have hcb:(c==0)=false:=by simpa using h0
      go_wp2_with fail;go_meet;exact⟨rfl,Below.refl _ _⟩
   case rest=>
    obtain⟨rfl,hb4⟩:=hcut;replace Hb:=ah (aK Hb.out hb4);have JF:=ah (aK QO.out hb4);clear hb4 hcc uB Rf RN Fl QN QP QO;obtain⟨wd,hwd⟩:∃wd,wd=wc:=⟨_,rfl⟩;subst hwd;go_upto_region 17 with fail
    go_cut[73] (λs73 wx=>s73=.bool (if c=1 then false else((xn:Int) !=V))/\Bw wd wx);case first=>
     by_cases h1:c=1
     . subst h1;go_wp2_with fail;go_meet;exact⟨rfl,Below.refl _ _⟩
     . have hcb:(c !=1)=true:=by simpa using h1
       go_wp2_with fail;refine(zu.out _ Hb.out).mono ?_;rintro e w6 ⟨rfl,ae⟩;go_wp2_with fail;go_meet;exact⟨by rw[if_neg h1],ae⟩
    case rest=>
     obtain⟨rfl,dA⟩:=hcut;replace Hb:=ah (aK Hb.out dA);replace JF:=ah (aK JF.out dA);clear dA;obtain⟨we,ye⟩:∃we,we=wc:=⟨_,rfl⟩;subst ye;go_upto_if 73 with fail
     go_cut[9] (λs9 wx=>s9=.int .i64 q/\wx=we);case first=>
      by_cases h1:c=1
      . have e1:q=c:=by rw[KA.out,if_pos (.inl (sN.out.1 h1)),h1]
        rw[if_pos h1];clear h1;go_wp2_with fail;go_meet;exact⟨by rw[e1],rfl⟩
      . have hv0:V≠0:=λh=>h1 (sN.out.2 h);rw[if_neg h1];by_cases h2:(xn:Int)=V
        . have e1:q=c:=by rw[KA.out,if_neg (by intro h;rcases h with h|h;exact hv0 h;exact h h2)]
          have h3:((xn:Int) !=V)=false:=by simpa using h2
          rw[h3];clear h1 h2 h3 hv0;go_wp2_with fail;go_meet;exact⟨by rw[e1],rfl⟩
        . have e1:q=1:=by rw[KA.out,if_pos (.inr h2)]
          have h3:((xn:Int) !=V)=true:=by simpa using h2
          rw[h3];clear h1 h2 h3 hv0;go_wp2_with fail;go_meet;exact⟨by rw[e1],rfl⟩
     case rest=>
      obtain⟨rfl,rfl⟩:=hcut;by_cases h0:q=0
      . obtain⟨Wa,UV⟩:=xb.out h0;have rX:=Cb.out h0;have rU:=λW hW=>Fs.out W hW;have nu:=mh.out h0;have ny:=JB.out h0;simp only[if_pos h0]at rU;subst h0;subst Wa;obtain⟨aaY,acK,Fu,JA,aaV⟩:=fC UV rX rU nu ny;clear UV rX rU nu ny xb KP Cb Fs mh JB KR;go_wp2_with fail;refine(acK.out _ Hb.out).mono ?_;rintro e w6 ⟨a8,c8,rfl,Df,ae⟩;replace Hb:=ah (aK Hb.out ae);obtain⟨aa5,Fe⟩:=aM (aK JF.out ae) Df;clear Df ae;go_wp2_with fail;go_loopw[13,14] (λPy x wr=>∃k:Nat,k<=n5/\x=.int .i64 (k:Int)/\Py=.bool (kQ (Z.take k))/\Bw w6 wr) (λ_ x _=>n5-(intOf x).toNat);case atStart=>exact⟨0,Nat.zero_le _,rfl,rfl,Below.refl _ _⟩
        case round=>
         obtain⟨k,hk,rfl,rfl,pb⟩:=hrel;by_cases hlt:k<n5
         . have Nc:k<Z.length:=by rw[JA.out];exact hlt
           have hnx:=aj1 Z k Nc;obtain⟨D,hD⟩:=aB (Z[k]);obtain⟨g,hg⟩:=aB (bZ D);have fJ:=aaV.out _ (List.getElem_mem Nc);rw[hD]at hnx fJ;rw[hg]at hnx;obtain⟨b9,o9,rfl,rY⟩:=(Fe.out.below pb).dn k Nc hD;obtain⟨q0,q1,q2⟩:=rY.w3;have NT:=jC n5 c8 k (k:Int) (rfl:(some ⟨b9,o9,none⟩:Option Addr)=_) hlt rfl;have fH:=λW=>yH (ar (dN D)) (nt (dN D).natAbs) (dE D) g (by show bZ (aC (canon D))=g;rw[bP];exact hg) W (by have:=(fJ.aqT zo).1;exact Nat.le_trans this zd);obtain⟨bb,hbb⟩:=aB (kQ (Z.take k));rw[hbb]at hnx⊢;obtain⟨iV,mZ,aQ⟩:=cX fH hnx pb;clear fH hnx pb hbb hg hD fJ rY;cases bb with
           | true=>
             go_wp2_with fail;refine(iV.out _).mono ?_;rintro e w7 ⟨rfl,ae⟩;clear q0 q1 q2 NT;have oP:=ah (aK aQ.out ae);clear ae;go_wp2;go_roundw;case rel=>exact⟨k+1,by omega,by go_num,by rw[mZ.out];simp,oP.out⟩
             case measure=>simp[intOf];omega
           | false=>
             clear q0 q1 q2 NT;go_wp2;go_roundw;case rel=>exact⟨k+1,by omega,by go_num,by rw[mZ.out];rfl,aQ.out⟩
             case measure=>simp[intOf];omega
         . obtain rfl:k=n5:=by omega
           rw[show Z.take k=Z from List.take_of_length_le (by rw[JA.out];exact Nat.le_refl _)];have Wh:=λW (hW:Bw w6 W)=>aka Z k a5 a8 c5 c8 W JA.out zo ((aaY.out.below aa5.out).below hW) (Fe.out.below hW);have Hnu:=ah Wh;obtain⟨bb,hbb⟩:=aB (kQ Z);rw[hbb]at Fu⊢;have MH:(bb==bb)=true:=by simp
           obtain⟨aQ,oP⟩:=aM pb (aK Hb.out pb);clear Wh hbb pb;go_wp2_with fail;refine(Hnu.out _ aQ.out).mono ?_;rintro e w7 ⟨rfl,ae⟩;have ia:=ah (aK oP.out ae);clear ae;go_wp2_with fail;refine(Fu.out _ ia.out).mono ?_;rintro e w8 ⟨rfl,ae⟩;have uy:=ah (aK ia.out ae);clear ae;go_wp2_with fail;refine(Li _ (fL.out.below uy.out)).mono ?_;rintro e w9 ⟨rfl,ae⟩;have jc:=ah (aK uy.out ae);clear ae;go_wp2;refine bodyPost_ret (results_tmp rfl _ _ _) rfl ⟨rfl,jc.out⟩
      . obtain rfl:=KP.out h0;have rU:=λW hW=>Fs.out W hW;simp only[if_neg h0]at rU;have Fu:=ah rU;have Wy:(q !=0)=true:=by simpa using h0
        have hqq:(q==q)=true:=by simp
        clear rU xb KP Fs KR Cb mh JB;go_wp2_with fail;refine(Fu.out _ Hb.out).mono ?_;rintro e w8 ⟨rfl,ae⟩;have uy:=ah (aK Hb.out ae);clear ae;go_wp2_with fail;refine(Li _ (fL.out.below uy.out)).mono ?_;rintro e w9 ⟨rfl,ae⟩;have jc:=ah (aK uy.out ae);clear ae;go_wp2;refine bodyPost_ret (results_tmp rfl _ _ _) rfl ⟨rfl,jc.out⟩
end Go.Proofs.YtdaadlblknpipaaGreatDoor
