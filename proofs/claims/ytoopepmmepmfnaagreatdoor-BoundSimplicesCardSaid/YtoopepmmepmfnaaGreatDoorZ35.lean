/- BoundSimplices: the law's own walk. -/
import Derived.Test.YtoopepmmepmfnaaGreatDoorZ32
import Derived.Test.YtoopepmmepmfnaaGreatDoorZ34
import Derived.Test.YtoopepmmepmfnaaGreatDoorZ29
import Derived.Test.YtoopepmmepmfnaaGreatDoorZ31
import Derived.Test.YtoopepmmepmfnaaGreatDoorZ19
set_option linter.unusedVariables false
set_option linter.unusedSimpArgs false
set_option maxRecDepth 100000
set_option maxHeartbeats 16000000
namespace Go.Proofs.YtoopepmmepmfnaaGreatDoor
open Go.RowKit
attribute [local go_sem ↓] Go.wp_at_zero Go.wp_at_succ
theorem aqx {d:Int}{G M:Dyadic}{n:Nat}{E l S:Dyadic}{x:Nat}(h:ot d G M n E l S=some x):x<=1024:=by
 unfold ot at h;split at h
 . simp at h;omega
 . exact anh _ _ _ h
theorem Sy {x:Raw}(h:yn x):ey 192 x:=⟨⟨by have:=h.1;omega,by have:=h.2.1;omega,by have:=h.2.2;omega⟩,(LZ h).2⟩
theorem ard {rows:List (List Raw)}{B:Nat}(h5:rows.length<=5)(hf:∀r∈rows,∀c∈r,Fit B c)(h:kQ rows=0):∃m,m+1<=4/\Rw (m+1) B rows:=by obtain⟨c1,c2,c3,c4⟩:=IH rfl (λh0=>by unfold kQ at h;rw[if_pos h0]at h;cases h);obtain⟨m,hm⟩:∃m:Nat,jw rows=((m+1:Nat):Int):=⟨((jw rows)-1).toNat,by omega⟩;exact⟨m,by omega,by omega,λr hr=>by have:=c4 r hr;omega,hf⟩
theorem ahU (a:Option Addr)(L cap:Nat)(rows:List (List Raw))(fX:Int)(gs:Bool)(gl:List UInt8)(ge:Int)(ms:Bool)(ml:List UInt8)(me:Int)(w:World)(hL:rows.length=L)(hsl:Sl a L cap)(ha:mG w a rows)(hT:aH w):
 Calls Tryz.prog 5 #[.slice a L cap,af fX,.agg #[ag gs,ah gl,af ge],.agg #[ag ms,ah ml,af me]] w λe w'=>e=.returned (ag true)/\Bw w w':=by
 obtain⟨Ha,fV,HL,Uy⟩:=dx ha hT hL hsl.1;clear ha hT hL hsl;obtain⟨W,cg,Hb,Hg,Hm⟩:=iq w 39 [ag gs,ah gl,af ge] 39 [ag ms,ah ml,af me];obtain⟨g0,g1,g2⟩:=Hg.out.c3;obtain⟨m0,m1,m2⟩:=Hm.out.c3;go_enter Tryz.func5,Tryz.ntmps5;by_cases h5:5<L
 . have h5i:(5:Int)<(L:Int):=by omega
   go_wp2_with fail;refine(sP _ (fV.out.below Hb.out)).mono ?_;rintro e w2 ⟨rfl,ae⟩;clear g0 g1 g2 m0 m1 m2;obtain⟨Hg,g0,g1,g2⟩:=aQ Hg ae;obtain⟨Hm,m0,m1,m2⟩:=aQ Hm ae;replace Hb:=aB Hb ae;clear ae;go_wp2;refine bodyPost_ret (results_tmp rfl _ _ _) rfl ⟨rfl,Hb.out⟩
 . have h5i:¬(5:Int)<(L:Int):=by omega
   have Kg0:=g0;have Kg1:=g1;have Kg2:=g2;have Oh:=m0;have Oi:=m1;have Oj:=m2;have avi:=Hg.out.lt;have avu:=Hm.out.lt;obtain⟨W2,mM,ae,Hc⟩:=cd W 39 [ag gs,ah gl,af ge,ag ms,ah ml,af me];clear g0 g1 g2;replace Hg:=kB Hg ae;clear m0 m1 m2;obtain⟨Hm,m0,m1,m2⟩:=aQ Hm ae;obtain⟨g0,g1,g2⟩:=Hg.out.c3;obtain⟨c0,c1,c2,c3,c4,c5⟩:=Hc.out.c6;replace Hb:=aB Hb ae;clear ae;go_wp2_with fail;refine(Xf [(gs,gl,ge),(ms,ml,me)] 2 (some ⟨W.heap.size,0,none⟩) 2 _ rfl zd (At.aw2 Hc.out)).mono ?_;rintro e w3 ⟨⟨v,rfl,hv⟩,ae⟩;clear g0 g1 g2 m0 m1 m2 c0 c1 c2 c3 c4 c5;obtain⟨Hg,g0,g1,g2⟩:=aQ Hg ae;obtain⟨Hm,m0,m1,m2⟩:=aQ Hm ae;obtain⟨Hc,c0,c1,c2,c3,c4,c5⟩:=fU Hc ae;replace Hb:=aB Hb ae;clear ae Kg0 Kg1 Kg2 Oh Oi Oj;cases v with
   |true=>clear hv;go_wp2_with fail;refine(sP _ (fV.out.below Hb.out)).mono ?_;rintro e w4 ⟨rfl,ae⟩;clear g0 g1 g2 m0 m1 m2 c0 c1 c2 c3 c4 c5;obtain⟨Hg,g0,g1,g2⟩:=aQ Hg ae;obtain⟨Hm,m0,m1,m2⟩:=aQ Hm ae;obtain⟨Hc,c0,c1,c2,c3,c4,c5⟩:=fU Hc ae;replace Hb:=aB Hb ae;clear ae;go_wp2;refine bodyPost_ret (results_tmp rfl _ _ _) rfl ⟨rfl,Hb.out⟩
   | false=>
     have Rb:=hv rfl (gs,gl,ge) zm;have Rc:=hv rfl (ms,ml,me) zm;obtain⟨Fg,Fm,Qg,Qm⟩:=dx (abX Rb) (abX Rc) (ey.mono (Sy Rb) (show 192<=300 by decide)) (ey.mono (Sy Rc) (show 192<=300 by decide));clear hv Rb Rc c0 c1 c2 c3 c4 c5 Hc;by_cases h10:1048576<fX
     . go_wp2_with fail;refine(sP _ (fV.out.below Hb.out)).mono ?_;rintro e w4 ⟨rfl,ae⟩;clear g0 g1 g2 m0 m1 m2;obtain⟨Hg,g0,g1,g2⟩:=aQ Hg ae;obtain⟨Hm,m0,m1,m2⟩:=aQ Hm ae;replace Hb:=aB Hb ae;clear ae;go_wp2;refine bodyPost_ret (results_tmp rfl _ _ _) rfl ⟨rfl,Hb.out⟩
     . skip
       have Bg:=Hg;have Bm:=Hm;have bW:=Hb;go_wp2_with fail;clear g0 g1 g2 m0 m1 m2;go_loopw[9] (λx wr=>∃k:Nat,k<=L/\x=af (k:Int)/\(∀r∈rows.take k,∀x∈r,yn x)/\Bw w3 wr) (λx _=>L-(intOf x).toNat);case atStart=>exact⟨0,Nat.zero_le _,rfl,(λy hy=>by simp at hy),Below.refl _ _⟩
       case round=>
        clear Hb Hg Hm;obtain⟨k,hk,rfl,hok,pb⟩:=hrel;obtain⟨Hb,Hg,Hm,BP,bu⟩:=gJ (aJ bW.out pb) (Bg.out.below pb) (Bm.out.below pb) hok pb;clear pb hok;by_cases hlt:k<L
        . have hk2:k<rows.length:=by rw[HL.out];exact hlt
          obtain⟨b,o,a',c',rfl,hcell,hat,hsl⟩:=(Ha.out.below Hb.out).row k hk2;have bK:=kO L cap k (k:Int) (rfl:(some ⟨b,o,none⟩:Option Addr)=_) hlt rfl;rw[Nat.mul_one]at bK;obtain⟨R,hR⟩:=aG (rows[k]);obtain⟨n,hn⟩:=aG R.length;rw[hR]at hcell hat;rw[hn]at hcell;obtain⟨HR,Hn,eH⟩:=cL hR hn hat;clear hR hn hat hsl;by_cases hn5:5<n
          . have alV:(5:Int)<(n:Int):=by omega
            go_wp2_with fail;refine(sP _ (fV.out.below Hb.out)).mono ?_;rintro e w4 ⟨rfl,ae⟩;replace Hb:=aB Hb ae;clear ae;go_wp2;refine bodyPost_ret (results_tmp rfl _ _ _) rfl ⟨rfl,Hb.out⟩
          . have alV:¬(5:Int)<(n:Int):=by omega
            go_wp2_with fail;refine(Xf R n a' c' _ Hn.out zo eH.out).mono ?_;rintro e w4 ⟨⟨v,rfl,hv⟩,ae⟩;have agn:=ai (aJ bu.out ae);replace Hb:=ai (aJ Hb.out ae);clear ae hcell;cases v with
            |true=>clear hv;go_wp2_with fail;refine(sP _ (fV.out.below Hb.out)).mono ?_;rintro e w5 ⟨rfl,ae⟩;replace Hb:=aB Hb ae;clear ae;go_wp2;refine bodyPost_ret (results_tmp rfl _ _ _) rfl ⟨rfl,Hb.out⟩
            | false=>
              have Hv:=ai (hv rfl);clear hv;go_wp2;go_roundw;case rel=>exact⟨k+1,by omega,by go_num,VW hk2 BP.out (by rw[HR.out];exact Hv.out),agn.out⟩
              case measure=>simp[intOf];omega
        . obtain rfl:k=L:=by omega
          have hall:∀r∈rows,∀x∈r,yn x:=by have:=BP.out;rwa [<-HL.out,List.take_length]at this
          have hf:∀r∈rows,∀x∈r,Fit 192 x:=λr h x hx=>LZ (hall r h x hx);have jo:∀r∈rows,∀x∈r,ey 192 x:=λr h x hx=>Sy (hall r h x hx);have tu:=Ha.out.tbl;obtain⟨c,hc⟩:=aG (kQ rows);have Qy:=λW (hW:Bw w W)=>apw a k cap 192 rows W HL.out zo jo zd (tu.below hW);simp only[hc]at Qy;have MQ:=ai Qy;clear Qy;obtain⟨G,hG⟩:=aG (bA (az (gs,gl,ge)));obtain⟨M,hM⟩:=aG (bA (az (ms,ml,me)));have gU:=λW=>ww gs gl ge G hG W (by have:=Qg.out.1.1;dsimp only at this;omega);have hsm:=λW=>ww ms ml me M hM W (by have:=Qm.out.1.1;dsimp only at this;omega);obtain⟨jM,pP⟩:=aO gU hsm;clear gU hsm;by_cases hok:c=0/\0<=fX/\0<=G/\0<M
          . obtain⟨hc0,o2,o3,o4⟩:=hok;subst hc0;obtain⟨mm,h1,h2⟩:=ard (by rw[HL.out];omega) hf hc;obtain rfl:k=mm+1+1:=by rw[<-HL.out];exact h2.1
            obtain⟨d,rfl⟩:∃d:Nat,fX=d:=⟨fX.toNat,by omega⟩;have oY:dw (mm+1) (bT rows)≠0:=λh9=>by have hv:=DC h2.1 h2.2.1 zo zo;unfold kQ at hc;rw[hv,if_neg zo,Int.toNat_natCast,if_pos h9]at hc;omega
            have iZ:=λW (hW:Bw w W)=>acM a cap (mm+1) rows 192 (d:Int) gs gl ge ms ml me W zo h1 h2 Uy.out (tu.below hW) zd (fV.out.below hW) Fg.out Fm.out hc (by rw[hG];exact o3) (by rw[hM];exact o4) o2 zo;have lC:=λW (hW:Bw w W)=>aps a cap (mm+1) 192 d rows gs gl ge ms ml me W h2.1 zo h1 h2.2.1 jo hf zd zd (tu.below hW) oY zo Qg.out Qm.out;obtain⟨N,hN⟩:=aG (ot (d:Int) (az (gs,gl,ge)) (az (ms,ml,me)) (mm+1) (stA (ir (mm+1)) (fy (mm+1) (bT rows) (mm+1)) (mm+1+1)) (iP (gq rows (mm+1)) (mm+1+1)).2.2 (dw (mm+1) (bT rows)));simp only[hN]at iZ lC;have hg0:¬G<0:=by omega
            have hm0:¬M<=0:=by omega
            have hd0:¬(d:Int)<0:=by omega
            cases N with
            |none=>obtain⟨sD,yX⟩:=aO iZ lC;clear iZ lC hN hc hG hM hall hf jo tu oY h2 o2;obtain⟨g0,g1,g2⟩:=Hg.out.c3;obtain⟨m0,m1,m2⟩:=Hm.out.c3;go_wp2_with fail;refine(sD.out _ Hb.out).mono ?_;rintro e w4 ⟨rfl,ae⟩;clear g0 g1 g2 m0 m1 m2;obtain⟨Hg,g0,g1,g2⟩:=aQ Hg ae;obtain⟨Hm,m0,m1,m2⟩:=aQ Hm ae;replace Hb:=aB Hb ae;clear ae;go_wp2_with fail;refine(MQ.out _ Hb.out).mono ?_;rintro e w5 ⟨rfl,ae⟩;clear g0 g1 g2 m0 m1 m2;obtain⟨Hg,g0,g1,g2⟩:=aQ Hg ae;obtain⟨Hm,m0,m1,m2⟩:=aQ Hm ae;replace Hb:=aB Hb ae;clear ae;go_wp2_with fail;refine(jM.out _).mono ?_;rintro e w7 ⟨rfl,ae⟩;clear g0 g1 g2 m0 m1 m2;obtain⟨Hg,g0,g1,g2⟩:=aQ Hg ae;obtain⟨Hm,m0,m1,m2⟩:=aQ Hm ae;replace Hb:=aB Hb ae;clear ae;go_wp2_with fail;refine(pP.out _).mono ?_;rintro e w8 ⟨rfl,ae⟩;clear g0 g1 g2 m0 m1 m2;obtain⟨Hg,g0,g1,g2⟩:=aQ Hg ae;obtain⟨Hm,m0,m1,m2⟩:=aQ Hm ae;replace Hb:=aB Hb ae;clear ae;go_wp2_with fail;refine(yX.out _ Hb.out).mono ?_;rintro e w9 ⟨rfl,ae⟩;clear g0 g1 g2 m0 m1 m2;obtain⟨Hg,g0,g1,g2⟩:=aQ Hg ae;obtain⟨Hm,m0,m1,m2⟩:=aQ Hm ae;replace Hb:=aB Hb ae;clear ae;go_wp2_with fail;refine(sP _ (fV.out.below Hb.out)).mono ?_;rintro e dQ ⟨rfl,ae⟩;clear g0 g1 g2 m0 m1 m2;obtain⟨Hg,g0,g1,g2⟩:=aQ Hg ae;obtain⟨Hm,m0,m1,m2⟩:=aQ Hm ae;replace Hb:=aB Hb ae;clear ae;go_wp2;refine bodyPost_ret (results_tmp rfl _ _ _) rfl ⟨rfl,Hb.out⟩
            | some x=>
              have htop:=aqx hN;have hxi:¬(1024:Int)<(x:Int):=by omega
              simp only[Option.getD_some,if_neg (show ¬(some x=none)by simp)]at iZ lC;obtain⟨sD,yX⟩:=aO iZ lC;clear iZ lC hN hc hG hM hall hf jo tu oY h2 o2 htop;obtain⟨g0,g1,g2⟩:=Hg.out.c3;obtain⟨m0,m1,m2⟩:=Hm.out.c3;go_wp2_with fail;refine(sD.out _ Hb.out).mono ?_;rintro e w4 ⟨rfl,ae⟩;clear g0 g1 g2 m0 m1 m2;obtain⟨Hg,g0,g1,g2⟩:=aQ Hg ae;obtain⟨Hm,m0,m1,m2⟩:=aQ Hm ae;replace Hb:=aB Hb ae;clear ae;go_wp2_with fail;refine(MQ.out _ Hb.out).mono ?_;rintro e w5 ⟨rfl,ae⟩;clear g0 g1 g2 m0 m1 m2;obtain⟨Hg,g0,g1,g2⟩:=aQ Hg ae;obtain⟨Hm,m0,m1,m2⟩:=aQ Hm ae;replace Hb:=aB Hb ae;clear ae;go_wp2_with fail;refine(jM.out _).mono ?_;rintro e w7 ⟨rfl,ae⟩;clear g0 g1 g2 m0 m1 m2;obtain⟨Hg,g0,g1,g2⟩:=aQ Hg ae;obtain⟨Hm,m0,m1,m2⟩:=aQ Hm ae;replace Hb:=aB Hb ae;clear ae;go_wp2_with fail;refine(pP.out _).mono ?_;rintro e w8 ⟨rfl,ae⟩;clear g0 g1 g2 m0 m1 m2;obtain⟨Hg,g0,g1,g2⟩:=aQ Hg ae;obtain⟨Hm,m0,m1,m2⟩:=aQ Hm ae;replace Hb:=aB Hb ae;clear ae;go_wp2_with fail;refine(yX.out _ Hb.out).mono ?_;rintro e w9 ⟨rfl,ae⟩;clear g0 g1 g2 m0 m1 m2;obtain⟨Hg,g0,g1,g2⟩:=aQ Hg ae;obtain⟨Hm,m0,m1,m2⟩:=aQ Hm ae;replace Hb:=aB Hb ae;clear ae;go_wp2_with fail;refine(sP _ (fV.out.below Hb.out)).mono ?_;rintro e dQ ⟨rfl,ae⟩;clear g0 g1 g2 m0 m1 m2;obtain⟨Hg,g0,g1,g2⟩:=aQ Hg ae;obtain⟨Hm,m0,m1,m2⟩:=aQ Hm ae;replace Hb:=aB Hb ae;clear ae;go_wp2;refine bodyPost_ret (results_tmp rfl _ _ _) rfl ⟨rfl,Hb.out⟩
          . obtain⟨E,hE⟩:=aG (su c fX (az (gs,gl,ge)) (az (ms,ml,me)));have e1:fX<0->E=1:=λh=>by rw[<-hE];unfold su;rw[if_pos (.inr (.inl h))]
            have e2:G<0->E=1:=λh=>by rw[<-hE];unfold su;rw[if_pos (.inr (.inr λh2=>by have:=h2.1;omega))]
            have e3:M<=0->E=1:=λh=>by rw[<-hE];unfold su;rw[if_pos (.inr (.inr λh2=>by have:=h2.2;omega))]
            have e4:0<=fX->0<=G->0<M->E=c:=λh1 h2 h3=>by
             rw[<-hE];unfold su;by_cases h5:c=1
             . rw[if_pos (.inl h5),h5]
             . rw[if_neg];rintro(h|h|h)
               . exact h5 h
               . omega
               . exact h ⟨by omega,by omega⟩
            have PH:E≠0:=by
             by_cases h1:fX<0
             . rw[e1 h1];decide
             . by_cases h2:G<0
               . rw[e2 h2];decide
               . by_cases h3:M<=0
                 . rw[e3 h3];decide
                 . rw[e4 zo zo zo];exact λh=>hok ⟨h,by omega,by omega,by omega⟩
            have iZ:=λW (hW:Bw w W)=>aqu a k cap rows 192 fX gs gl ge ms ml me W HL.out zo Uy.out hf (tu.below hW) zd (fV.out.below hW) Fg.out.1 Fm.out.1 (by rw[hc,hE];exact PH);simp only[hc,hE]at iZ;have sD:=ai iZ;have hEb:(E==0)=false:=by simpa using PH
            obtain⟨E1,E2,E3,E4⟩:=dx e1 e2 e3 e4;clear e1 e2 e3 e4 iZ hE hok hc hG hM hall PH hf jo tu;obtain⟨g0,g1,g2⟩:=Hg.out.c3;obtain⟨m0,m1,m2⟩:=Hm.out.c3;go_wp2_with fail;refine(sD.out _ Hb.out).mono ?_;rintro e w4 ⟨rfl,ae⟩;clear g0 g1 g2 m0 m1 m2;obtain⟨Hg,g0,g1,g2⟩:=aQ Hg ae;obtain⟨Hm,m0,m1,m2⟩:=aQ Hm ae;replace Hb:=aB Hb ae;clear ae;go_wp2_with fail;refine(MQ.out _ Hb.out).mono ?_;rintro e w5 ⟨rfl,ae⟩;clear g0 g1 g2 m0 m1 m2;obtain⟨Hg,g0,g1,g2⟩:=aQ Hg ae;obtain⟨Hm,m0,m1,m2⟩:=aQ Hm ae;replace Hb:=aB Hb ae;clear ae;by_cases hd0:fX<0
            . obtain rfl:=E1.out hd0;go_wp2_with fail;refine(sP _ (fV.out.below Hb.out)).mono ?_;rintro e w7 ⟨rfl,ae⟩;clear g0 g1 g2 m0 m1 m2;obtain⟨Hg,g0,g1,g2⟩:=aQ Hg ae;obtain⟨Hm,m0,m1,m2⟩:=aQ Hm ae;replace Hb:=aB Hb ae;clear ae;go_wp2;refine bodyPost_ret (results_tmp rfl _ _ _) rfl ⟨rfl,Hb.out⟩
            . skip
              go_wp2_with fail;refine(jM.out _).mono ?_;rintro e w7 ⟨rfl,ae⟩;clear g0 g1 g2 m0 m1 m2;obtain⟨Hg,g0,g1,g2⟩:=aQ Hg ae;obtain⟨Hm,m0,m1,m2⟩:=aQ Hm ae;replace Hb:=aB Hb ae;clear ae;by_cases hg0:G<0
              . obtain rfl:=E2.out hg0;go_wp2_with fail;refine(sP _ (fV.out.below Hb.out)).mono ?_;rintro e w8 ⟨rfl,ae⟩;clear g0 g1 g2 m0 m1 m2;obtain⟨Hg,g0,g1,g2⟩:=aQ Hg ae;obtain⟨Hm,m0,m1,m2⟩:=aQ Hm ae;replace Hb:=aB Hb ae;clear ae;go_wp2;refine bodyPost_ret (results_tmp rfl _ _ _) rfl ⟨rfl,Hb.out⟩
              . skip
                go_wp2_with fail;refine(pP.out _).mono ?_;rintro e w8 ⟨rfl,ae⟩;clear g0 g1 g2 m0 m1 m2;obtain⟨Hg,g0,g1,g2⟩:=aQ Hg ae;obtain⟨Hm,m0,m1,m2⟩:=aQ Hm ae;replace Hb:=aB Hb ae;clear ae;by_cases hm0:M<=0
                . obtain rfl:=E3.out hm0;go_wp2_with fail;refine(sP _ (fV.out.below Hb.out)).mono ?_;rintro e w9 ⟨rfl,ae⟩;clear g0 g1 g2 m0 m1 m2;obtain⟨Hg,g0,g1,g2⟩:=aQ Hg ae;obtain⟨Hm,m0,m1,m2⟩:=aQ Hm ae;replace Hb:=aB Hb ae;clear ae;go_wp2;refine bodyPost_ret (results_tmp rfl _ _ _) rfl ⟨rfl,Hb.out⟩
                . skip
                  obtain rfl:=E4.out zo zo zo;go_wp2_with fail;refine(sP _ (fV.out.below Hb.out)).mono ?_;rintro e w9 ⟨rfl,ae⟩;clear g0 g1 g2 m0 m1 m2;obtain⟨Hg,g0,g1,g2⟩:=aQ Hg ae;obtain⟨Hm,m0,m1,m2⟩:=aQ Hm ae;replace Hb:=aB Hb ae;clear ae;go_wp2;refine bodyPost_ret (results_tmp rfl _ _ _) rfl ⟨rfl,Hb.out⟩
end Go.Proofs.YtoopepmmepmfnaaGreatDoor
