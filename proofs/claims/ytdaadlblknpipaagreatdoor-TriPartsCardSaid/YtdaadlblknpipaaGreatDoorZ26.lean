/- TriParts: the law's own walk. -/
import Derived.Test.YtdaadlblknpipaaGreatDoorZ25
import Derived.Test.YtdaadlblknpipaaGreatDoorZ20
set_option linter.unusedVariables false
set_option linter.unusedSimpArgs false
set_option maxRecDepth 100000
set_option maxHeartbeats 16000000
namespace Go.Proofs.YtdaadlblknpipaaGreatDoor
open Go.RowKit
attribute [local go_sem ↓] Go.wp_at_zero Go.wp_at_succ
theorem ahH {x:Raw}(h:yX x):ja 192 x:=⟨⟨by have:=h.1;omega,by have:=h.2.1;omega,by have:=h.2.2;omega⟩,(Nb h).2⟩
theorem ah4 (n:Nat)(ss:List Bool)(rows:List (List Raw)):∀r∈ir n ss (rows.map df),∀c∈r,∃D,c=canon D:=by
 have h0:∀R:List (List Raw),∀r∈R.map df,∀c∈r,∃D,c=canon D:=λR r hr c hc=>by obtain⟨x,_,rfl⟩:=List.mem_map.1 hr;obtain⟨y,_,rfl⟩:=List.mem_map.1 hc;exact⟨_,rfl⟩
 have key:∀(ss:List Bool) (R:List (List Raw)),(∀r∈R,∀c∈r,∃D,c=canon D)->∀r∈ir n ss R,∀c∈r,∃D,c=canon D:=by
  intro ss;induction ss with
  |nil=>intro R h;exact h
  |cons s ss ih=>intro R h;exact ih (pC n s R) (h0 _)
 exact key ss _ (h0 rows)
theorem rP.out {w w':World}{n:Nat}{rows:List (List Raw)}{ss:List Int}{e:Ending}(h:rP w n rows ss e w'):∃a' l' c' x,e=.returned (.tuple #[.slice a' l' c',.int .i64 x])/\(rc ss->l'=n+1/\x=0/\aX w' a' (ir n (ss.map gL) (rows.map df)))/\(¬rc ss->l'=0/\x=1)/\Bw w w':=by
 obtain⟨h1,h2,h3⟩:=h;by_cases hs:rc ss
 . obtain⟨a',c',h4,_,h5⟩:=h1 hs;exact⟨a',n+1,c',0,h4,λ_=>⟨rfl,rfl,h5⟩,λh=>absurd hs h,h3⟩
 . exact⟨none,0,0,1,h2 hs,λh=>absurd h hs,λ_=>⟨rfl,rfl⟩,h3⟩
theorem ah6 (a:Option Addr)(L cap:Nat)(rows:List (List Raw))(sa:Option Addr)(m sc:Nat)(w:World)(hL:rows.length=L)(hl:L<=1099511627776)(ha:aX w a rows)(hv:fM rows=0):
 Calls Tryz.prog 32 #[.slice a L cap,.slice sa m sc] w λe w'=>e=.returned (.tuple #[.slice none 0 0,.int .i64 1])/\Bw w w':=by
 have hvv:=λW (hW:Bw w W)=>zJ a L cap rows W hL hl (ha.below hW);rw[hv]at hvv;have Hv:=ah hvv;clear hvv hv ha hL;have Hb:Hid (Bw w w):=Below.refl _ _;go_enter Tryz.func32,Tryz.ntmps32;go_wp2_with fail;refine(Hv.out _ Hb.out).mono ?_;rintro e w1 ⟨rfl,ae⟩;replace Hb:=az Hb ae;clear ae;go_wp2;exact bodyPost_ret (v:=.tuple #[.slice none 0 0,.int .i64 1]) (by simp[results,Tryz.results32,go_sem]) rfl ⟨rfl,Hb.out⟩
theorem ah7 (a:Option Addr)(L cap:Nat)(rows:List (List Raw))(ia:Option Addr)(im ic:Nat)(is:List Int)(w:World)(hL:rows.length=L)(hsl:Sl a L cap)(ha:pX w a rows)(FE:At w ia (uN is))(him:is.length=im)(hT:aF w):
 Calls Tryz.prog 6 #[.slice a L cap,.slice ia im ic] w λe w'=>e=.returned (.bool true)/\Bw w w':=by
 have hvs:=λW (hW:Bw w W)=>akp a L cap rows none 0 0 [] W hL rfl (ha.below hW) (.inl rfl) Sl.nil;obtain⟨Hvs,Ha,fX,HL,xV,PH,xN⟩:=na hvs ha.tbl hT hL hsl FE him;clear hvs ha hT hL hsl FE him;have Hb:Hid (Bw w w):=Below.refl _ _;go_enter Tryz.func6,Tryz.ntmps6;go_wp2_with fail;refine(Hvs.out _ Hb.out).mono ?_;rintro e w1 ⟨⟨v,rfl,hv⟩,ae⟩;replace Hb:=ah (aK Hb.out ae);clear ae;cases v with
 |true=>clear hv;go_wp2_with fail;refine(Bb _ (fX.out.below Hb.out)).mono ?_;rintro e w2 ⟨rfl,ae⟩;replace Hb:=az Hb ae;clear ae;go_wp2;refine bodyPost_ret (results_tmp rfl _ _ _) rfl ⟨rfl,Hb.out⟩
 | false=>
   by_cases h12:12<im
   . have ael:(12:Int)<(im:Int):=by omega
     clear hv;go_wp2_with fail;refine(Bb _ (fX.out.below Hb.out)).mono ?_;rintro e w2 ⟨rfl,ae⟩;replace Hb:=az Hb ae;clear ae;go_wp2;refine bodyPost_ret (results_tmp rfl _ _ _) rfl ⟨rfl,Hb.out⟩
   . have ael:¬(12:Int)<(im:Int):=by omega
     have od:=hv rfl;obtain⟨hf,_⟩:=od.fit;have fS:∀r∈rows,∀c∈r,ja 192 c:=λr hr c hc=>ahH (od.2.2.2.1 r hr c hc);have h5:L<=5:=by have:=od.1;rw[HL.out]at this;exact this
     by_cases h0:fM rows=0
     . have lD:=λW (hW:Bw w W)=>ah6 a L cap rows ia im ic W HL.out zo (Ha.out.below hW) h0;have qH:=λW (hW:Bw w W)=>WU a L cap rows 0 W HL.out zo (Ha.out.below hW) h0;obtain⟨kq,AR⟩:=aM lD qH;clear lD qH hv od hf fS h0;go_wp2_with fail;refine(kq.out _ Hb.out).mono ?_;rintro e w2 ⟨rfl,ae⟩;replace Hb:=az Hb ae;clear ae;go_wp2_with fail;refine(AR.out _ Hb.out).mono ?_;rintro e w3 ⟨rfl,ae⟩;replace Hb:=az Hb ae;clear ae;go_wp2_with fail;refine(Bb _ (fX.out.below Hb.out)).mono ?_;rintro e w4 ⟨rfl,ae⟩;replace Hb:=az Hb ae;clear ae;go_wp2;refine bodyPost_ret (results_tmp rfl _ _ _) rfl ⟨rfl,Hb.out⟩
     . obtain⟨m,hm,hr⟩:=ako (by rw[HL.out];exact h5) hf h0;obtain⟨n,hn⟩:=aC (m+1);have dA:1<=n:=by omega
       rw[hn]at hm hr;have hLn:L=n+1:=by have:=hr.1;rw[HL.out]at this;exact this
       subst hLn;have ul:=Od hr dA zo;have Uv:=λW (hW:Bw w W)=>ah5 a cap n 192 rows ia im ic is W dA zo hr (Ha.out.below hW) (PH.out.below hW) xN.out zo zd (fX.out.below hW);have qH:=λW (hW:Bw w W)=>WU a (n+1) cap rows n W HL.out zo (Ha.out.below hW) ul;have hwn:=λW (hW:Bw w W)=>ajr a (n+1) cap rows W HL.out zo (λr h=>by rw[hr.2.1 r h];omega) (Ha.out.below hW) (λr h c hc=>(fS r h c hc).1);have hrf:Rw n 192 (rows.map df):=RG hr zd;have wH:=λk (hk:k<=12)=>Gs dA ((is.take k).map gL) hrf (by rw[List.length_map,List.length_take];omega)
       have hq:=λk (hk:k<=12) r h c hc=>(show ja 300 c by
        obtain⟨D,rfl⟩:=ah4 n ((is.take k).map gL) rows r h c hc;have h1:=((wH k hk).2.2 r h _ hc).2;rw[bP]at h1
        exact ja.canon (h1.mono (by rw[List.length_map,List.length_take];omega)) zd)
       have mR:=λk (hk:k<=12) (x:Int) W a1 c1 (h1:aX W a1 (ir n ((is.take k).map gL) (rows.map df)))=>aiT a1 c1 n 300 (ir n ((is.take k).map gL) (rows.map df)) (gL x) W dA zo (wH k hk).1 (wH k hk).2.1 h1 (hq k hk) zd;have hst:∀k (h:k<is.length),ir n ((is.take (k+1)).map gL) (rows.map df)=pC n (gL is[k]) (ir n ((is.take k).map gL) (rows.map df)):=λk h=>by rw[List.take_succ_eq_append_getElem h,List.map_append,List.map_cons,List.map_nil,Ws]
       have hsame:=λW a1 c1 a2 c2 (h1:aX W a1 (ir n (is.map gL) (rows.map df))) (h2:aX W a2 (ir n (is.map gL) (rows.map df)))=>WZ _ a1 a2 (n+1) c1 c2 W (Gs dA (is.map gL) hrf (by rw[List.length_map,xN.out];omega)).1 zo (λr h=>by rw[(Gs dA (is.map gL) hrf (by rw[List.length_map,xN.out];omega)).2.1 r h];omega) h1 h2;obtain⟨R,hR⟩:∃R:Nat->List (List Raw),(λk=>ir n ((is.take k).map gL) (rows.map df))=R:=⟨_,rfl⟩;have Fh:∀k,ir n ((is.take k).map gL) (rows.map df)=R k:=λk=>congrFun hR k;have hRe:ir n (is.map gL) (rows.map df)=R im:=by rw[<-Fh,List.take_of_length_le (by rw[xN.out];exact Nat.le_refl _)]
       have SA:rows.map df=R 0:=by rw[<-Fh];rfl
       simp only[Fh]at mR hst;rw[hRe]at hsame;rw[SA]at hwn;have hn0:((n:Int)==0)=false:=by simp;omega
       have afj:¬(n:Int)=0:=by omega
       obtain⟨ZX,AR,Eg,Zg,bS,aao,Yp⟩:=na Uv qH hwn mR hst hsame hRe;clear Uv qH hwn mR hst hsame hRe hR Fh SA wH hq hrf ul hv od hf fS h0 hr hn;go_wp2_with fail;refine(ZX.out _ Hb.out).mono ?_;intro e w2 gH;obtain⟨a5,l5,c5,x6,rfl,Mf,Uc,ae⟩:=gH.out;rw[Yp.out]at Mf;replace Hb:=ah (aK Hb.out ae);obtain⟨ZP,ZK⟩:=aM Mf Uc;have bV:=Hb;clear gH ae Mf Uc;have HK:Hid (iy w2 w2):=Below.refl _ _;go_wp2_with fail;refine(AR.out _ Hb.out).mono ?_;rintro e w3 ⟨rfl,ae⟩;replace HK:=ah (HK.out.below ae);replace Hb:=az Hb ae;clear ae;go_wp2_with fail;refine(Eg.out _ Hb.out).mono ?_;rintro e w4 ⟨a7,c7,rfl,hc7,UI,ae⟩;replace HK:=ah (HK.out.below ae);replace Hb:=az Hb ae;clear ae;have Qh:=ah UI;have fe:Hid (Bw w2 w4):=HK.out;clear UI hn0 afj;go_wp2_with fail;go_loopw[7,8] (λs7 x wr=>∃(k:Nat) (ak:Option Addr) (ck:Nat),k<=im/\s7=.slice ak (n+1) ck/\x=.int .i64 (k:Int)/\(∀j (h:j<is.length),j<k->is[j]=0\/is[j]=1)/\aX wr ak (R k)/\Bw w2 wr) (λ_ x _=>im-(intOf x).toNat);case atStart=>exact⟨0,a7,c7,Nat.zero_le _,rfl,rfl,λj _ h=>absurd h (Nat.not_lt_zero _),Qh.out,fe.out⟩
       case round=>
        clear Qh Hb fe;obtain⟨k,ak,ck,hk,rfl,rfl,hok,ht,pb⟩:=hrel;obtain⟨tC,Ht,aR,Hb⟩:=dO hok ht pb (aK bV.out pb);clear hok ht pb;by_cases hlt:k<im
        . have hks:k<is.length:=by rw[xN.out];exact hlt
          obtain⟨x,hx⟩:=aC (is[k]);obtain⟨b,o,rfl,hcs⟩:=(PH.out.below Hb.out).get (by intro h0;have:=congrArg List.length h0;simp[uN]at this;rw[this]at hks;simp at hks);have hc0:wr.cell? ⟨b,o+k,none⟩=some (.int .i64 x):=by rw[hcs k (by simp[uN];exact hks)];simp[uN,hks,hx]
          have bA:=Ve im ic k (k:Int) (rfl:(some ⟨b,o,none⟩:Option Addr)=_) hlt rfl;rw[Nat.mul_one]at bA;have hst:=bS.out k hks;rw[hx]at hst;obtain⟨JA,Hx⟩:=aM hst hx;have mR:=Zg.out k zo x wr ak ck Ht.out;rw[<-hst]at mR;have vt:=ah mR;clear hst hx mR hcs;have Cn:x=0\/x=1->∀j (h:j<is.length),j<k+1->is[j]=0\/is[j]=1:=λh j hj hjk=>by
           by_cases hjk2:j=k
           . subst hjk2;rw[Hx.out];exact h
           . exact tC.out j hj zo
          have Ay:=ah Cn;clear Cn;by_cases h0:x=0
          . have mR:=vt.out;subst h0;replace vt:=ah mR;clear mR;go_wp2_with fail;refine vt.out.mono ?_;rintro e w5 ⟨a8,c8,rfl,hc8,CB,ae⟩;obtain⟨JE,fY⟩:=aM CB (aK aR.out ae);clear CB ae hc0 bA;go_wp2;go_roundw;case rel=>exact⟨k+1,a8,c8,by omega,rfl,by go_num,Ay.out zm,JE.out,fY.out⟩
            case measure=>simp[intOf];omega
          . by_cases h1:x=1
            . have mR:=vt.out;subst h1;replace vt:=ah mR;clear mR;go_wp2_with fail;refine vt.out.mono ?_;rintro e w5 ⟨a8,c8,rfl,hc8,CB,ae⟩;obtain⟨JE,fY⟩:=aM CB (aK aR.out ae);clear CB ae hc0 bA;go_wp2;go_roundw;case rel=>exact⟨k+1,a8,c8,by omega,rfl,by go_num,Ay.out zm,JE.out,fY.out⟩
              case measure=>simp[intOf];omega
            . obtain ⟨rfl,rfl⟩:=ZK.out (fun h=>by
               have:=h x (by rw[<-Hx.out];exact List.getElem_mem hks);rcases this with h|h
               . exact h0 h
               . exact h1 h)
              have e0:(x !=0)=true:=by simpa using h0
              have e1:(x !=1)=true:=by simpa using h1
              clear vt;go_wp2_with fail;refine(Bb _ (fX.out.below Hb.out)).mono ?_;rintro e w5 ⟨rfl,ae⟩;replace Hb:=az Hb ae;clear ae;go_wp2;refine bodyPost_ret (results_tmp rfl _ _ _) rfl ⟨rfl,Hb.out⟩
        . obtain rfl:k=im:=by omega
          obtain⟨rfl,rfl,Cz⟩:=ZP.out (λy hy=>by
           obtain⟨j,hj,rfl⟩:=List.mem_iff_getElem.1 hy
           exact tC.out j hj (by rw[<-xN.out];exact hj))
          have JD:=ah Cz;clear Cz;go_wp2_with fail;refine(aao.out _ a5 c5 ak ck (JD.out.below aR.out) Ht.out).mono ?_;rintro e w5 ⟨rfl,ae⟩;replace Hb:=az Hb ae;clear ae;go_wp2_with fail;refine(Bb _ (fX.out.below Hb.out)).mono ?_;rintro e w6 ⟨rfl,ae⟩;replace Hb:=az Hb ae;clear ae;go_wp2;refine bodyPost_ret (results_tmp rfl _ _ _) rfl ⟨rfl,Hb.out⟩
end Go.Proofs.YtdaadlblknpipaaGreatDoor
