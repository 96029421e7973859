/- Package simp: To,where it answers an error. -/
import Derived.Test.YtnjfebkelecgaaaGreatDoorZ18
import Derived.Test.YtnjfebkelecgaaaGreatDoorZ12
import Derived.Test.YtnjfebkelecgaaaGreatDoorZ19
import Derived.Test.YtnjfebkelecgaaaGreatDoorZ25
import Derived.Test.YtnjfebkelecgaaaGreatDoorZ16
import Derived.Test.YtnjfebkelecgaaaGreatDoorZ17
set_option linter.all false
set_option maxRecDepth 100000
set_option maxHeartbeats 16000000
namespace Go.Proofs.YtnjfebkelecgaaaGreatDoor
open Go.RowKit
attribute [local go_sem ↓] Go.wp_at_zero Go.wp_at_succ
def XI {V:Int}{ts:List aQ}(h:mJ V ts=0):0<=V/\V<=12/\ts.length<=4096/\∀t∈ts,(t.1.length:Int)=V/\∀c∈t.1,c.toNat<=127:=by
 unfold mJ at h;by_cases h1:0<=V/\V<=12
 . rw[if_neg (λh=>h h1)]at h;by_cases h2:4096<ts.length
   . rw[if_pos h2]at h;cases h
   . rw[if_neg h2]at h;by_cases h3:(List.range ts.length).all (ot V ts)=true
     . refine⟨h1.1,h1.2,by omega,λt ht=>?_⟩;obtain⟨k,hk,rfl⟩:=List.mem_iff_getElem.1 ht;rw[List.all_eq_true]at h3;have h4:=h3 k (List.mem_range.2 hk);have e:ts.getD k default=ts[k]:=by simp[List.getD_eq_getElem?_getD,hk]
       unfold ot zH at h4;rw[e]at h4;simp only[Bool.and_eq_true]at h4;have h5:=h4.1.1.1;unfold eQ at h5;rw[Bool.and_eq_true,List.all_eq_true]at h5;exact⟨of_decide_eq_true h5.2,λc hc=>of_decide_eq_true (h5.1 c hc)⟩
     . rw[if_neg h3]at h;cases h
 . rw[if_pos h1]at h;cases h
def azy (rows:List (List Raw)):jE rows=0\/jE rows=1\/jE rows=5:=by
 unfold jE;split
 . exact .inr (.inl rfl)
 . split
   . exact .inr (.inr rfl)
   . exact .inl rfl
noncomputable def rF (PV:Int) (ts:List aQ) (rows:List (List Raw)) (d:Int):Int:=
 if jE rows=1\/mJ PV ts≠0\/PV≠(rows.length:Int)-1\/d<(oV ts:Int)then 1 else jE rows
def azL (PV:Int)(aP:Option Addr)(nT fX:Nat)(ts:List aQ)(a:Option Addr)(L cap:Nat)(rows:List (List Raw))(B:Nat)(d:Int)(w:World)(im:ts.length=nT)(hn:nT<=1048576)(rh:At w aP (ts.flatMap aY))(hts:∀t∈ts,t.1.length<=9223372036854775807/\Ok t.2)
 (hL:rows.length=L) (hL4:L<=4) (hcap:L<=cap) (ha:cZ w a rows) (hfit:∀r∈rows,∀c∈r,Fit B c) (hB:B<=900000) (hT:aM w) (hd:d<=5) (c:Int) (hc:rF PV ts rows d=c) (hc0:c≠0):
 Cv 11 #[.agg #[ah PV,.slice aP nT fX],.slice a L cap,ah d] w (.tuple #[.agg #[ah 0,ah 0,.slice none 0 0],ah c]):=by
 have Cu:=λW=>λ(h:cZ W a rows) (hT:aM W)=>Yy a L cap rows B W hL zo hcap h hfit hB hT;have hpc:=λW=>λ(h:At W aP (ts.flatMap aY)) (hT:aM W)=>Kn PV aP fX nT ts W im hn h hts hT
 have uM:=λ(h0:mJ PV ts=0) W=>λ(h:At W aP (ts.flatMap aY))=>ai0 PV aP fX nT ts W im hn h (λt ht=>by
  obtain⟨q1,q2,q3,q4⟩:=XI h0;obtain⟨q5,q6⟩:=q4 t ht
  exact⟨by omega,q6⟩)
 obtain⟨tc,EN⟩:=aK (jE rows);obtain⟨pc,VV⟩:=aK (mJ PV ts);obtain⟨tt,EO⟩:∃tt:Int,(oV ts:Int)=tt:=⟨_,rfl⟩;have hcs:=azy rows;unfold rF at hc;rw[EN,VV,EO,hL]at hc;rw[EN]at Cu hcs;rw[VV]at hpc uM;rw[EO]at uM;obtain⟨Bd,vB,yS,wM,Ha,HT⟩:=iq Cu hpc uM rh ha hT;clear Cu hpc uM rh ha hT EN VV EO hfit hts im hL;have Wv:IntKind.i64.wrap ((L:Int)-1)=(L:Int)-1:=by rw[IntKind.wrap_i64];omega
 obtain⟨L1,ou⟩:∃L1:Int,(L:Int)-1=L1:=⟨_,rfl⟩;rw[ou]at hc;have aDg:IntKind.i64.wrap ((L:Int)-1)=L1:=by rw[Wv,ou]
 clear Wv ou;obtain⟨W,dK,Hb,Hp,Hr⟩:=mG w 24 [ah PV,.slice aP nT fX] 34 [ah 0,ah 0,.slice none 0 0];obtain⟨p0,p1⟩:=Hp.out.c2;obtain⟨r0,aH,r1,aI,r2,aX⟩:=Hr.out.g3;have fc:Hid (At W aP (ts.flatMap aY)):=wM.out.below Hb.out;have cz:Hid (cZ W a rows):=Ha.out.below Hb.out;have bW:Hid (aM W):=HT.out.below Hb.out;by_cases h1:tc=1
 . rw[if_pos (.inl h1)]at hc;subst hc h1;go_enter Tryz.func11,Tryz.ntmps11;go_wp2_with fail;refine(Bd.out _ cz.out bW.out).mono ?_;rintro e w1 ⟨rfl,ag⟩;obtain⟨Hp,p0,p1⟩:=bi Hp ag;obtain⟨Hr,r0,aH,r1,aI,r2,aX⟩:=bg Hr ag;replace fc:=kA fc ag;replace cz:=kL cz ag;replace bW:=kT bW ag;replace Hb:=az Hb ag;go_wp2;refine fP (bY w1 (w.heap.size+1) 0 [ah 0,ah 0,.slice none 0 0]) cC ?_;intro w9 hs;replace Hp:=kS Hp hs zo;replace Hr:=dt Hr hs;obtain⟨p0,p1⟩:=Hp.out.c2;obtain⟨r0,aH,r1,aI,r2,aX⟩:=Hr.out.g3;replace Hb:=bS Hb hs ZS;clear hs;refine bodyPost_ret (v:=.tuple #[.agg #[ah 0,ah 0,.slice none 0 0],ah 1]) (by simp[results,Tryz.results11,go_sem,r0,r1,r2]) rfl ⟨rfl,Hb.out⟩
 . have h1b:(tc==1)=false:=by simpa using h1
   by_cases h2:pc=0
   . by_cases h3:PV=L1
     . by_cases h4:d<tt
       . rw[if_pos (.inr (.inr (.inr h4)))]at hc;subst hc;have JK:=yS.out h2;have Sv:=ar JK;clear JK yS;subst h2 h3;go_enter Tryz.func11,Tryz.ntmps11;go_wp2_with fail;refine(Bd.out _ cz.out bW.out).mono ?_;rintro e w1 ⟨rfl,ag⟩;obtain⟨Hp,p0,p1⟩:=bi Hp ag;obtain⟨Hr,r0,aH,r1,aI,r2,aX⟩:=bg Hr ag;replace fc:=kA fc ag;replace cz:=kL cz ag;replace bW:=kT bW ag;replace Hb:=az Hb ag;go_wp2_with fail;refine(vB.out _ fc.out bW.out).mono ?_;rintro e w2 ⟨rfl,ag⟩;obtain⟨Hp,p0,p1⟩:=bi Hp ag;obtain⟨Hr,r0,aH,r1,aI,r2,aX⟩:=bg Hr ag;replace fc:=kA fc ag;replace cz:=kL cz ag;replace bW:=kT bW ag;replace Hb:=az Hb ag;go_wp2_with fail;refine(Sv.out _ fc.out).mono ?_;rintro e w3 ⟨rfl,ag⟩;obtain⟨Hp,p0,p1⟩:=bi Hp ag;obtain⟨Hr,r0,aH,r1,aI,r2,aX⟩:=bg Hr ag;replace fc:=kA fc ag;replace cz:=kL cz ag;replace bW:=kT bW ag;replace Hb:=az Hb ag;go_wp2;refine fP (bY w3 (w.heap.size+1) 0 [ah 0,ah 0,.slice none 0 0]) cC ?_;intro w9 hs;replace Hp:=kS Hp hs zo;replace Hr:=dt Hr hs;obtain⟨p0,p1⟩:=Hp.out.c2;obtain⟨r0,aH,r1,aI,r2,aX⟩:=Hr.out.g3;replace Hb:=bS Hb hs ZS;clear hs;refine bodyPost_ret (v:=.tuple #[.agg #[ah 0,ah 0,.slice none 0 0],ah 1]) (by simp[results,Tryz.results11,go_sem,r0,r1,r2]) rfl ⟨rfl,Hb.out⟩
       . have hc5:tc=5:=by rw[if_neg (by rintro(h|h|h|h);exact h1 h;exact h h2;exact h h3;exact h4 h)]at hc;omega
         have hcc:c=5:=by rw[if_neg (by rintro(h|h|h|h);exact h1 h;exact h h2;exact h h3;exact h4 h)]at hc;omega
         have asS:¬20<d:=by omega
         clear hc hcs;have JK:=yS.out h2;have Sv:=ar JK;clear JK yS;subst hc5 hcc h2 h3;go_enter Tryz.func11,Tryz.ntmps11;go_wp2_with fail;refine(Bd.out _ cz.out bW.out).mono ?_;rintro e w1 ⟨rfl,ag⟩;obtain⟨Hp,p0,p1⟩:=bi Hp ag;obtain⟨Hr,r0,aH,r1,aI,r2,aX⟩:=bg Hr ag;replace fc:=kA fc ag;replace cz:=kL cz ag;replace bW:=kT bW ag;replace Hb:=az Hb ag;go_wp2_with fail;refine(vB.out _ fc.out bW.out).mono ?_;rintro e w2 ⟨rfl,ag⟩;obtain⟨Hp,p0,p1⟩:=bi Hp ag;obtain⟨Hr,r0,aH,r1,aI,r2,aX⟩:=bg Hr ag;replace fc:=kA fc ag;replace cz:=kL cz ag;replace bW:=kT bW ag;replace Hb:=az Hb ag;go_wp2_with fail;refine(Sv.out _ fc.out).mono ?_;rintro e w3 ⟨rfl,ag⟩;obtain⟨Hp,p0,p1⟩:=bi Hp ag;obtain⟨Hr,r0,aH,r1,aI,r2,aX⟩:=bg Hr ag;replace fc:=kA fc ag;replace cz:=kL cz ag;replace bW:=kT bW ag;replace Hb:=az Hb ag;go_wp2;refine fP (bY w3 (w.heap.size+1) 0 [ah 0,ah 0,.slice none 0 0]) cC ?_;intro w9 hs;replace Hp:=kS Hp hs zo;replace Hr:=dt Hr hs;obtain⟨p0,p1⟩:=Hp.out.c2;obtain⟨r0,aH,r1,aI,r2,aX⟩:=Hr.out.g3;replace Hb:=bS Hb hs ZS;clear hs;refine bodyPost_ret (v:=.tuple #[.agg #[ah 0,ah 0,.slice none 0 0],ah 5]) (by simp[results,Tryz.results11,go_sem,r0,r1,r2]) rfl ⟨rfl,Hb.out⟩
     . rw[if_pos (.inr (.inr (.inl h3)))]at hc;have h3b:(PV==L1)=false:=by simpa using h3
       subst hc h2;go_enter Tryz.func11,Tryz.ntmps11;go_wp2_with fail;refine(Bd.out _ cz.out bW.out).mono ?_;rintro e w1 ⟨rfl,ag⟩;obtain⟨Hp,p0,p1⟩:=bi Hp ag;obtain⟨Hr,r0,aH,r1,aI,r2,aX⟩:=bg Hr ag;replace fc:=kA fc ag;replace cz:=kL cz ag;replace bW:=kT bW ag;replace Hb:=az Hb ag;go_wp2_with fail;refine(vB.out _ fc.out bW.out).mono ?_;rintro e w2 ⟨rfl,ag⟩;obtain⟨Hp,p0,p1⟩:=bi Hp ag;obtain⟨Hr,r0,aH,r1,aI,r2,aX⟩:=bg Hr ag;replace fc:=kA fc ag;replace cz:=kL cz ag;replace bW:=kT bW ag;replace Hb:=az Hb ag;go_wp2;refine fP (bY w2 (w.heap.size+1) 0 [ah 0,ah 0,.slice none 0 0]) cC ?_;intro w9 hs;replace Hp:=kS Hp hs zo;replace Hr:=dt Hr hs;obtain⟨p0,p1⟩:=Hp.out.c2;obtain⟨r0,aH,r1,aI,r2,aX⟩:=Hr.out.g3;replace Hb:=bS Hb hs ZS;clear hs;refine bodyPost_ret (v:=.tuple #[.agg #[ah 0,ah 0,.slice none 0 0],ah 1]) (by simp[results,Tryz.results11,go_sem,r0,r1,r2]) rfl ⟨rfl,Hb.out⟩
   . rw[if_pos (.inr (.inl h2))]at hc;have h2b:(pc==0)=false:=by simpa using h2
     subst hc;go_enter Tryz.func11,Tryz.ntmps11;go_wp2_with fail;refine(Bd.out _ cz.out bW.out).mono ?_;rintro e w1 ⟨rfl,ag⟩;obtain⟨Hp,p0,p1⟩:=bi Hp ag;obtain⟨Hr,r0,aH,r1,aI,r2,aX⟩:=bg Hr ag;replace fc:=kA fc ag;replace cz:=kL cz ag;replace bW:=kT bW ag;replace Hb:=az Hb ag;go_wp2_with fail;refine(vB.out _ fc.out bW.out).mono ?_;rintro e w2 ⟨rfl,ag⟩;obtain⟨Hp,p0,p1⟩:=bi Hp ag;obtain⟨Hr,r0,aH,r1,aI,r2,aX⟩:=bg Hr ag;replace fc:=kA fc ag;replace cz:=kL cz ag;replace bW:=kT bW ag;replace Hb:=az Hb ag;go_wp2;refine fP (bY w2 (w.heap.size+1) 0 [ah 0,ah 0,.slice none 0 0]) cC ?_;intro w9 hs;replace Hp:=kS Hp hs zo;replace Hr:=dt Hr hs;obtain⟨p0,p1⟩:=Hp.out.c2;obtain⟨r0,aH,r1,aI,r2,aX⟩:=Hr.out.g3;replace Hb:=bS Hb hs ZS;clear hs;refine bodyPost_ret (v:=.tuple #[.agg #[ah 0,ah 0,.slice none 0 0],ah 1]) (by simp[results,Tryz.results11,go_sem,r0,r1,r2]) rfl ⟨rfl,Hb.out⟩
def qA (xs ys:List Dyadic)(i:Nat):List Dyadic:=(List.zipWith (·+·) xs ys).take i++xs.drop i
def aA0 (xs ys:List Dyadic):qA xs ys 0=xs:=by simp[qA]
def aAW (xs ys:List Dyadic)(N:Nat)(hx:xs.length=N)(hy:ys.length=N):qA xs ys N=List.zipWith (·+·) xs ys:=by unfold qA;rw[List.drop_eq_nil_of_le zo,List.append_nil,List.take_of_length_le (by rw[List.length_zipWith];omega)]
def aAY (xs ys:List Dyadic)(N i:Nat)(hx:xs.length=N)(hy:ys.length=N)(hi:i<=N):(qA xs ys i).length=N:=by unfold qA;rw[List.length_append,List.length_take,List.length_zipWith,List.length_drop];omega
def aAX (xs ys:List Dyadic)(N i:Nat)(hx:xs.length=N)(hy:ys.length=N)(hi:i<N):(qA xs ys i)[i]?=some (xs.getD i 0)/\qA xs ys (i+1)=(qA xs ys i).set i (xs.getD i 0+ys.getD i 0):=by
 have h1:xs.getD i 0=xs[i]'zo:=by simp[List.getD_eq_getElem?_getD,show i<xs.length by omega]
 have h2:ys.getD i 0=ys[i]'zo:=by simp[List.getD_eq_getElem?_getD,show i<ys.length by omega]
 have hl:((List.zipWith (·+·) xs ys).take i).length=i:=by rw[List.length_take,List.length_zipWith];omega
 have e2:(List.zipWith (·+·) xs ys).take (i+1)=(List.zipWith (·+·) xs ys).take i++[xs.getD i 0+ys.getD i 0]:=by rw[List.take_succ_eq_append_getElem (by rw[List.length_zipWith];omega),List.getElem_zipWith,h1,h2]
 have e3:xs.drop i=xs.getD i 0::xs.drop (i+1):=by rw[List.drop_eq_getElem_cons zo,h1]
 unfold qA;constructor
 . rw[e3,List.getElem?_append_right zo,hl];simp
 . rw[e2,e3,List.set_append_right _ _ zo,hl];simp
def aAZ {C i:Nat}{xs ys:List Dyadic}(h:∀x∈xs,Sm C x)(h':∀x∈ys,Sm C x):∀x∈qA xs ys i,Sm (C+1) x:=by
 intro x hx;unfold qA at hx;rw[List.mem_append]at hx;rcases hx with hx|hx
 . exact ajN h h' x (List.mem_of_mem_take hx)
 . exact(h x (List.mem_of_mem_drop hx)).mono zo
def jp (ts:List aQ):List (Dyadic×List Nat):=ts.map λt=>(aJ t.2,t.1.map UInt8.toNat)
def ac9 (V D:Nat)(S:List (List Dyadic))(ts:List aQ)(k:Nat)(hk:k<ts.length):
 fQ V D S (jp (ts.take (k+1)))=List.zipWith (·+·) (fQ V D S (jp (ts.take k))) (kJ V D S (aJ ts[k].2) (ts[k].1.map UInt8.toNat)):=by
 unfold fQ jp;rw[List.take_succ_eq_append_getElem hk,List.map_append,List.foldl_append];rfl
def aqx (l:List UInt8):jP l=(l.map UInt8.toNat).sum:=rfl
def acB (ts:List aQ):∀t∈ts,jP t.1<=oV ts:=by
 unfold oV;have key:∀(ts:List aQ) (n:Nat),n<=ts.foldl (λn t=>max n (jP t.1)) n/\∀t∈ts,jP t.1<=ts.foldl (λn t=>max n (jP t.1)) n:=by
  intro ts;induction ts with
  |nil=>intro n;exact⟨Nat.le_refl _,λt h=>by cases h⟩
  | cons x ts ih=>
    intro n;obtain⟨h1,h2⟩:=ih (max n (jP x.1));rw[List.foldl_cons];refine⟨by omega,λt ht=>?_⟩;rcases List.mem_cons.1 ht with rfl|ht
    . omega
    . exact h2 t ht
 exact(key ts 0).2
def ac8 (V D B N:Nat)(S:List (List Dyadic))(ts:List aQ)(hN:cnt V D=N)(hV2:V<=8)(hD:D<=20)(uD:∀d,d<=D->cnt V d<=512)(hS:∀r∈S,∀d∈r,Sm B d)(bX:1<=B)(ht:∀t∈ts,Sm B (aJ t.2)/\(t.1.map UInt8.toNat).sum<=D)(k:Nat)(hk:k<=ts.length):
 (fQ V D S (jp (ts.take k))).length=N/\∀d∈fQ V D S (jp (ts.take k)),Sm (B+20* (B+4608)+k) d:=by
 induction k with
 |zero=>refine⟨by simp[fQ,jp,hN],λd hd=>?_⟩;simp only[fQ,jp,List.take_zero,List.map_nil,List.foldl_nil]at hd;rw[(List.mem_replicate.1 hd).2];exact Sm.zero _
 | succ k ih=>
   obtain⟨h1,h2⟩:=ih zo;have hk2:k<ts.length:=by omega
   obtain⟨h3,h4⟩:=ht _ (List.getElem_mem hk2);rw[ac9 V D S ts k hk2];refine⟨by rw[List.length_zipWith,h1,Ug V D S _ _ h4,hN];exact Nat.min_self _,?_⟩;have h5:=ada (A:=B) (B:=B) (V:=V) (D:=D) h3 hS bX hV2 h4 (λd hd=>uD d zo);have h6:=Nat.mul_le_mul_right (B+4608) hD;have h7:∀d∈kJ V D S (aJ ts[k].2) (ts[k].1.map UInt8.toNat),Sm (B+20* (B+4608)+k) d:=λd hd=>(h5 d hd).mono zo;exact λd hd=>(ajN h2 h7 d hd).mono zo
def aiX (V D:Nat)(PV:Int)(hPV:PV=V)(aP:Option Addr)(nT fX:Nat)(ts:List aQ)(a:Option Addr)(L cap:Nat)(rows:List (List Raw))(B N:Nat)(d:Int)(hd:d=D)(w:World)(im:ts.length=nT)(hn:nT<=4096)(rh:At w aP (ts.flatMap aY))(hts:∀t∈ts,Fit B t.2)
 (hL:rows.length=L) (hL4:L<=4) (hcap:L<=cap) (ha:cZ w a rows) (hfit:∀r∈rows,∀c∈r,Fit B c) (bX:1<=B) (hB:B<=100000) (hT:aM w) (hD:D<=5) (hc:rF PV ts rows d=0) (hN:cnt V D=N):
 Cl 11 #[.agg #[ah PV,.slice aP nT fX],.slice a L cap,ah d] w λe w'=>∃bO,e=.returned (.tuple #[.agg #[ah PV,ah d,.slice (some ⟨bO,0,none⟩) N N],ah 0])/\
  At w' (some ⟨bO,0,none⟩) (dC (fQ V D (rows.map λr=>r.map aJ) (jp ts)))/\Bw w w':=by
 have hc':=hc;unfold rF at hc;by_cases hbad:jE rows=1\/mJ PV ts≠0\/PV≠(rows.length:Int)-1\/d<(oV ts:Int)
 . rw[if_pos hbad]at hc;cases hc
 rw[if_neg hbad]at hc;obtain⟨q1,q2,q3,q4⟩:jE rows≠1/\mJ PV ts=0/\PV=(rows.length:Int)-1/\¬d<(oV ts:Int):=⟨λh=>hbad (.inl h),Classical.byContradiction λh=>hbad (.inr (.inl h)),Classical.byContradiction λh=>hbad (.inr (.inr (.inl h))),λh=>hbad (.inr (.inr (.inr h)))⟩;obtain⟨p1,p2,p3,p4⟩:=XI q2;have ou:L=V+1:=by omega
 have hv0:nW rows≠0:=by intro h;unfold jE at hc;rw[if_pos h]at hc;cases hc
 obtain⟨r1,r2,r3,r4⟩:=Ql rfl hv0;have hV1:1<=V:=by omega
 have hV2:V<=8:=by omega
 have hrow:∀r∈rows,r.length=V:=λr hr=>by have:=r4 r hr;omega
 have uD:∀d,d<=D->cnt V d<=512:=by
  intro e he;have h3:V<=3:=by omega
  have h5:e<=5:=by omega
  have h6:=MQ V e;have h7:(e+1)^V<=6^V:=Nat.pow_le_pow_left zo V;have h8:6^V<=6^3:=Nat.pow_le_pow_right zd h3;omega
 have rB:∀t∈ts,Sm B (aJ t.2)/\(t.1.map UInt8.toNat).sum<=D:=λt ht=>⟨(hts t ht).2,by rw[<-aqx];have:=acB ts t ht;omega⟩;obtain⟨S,hS⟩:=aK (rows.map λr=>r.map aJ);have iL:∀r∈S,∀d∈r,Sm B d:=by intro r hr d hd;rw[<-hS]at hr;obtain⟨x,hx,rfl⟩:=List.mem_map.1 hr;obtain⟨y,hy,rfl⟩:=List.mem_map.1 hd;exact(hfit x hx y hy).2
 have Ad:=ac8 V D B N S ts hN hV2 zo uD iL bX rB;have hft:∀k (hk:k<ts.length),(kJ V D S (aJ ts[k].2) (ts[k].1.map UInt8.toNat)).length=N/\∀d∈kJ V D S (aJ ts[k].2) (ts[k].1.map UInt8.toNat),Sm (B+20* (B+4608)) d:=by intro k hk;obtain⟨h3,h4⟩:=rB _ (List.getElem_mem hk);refine⟨by rw[Ug V D S _ _ h4,hN],λd hd=>?_⟩;have h5:=ada (A:=B) (B:=B) (V:=V) (D:=D) h3 iL bX hV2 h4 (λd hd=>uD d zo) d hd;refine h5.mono ?_;have:=Nat.mul_le_mul_right (B+4608) (show D<=20 by omega);omega
 have Cu:=λW=>λ(h:cZ W a rows) (hT:aM W)=>Yy a L cap rows B W hL zo hcap h hfit zo hT;have hpc:=λW=>λ(h:At W aP (ts.flatMap aY)) (hT:aM W)=>Kn PV aP fX nT ts W im zo h (λt ht=>⟨by have:=(p4 t ht).1;omega,(hts t ht).1⟩) hT;have uM:=λW=>λ(h:At W aP (ts.flatMap aY))=>ai0 PV aP fX nT ts W im zo h (λt ht=>⟨by have:=(p4 t ht).1;omega,(p4 t ht).2⟩);have Ju:=λW=>Pw L D W zo zo zo;rw[show L-1=V by omega,hN]at Ju;have xE:N<=512:=by rw[<-hN];exact uD D (Nat.le_refl _)
 rw[show min N 513=N by omega]at Ju;have xW:=λk (hk:k<ts.length) (l:List UInt8) (s:Bool) (m:List UInt8) (e:Int) (hx:ts[k]=(l,s,m,e)) W=>λ(h:cZ W a rows) (hT:aM W)=>azE V D L l s m e a cap rows B (aJ (s,m,e)) W hV1 hV2 hL ou hrow (by have:=(p4 _ (List.getElem_mem hk)).1;rw[hx]at this;have h9:(l.length:Int)=PV:=this;omega) (by have:=(rB _ (List.getElem_mem hk)).2;rw[hx]at this;exact this) zo uD h hfit (by have:=(hts _ (List.getElem_mem hk)).1;rw[hx]at this;exact this) rfl (by have:=(hts _ (List.getElem_mem hk)).2;rw[hx]at this;exact this) bX hB hT;rw[hS]at xW⊢;rw[hN]at xW;obtain⟨tc,EN⟩:=aK (jE rows);obtain⟨tt,EO⟩:∃tt:Int,(oV ts:Int)=tt:=⟨_,rfl⟩;rw[EN]at hc Cu;rw[EO]at uM q4;rw[q2]at hpc;subst hc;have Wv:IntKind.i64.wrap ((L:Int)-1)=PV:=by rw[IntKind.wrap_i64];omega
 have asS:¬20<d:=by omega
 rw[<-hd]at Ju xW;have hmk:=ahr (N:Int) N rfl zo;have xG:fQ V D S (jp (ts.take 0))=List.replicate N 0:=by rw[<-hN];rfl
 have aCa:¬512<(N:Int):=by omega
 obtain⟨Bd,vB,yS,Hmy,am8,Dy,Dn,mh,QF,wM,Ha,HT⟩:=gg Cu hpc uM Ju xW Ad hft hmk xG rh ha hT;obtain⟨HnT,fO,Hd⟩:=cX im hPV hd;clear Cu hpc uM Ju xW Ad hft hmk xG rh ha hT im hPV hd iL rB uD hrow r1 r2 r3 r4 hv0 p1 p2 p3 p4 q1 q2 q3 hbad hc' EN EO hS hN hfit hts hL ou;obtain⟨W,dK,Hb,Hp,Hr⟩:=mG w 24 [ah PV,.slice aP nT fX] 34 [ah 0,ah 0,.slice none 0 0];obtain⟨p0,p1⟩:=Hp.out.c2;obtain⟨r0,aH,r1,aI,r2,aX⟩:=Hr.out.g3;have fc:Hid (At W aP (ts.flatMap aY)):=wM.out.below Hb.out;have cz:Hid (cZ W a rows):=Ha.out.below Hb.out;have bW:Hid (aM W):=HT.out.below Hb.out;go_enter Tryz.func11,Tryz.ntmps11;go_wp2_with fail;refine(Bd.out _ cz.out bW.out).mono ?_;rintro e w1 ⟨rfl,ag⟩;obtain⟨Hp,p0,p1⟩:=bi Hp ag;obtain⟨Hr,r0,aH,r1,aI,r2,aX⟩:=bg Hr ag;replace fc:=kA fc ag;replace cz:=kL cz ag;replace bW:=kT bW ag;replace Hb:=az Hb ag;go_wp2_with fail;refine(vB.out _ fc.out bW.out).mono ?_;rintro e w2 ⟨rfl,ag⟩;obtain⟨Hp,p0,p1⟩:=bi Hp ag;obtain⟨Hr,r0,aH,r1,aI,r2,aX⟩:=bg Hr ag;replace fc:=kA fc ag;replace cz:=kL cz ag;replace bW:=kT bW ag;replace Hb:=az Hb ag;go_wp2_with fail;refine(yS.out _ fc.out).mono ?_;rintro e w3 ⟨rfl,ag⟩;obtain⟨Hp,p0,p1⟩:=bi Hp ag;obtain⟨Hr,r0,aH,r1,aI,r2,aX⟩:=bg Hr ag;replace fc:=kA fc ag;replace cz:=kL cz ag;replace bW:=kT bW ag;replace Hb:=az Hb ag;go_wp2_with fail;refine(Hmy.out _).mono ?_;rintro e' w4 ⟨rfl,rfl⟩;go_wp2_with fail;refine(Hmy.out _).mono ?_;rintro e' w4 ⟨rfl,rfl⟩;have hmk:=mh.out;obtain⟨w5,xX⟩:∃w5,w5=w4:=⟨_,rfl⟩;subst xX;have lp:=Hp.out.lt;have lr:=Hr.out.lt;have CS:=Hb.out.size;go_wp2_with fail;clear hmk;refine cd (λW5=>au W5 w5.heap.size 48 (dC (List.replicate N 0))/\Bw w5 W5) ⟨au.new _ _ _,zl⟩ ?_;rintro W5 ⟨qB,dL⟩;replace Hp:=kB Hp dL;replace Hr:=kB Hr dL;replace fc:=kA fc dL;replace cz:=kL cz dL;replace bW:=kT bW dL;obtain⟨p0,p1⟩:=Hp.out.c2;obtain⟨r0,aH,r1,aI,r2,aX⟩:=Hr.out.g3;replace Hb:=ar (aO Hb.out dL);have mz:au W5 w5.heap.size 48 (dC (fQ V D S (jp (ts.take 0)))):=by rw[QF.out];exact qB
 have im:¬(0=w5.heap.size):=by have:=HT.out.lt;omega
 obtain⟨tM,E0,E1,E2,E3⟩:=fU mz Hp.out Hr.out Hb.out bW.out;have lb5:=qB.lt;have szW:=Hb.out.size;clear mz qB dL Hp Hr Hb bW cz fc;go_wp2_with fail;go_loopw[63] (λx wr=>∃k:Nat,k<=nT/\x=ah (k:Int)/\au wr w5.heap.size 48 (dC (fQ V D S (jp (ts.take k))))/\Chg (λb=>b=w5.heap.size) W5 wr) (λx _=>nT-(intOf x).toNat);case atStart=>exact⟨0,Nat.zero_le _,rfl,tM.out,Chg.refl _ _⟩
 case round=>
  clear tM;obtain⟨k,hk,rfl,pB,pg⟩:=hrel;have bQ:=E2.out.trans (pg.below (n:=w.heap.size) zo (λb e=>by omega));by_cases hlt:k<nT
  . have hk2:k<ts.length:=by rw[HnT.out];exact hlt
    obtain⟨l,s,m,e,hx⟩:∃l s m e,ts[k]=(l,s,m,e):=⟨_,_,_,_,rfl⟩;obtain⟨b1,o1,hab,cj⟩:=(wM.out.below bQ).term k hk2 hx;have hst:=ac9 V D S ts k hk2;have hp1:=Dy.out k zo;have pM:=Dn.out k hk2;have xW:=λW=>am8.out k hk2 l s m e hx W;rw[hx]at hst pM;obtain⟨F,hF⟩:=aK (kJ V D S (aJ (s,m,e)) (l.map UInt8.toNat));simp only at hst pM;rw[hF]at hst pM xW;obtain⟨X,hX⟩:=aK (fQ V D S (jp (ts.take k)));rw[hX]at hst hp1 pB;have bD:=gJ nT fX k (k:Int) hab hlt rfl;obtain⟨ji,iB,cn,mP,Hf1,Hte,eJ⟩:=mE pB pg hst hp1 pM xW bQ;have jO:Hid (bH wr b1 (o1+k*4) [ai l,aj s,ai m,ah e]):=cj;have JJ:=Ha.out.below bQ;have nz:=pg.tab E3.out im;have gM:=pg.size;clear pB pg hst hp1 pM xW bQ hX hF hx hab cj;have Hb:=hbz wr;obtain⟨tC,tE,tF,tG⟩:=jO.out.w4;have cz:Hid (cZ wr a rows):=JJ;have bW:Hid (aM wr):=nz;have kD:Hid (au wr (w5.heap.size) 48 (dC X)):=ji.out;clear JJ nz ji;have P0:=tC;have P1:=tE;have P2:=tF;have P3:=tG;obtain⟨W6,uz,ag,Ht⟩:=cE wr 67 [ai l,aj s,ai m,ah e];replace jO:=kW jO ag;replace cz:=kL cz ag;replace bW:=kT bW ag;replace kD:=kB kD ag;obtain⟨tC,tE,tF,tG⟩:=jO.out.w4;obtain⟨t0,t1,t2,t3⟩:=Ht.out.c4;replace Hb:=az Hb ag;have De:Hid (w5.heap.size<W6.heap.size):=by have:=Hb.out.size;show _<_;omega
    go_wp2_with fail;refine(Hte.out _ cz.out bW.out).mono ?_;rintro e w7 ⟨a',c',rfl,hat',aeE,ag⟩;replace jO:=kW jO ag;replace cz:=kL cz ag;replace bW:=kT bW ag;replace kD:=kB kD ag;obtain⟨Ht,t0,t1,t2,t3⟩:=dZ Ht ag;obtain⟨tC,tE,tF,tG⟩:=jO.out.w4;replace Hb:=az Hb ag;have QP:=ar hat';have hbF:∀b o,a'=some ⟨b,o,none⟩->b≠w5.heap.size:=λb o e=>by have:=aeE b o e;have:=De.out;omega
    have HbF:=ar hbF;have Hg7:Hid (Chg (λb=>b=w5.heap.size) W5 w7):=iB.out.aFM Hb.out;obtain⟨FI,HU7⟩:=aZ kD.out bW.out;clear hat' aeE hbF kD bW cz Ht Hb t0 t1 t2 t3 tC tE tF tG jO bD;go_wp2_with fail;go_loopw[72] (λx wr=>∃i:Nat,i<=N/\x=ah (i:Int)/\au wr w5.heap.size 48 (dC (qA X F i))/\Chg (λb=>b=w5.heap.size) w7 wr) (λx _=>N-(intOf x).toNat);case atStart=>exact⟨0,Nat.zero_le _,rfl,by rw[aA0];exact FI.out,Chg.refl _ _⟩
    case round=>
     clear FI;obtain⟨i,hi,rfl,pB,pg⟩:=hrel;by_cases bC:i<N
     . obtain⟨hx1,hx2⟩:=mP.out;obtain⟨pM,hf2⟩:=Hf1.out;obtain⟨hz1,hz2⟩:=aAX X F N i hx1 pM bC;have hzl:=aAY X F N i hx1 pM zo;have iF:i<(F.map canon).length:=by rw[List.length_map,pM];exact bC
       obtain⟨y,hy⟩:=aK (F.getD i 0);have hFi:(F.map canon)[i]=(aC (dN y),nt (dN y).natAbs,dE y):=by
        have:F.getD i 0=F[i]'zo:=by simp[List.getD_eq_getElem?_getD,show i<F.length by omega]
        rw[List.getElem_map,<-this,hy];rfl
       have agu:Sm (B+20* (B+4608)) y:=by rw[<-hy];exact rO hf2 i
       obtain⟨zs,hzs⟩:=aK (qA X F i);obtain⟨zs',hzs'⟩:∃zs,qA X F (i+1)=zs:=⟨_,rfl⟩;have agA:∀x∈zs,Sm (B+20* (B+4608)+4096+1) x:=by rw[<-hzs];exact aAZ (λx hx=>(hx2 x hx).mono zo) (λx hx=>(hf2 x hx).mono zo)
       rw[hzs]at hz1 hz2 hzl pB;rw[hzs',hy]at hz2;have ET:i<zs.length:=by omega
       have Jk:zs[i]=X.getD i 0:=by rw[List.getElem?_eq_getElem ET]at hz1;exact Option.some.inj hz1
       obtain⟨D9,zI⟩:=aK (zs[i]+y);rw[<-Jk,zI]at hz2;have mN:Hid (Fit (B+20* (B+4608)+4096+1) (aC (dN y),nt (dN y).natAbs,dE y)):=(agu.mono zo).fit zo;have Hdy:Hid (zs[i]+aJ (aC (dN y),nt (dN y).natAbs,dE y)=D9):=by show zs[i]+aJ (canon y)=D9;rw[cp];exact zI
       have Mk:Hid (Sm (B+20* (B+4608)+4096+1) zs[i]):=agA _ (List.getElem_mem ET);obtain⟨b2,o2,iM,n0,n1,n2⟩:=(show At wr a' ((F.map canon).flatMap bG)by rw[<-oh];exact QP.out.chg pg (λb o e=>HbF.out b o e)).num i iF hFi;have ixF:=WJ N c' i (i:Int) iM bC rfl;have nz:=pg.tab HU7.out im;have gU:Hid (bH wr b2 (o2+i*3) [aj (aC (dN y)),ai (nt (dN y).natAbs),ah (dE y)]):=jH n0 n1 n2;obtain⟨ji,iB,SQ,di,anB,Hzs⟩:=iq pB pg hzl hz2 hzs' hzs;clear pB pg hx1 hx2 pM hf2 hz1 hz2 hzl hy hFi agu hzs hzs' agA Jk zI n0 n1 n2 iM;have Hb:=hbz wr;obtain⟨yh,yi,yj⟩:=gU.out.w3;have bW:Hid (aM wr):=nz;have kD:Hid (au wr (w5.heap.size) 48 (dC zs)):=ji.out;clear nz ji;have P0:=yh;have P1:=yi;have P2:=yj;obtain⟨W8,UQ,ag,Hu⟩:=cE wr 48 [aj (aC (dN y)),ai (nt (dN y).natAbs),ah (dE y)];replace gU:=kW gU ag;replace bW:=kT bW ag;replace kD:=kB kD ag;obtain⟨yh,yi,yj⟩:=gU.out.w3;obtain⟨u0,u1,u2⟩:=Hu.out.c3;replace Hb:=az Hb ag;go_wp2_with fail;refine(aiB w5.heap.size N i (B+20* (B+4608)+4096+1) zs (aC (dN y)) (nt (dN y).natAbs) (dE y) D9 _ SQ.out kD.out ET mN.out Mk.out zo Hdy.out bW.out).mono ?_;rintro e' w9 ⟨⟨rv,rfl⟩,qB,qg⟩;have Sd:=ar qB;have Sg:Hid (Chg (λb=>b=w5.heap.size) w7 w9):=(iB.out.aFM Hb.out).trans (Chg.aFL qg (λb e=>by cases e;rfl)) (λb h=>.inl h);clear qB qg;go_wp2;go_roundw;case rel=>exact⟨i+1,by omega,by go_num,by rw[anB.out,di.out];exact Sd.out,Sg.out⟩
       case measure=>exact bI
     . obtain rfl:N=i:=by omega
       rw[aAW X F N mP.out.1 Hf1.out.1,<-cn.out]at pB;obtain⟨ji,amD⟩:=aZ pB (Hg7.out.trans pg (λb h=>.inl h));clear pB pg;go_wp2;go_roundw;case rel=>exact⟨k+1,by omega,by go_num,ji.out,amD.out⟩
       case measure=>exact bI
  . obtain rfl:nT=k:=by omega
    have hpt:ts.take nT=ts:=List.take_of_length_le (by rw[HnT.out];exact Nat.le_refl _);rw[hpt]at pB;have gZ:=pg.blk E0.out zo;have kx:=pg.blk E1.out zo;obtain⟨r0,aH,r1,aI,r2,aX⟩:=kx.g3;obtain⟨p0,p1⟩:=gZ.c2;obtain⟨ji,jJ⟩:=aZ pB bQ;clear pB gZ kx hpt bQ pg;go_wp2;refine bodyPost_ret (v:=.tuple #[.agg #[ah PV,ah d,.slice (some ⟨w5.heap.size,0,none⟩) N N],ah 0]) (by simp[results,Tryz.results11,go_sem,r0,r1,r2]) rfl ⟨w5.heap.size,rfl,At.aFK (t:=48) ?_,?_⟩
    . exact((ji.out.so _ _ zo _).so _ _ zo _).so _ _ zo _
    . exact((jJ.out.setCell zp _).setCell zp _).setCell zp _
def Bo (X:Nat->Dyadic)(V D:Nat)(cs:List Dyadic)(k:Nat):Dyadic:=sumTo (λk=>cs.getD k 0*eZ X ((bK (V+1) D).getD k []) (V+1)) k
def aoJ (X:Nat->Dyadic)(V D N:Nat)(cs:List Dyadic)(hN:cnt V D=N):Bo X V D cs N=iR X V D cs:=by unfold Bo iR qw;rw[nS,hN]
def aht {X:Nat->Dyadic}{B V D:Nat}{x:List Nat}(hx:x∈bK (V+1) D)(hX:∀k,k<V+1->Sm B (X k))(k:Nat)(hk:k<=V+1):Sm (k* (B*D+1)+1) (eZ X x k):=by
 induction k with
 |zero=>exact Ym.mono zo
 |succ k ih=>have h1:=Uk x k;rw[((kV V D x).1 hx).2]at h1;have h2:=Fu (hX k zo) (x.getD k 0);have h3:B*x.getD k 0<=B*D:=Nat.mul_le_mul_left _ h1;refine(Sm.mul (ih zo) h2).mono ?_;rw[Nat.succ_mul];omega
def aoK {X:Nat->Dyadic}{A B V D:Nat}{cs:List Dyadic}(hc:∀c∈cs,Sm A c)(hX:∀k,k<V+1->Sm B (X k))(k:Nat)(hk:k<=cnt V D):Sm (A+(V+1) * (B*D+1)+1+k) (Bo X V D cs k):=by
 induction k with
 |zero=>exact Sm.zero _
 | succ k ih=>
   have hm:(bK (V+1) D).getD k []∈bK (V+1) D:=by
    have:k<(bK (V+1) D).length:=by rw[nS];omega
    rw[show(bK (V+1) D).getD k []=(bK (V+1) D)[k]by simp[this]];exact List.getElem_mem _
   exact Sm.add (B:=A+(V+1) * (B*D+1)+1+k) (ih zo) ((Sm.mul (rO hc k) (aht hm hX (V+1) (Nat.le_refl _))).mono zo)
def aiq (V D N v1 B:Nat)(aB:Option Addr)(sK:Nat)(cJ:List Raw)(aS:Option Addr)(Bp:Nat)(iX:List Raw)(X:Nat->Dyadic)(cs:List Dyadic)(Y:Dyadic)(w:World)(hV:1<=V)(hV2:V<=8)(hv1:V+1=v1)(hD:D<=20)(hN:cnt V D=N)(xE:N<=512)(JE:cJ.length=N)(hcs:cJ.map aJ=cs)(jz:∀x∈cJ,Fit B x)(hsh:iX.length=v1)(hX:∀k (h:k<iX.length),aJ iX[k]=X k)(rT:∀x∈iX,Fit B x)(hB:B<=100000)(IV:At w aB (cJ.flatMap bG))(haS:At w aS (iX.flatMap bG))(hT:aM w)(hY:iR X V D cs=Y):
 Cv 19 #[.agg #[ah (V:Int),ah (D:Int),.slice aB N sK],.slice aS v1 Bp] w (.tuple #[cK Y,ah 0]):=by
 have fp:=λW=>aca (V:Int) (D:Int) aB N sK 0 (by
  unfold GY
  rw[if_neg zo,if_neg (by rw[Int.toNat_natCast,Int.toNat_natCast];omega),if_pos (by rw[Int.toNat_natCast,Int.toNat_natCast];omega)]) W
 have vX:=λW=>Fl V D N hV hV2 hD hN xE W;have fY:∀k,k<V+1->Sm B (X k):=λk hk=>by rw[<-hX k zo];exact(rT _ (List.getElem_mem _)).2
 have uF:∀c∈cs,Sm B c:=λc hc=>by rw[<-hcs]at hc;obtain⟨x,hx,rfl⟩:=List.mem_map.1 hc;exact(jz x hx).2
 have hBD:(V+1) * (B*D+1)<=9* (100000*20+1):=Nat.mul_le_mul zo (by have:=Nat.mul_le_mul hB hD;omega);have OS:=λk (hk:k<=N)=>(aoK (D:=D) uF fY k zo).mono (show _<=20000000 by omega);have vY:∀k,Bo X V D cs (k+1)=Bo X V D cs k+cs.getD k 0*eZ X ((bK (V+1) D).getD k []) (V+1):=λk=>rfl;have hall:=(aoJ X V D N cs hN).trans hY;obtain⟨R,hR⟩:=aK (bK (V+1) D);have gy:R.length=N:=by rw[<-hR,nS,hN]
 have hrow:∀k (h:k<R.length),R[k].length=v1/\(∀a∈R[k],a<=20)/\∀j,j<=v1->Sm 19000000 (eZ X R[k] j):=λk h=>by
  have hm:R[k]∈bK (V+1) D:=by rw[hR];exact List.getElem_mem h
  have h1:=(kV V D _).1 hm;refine⟨by rw[h1.1,hv1],λa ha=>by have:=Fb ha;omega,λj hj=>(aht hm fY j zo).mono ?_⟩;have:=Nat.mul_le_mul_right (B*D+1) (show j<=V+1 by omega);omega
 have Jt:∀x j,eZ X x (j+1)=eZ X x j*cP (X j) (x.getD j 0):=λx j=>rfl;rw[hR]at vX;rw[hR,hv1]at vY;obtain⟨oc,Gq,Hss,Bc,pn,tP,mn,Hmn,ala,Sp,AW,vw⟩:=gg fp vX OS vY hall gy hrow Jt uF JE hcs jz;obtain⟨yR,HX,Hfs,QK,HaS,HT,DG,HB⟩:=oK hsh hX rT IV haS hT hv1 hB;have h0:Bo X V D cs 0=0:=rfl;have H0:=ar h0;generalize NT:Bo X V D cs=SS at*;clear fp vX OS vY hall gy hrow Jt uF JE hcs jz hsh hX rT IV haS hT hY hN hBD fY hR h0 NT hB;have im:0<w.heap.size:=HT.out.lt;have hvI:IntKind.i64.wrap ((V:Int)+1)=(v1:Int):=by rw[IntKind.wrap_i64];omega
 have uN:v1<=9:=by omega
 clear hv1;obtain⟨W,dK,Hb,Hf,Hr⟩:=mG w 34 [ah (V:Int),ah (D:Int),.slice aB N sK] 48 [aj false,.string ⟨#[]⟩,ah 0];obtain⟨f0,f1,f2⟩:=Hf.out.c3;obtain⟨r0,aH,r1,aI,r2,aX⟩:=Hr.out.g3;go_enter Tryz.func19,Tryz.ntmps19;go_wp2_with fail;refine(oc.out _).mono ?_;rintro e w1 ⟨rfl,ag⟩;obtain⟨Hf,f0,f1,f2⟩:=cm Hf ag;obtain⟨Hr,r0,aH,r1,aI,r2,aX⟩:=bg Hr ag;replace Hb:=az Hb ag;have SR:=f0;have SU:=f1;have SV:=f2;have aD6:=Hf.out.lt;have wm:=Hr.out.lt;obtain⟨W2,na,ag,eF⟩:=cE w1 48 [aj false,.string ⟨#[]⟩,ah 0];replace Hf:=kB Hf ag;obtain⟨Hr,r0,aH,r1,aI,r2,aX⟩:=bg Hr ag;obtain⟨f0,f1,f2⟩:=Hf.out.c3;obtain⟨nU,sN,nV,sO,yt,Ee⟩:=eF.out.g3;replace Hb:=az Hb ag;go_wp2_with fail;first|refine cd (bY W2 (w1.heap.size) 0 [aj false,.string ⟨#[]⟩,ah 0]) cC ?_|refine cw (bY W2 (w1.heap.size) 0 [aj false,.string ⟨#[]⟩,ah 0]) cC ?_
 intro W3 hs;replace Hf:=kS Hf hs zo;replace Hr:=kS Hr hs zo;replace eF:=dt eF hs;obtain⟨f0,f1,f2⟩:=Hf.out.c3;obtain⟨r0,aH,r1,aI,r2,aX⟩:=Hr.out.g3;obtain⟨nU,sN,nV,sO,yt,Ee⟩:=eF.out.g3;replace Hb:=bS Hb hs ZS;clear hs;have aDH:=eF.out.lt;go_wp2_with fail;refine(Gq.out _).mono ?_;rintro e w4 ⟨a0,DU,rfl,ow,IY,ag⟩;obtain⟨Hf,f0,f1,f2⟩:=cm Hf ag;obtain⟨Hr,r0,aH,r1,aI,r2,aX⟩:=bg Hr ag;obtain⟨eF,nU,sN,nV,sO,yt,Ee⟩:=bg eF ag;replace Hb:=az Hb ag;have CS:=Hb.out.size;have lf:=Hf.out.lt;have lr:=Hr.out.lt;have lsm:=eF.out.lt;have aDb:w.heap.size+1<w1.heap.size:=by assumption
 have yG:=ar ow;have rL:Hid (∀b o,a0=some ⟨b,o,none⟩->¬b=w1.heap.size):=λb o e h=>by have:=IY b o e;omega
 clear ow IY;obtain⟨E0,E1,E2⟩:=cX Hf.out Hr.out Hb.out;have AL:Hid (au w4 w1.heap.size 48 [aj (aC (dN (SS 0))),ai (nt (dN (SS 0)).natAbs),ah (dE (SS 0))]):=by rw[H0.out];exact eF.out
 clear Hf Hr eF f0 f1 f2 r0 aH r1 aI r2 aX nU sN nV sO yt Ee Hb;go_wp2_with fail;go_loopw[33] (λx wr=>∃k:Nat,k<=N/\x=ah (k:Int)/\au wr w1.heap.size 48 [aj (aC (dN (SS k))),ai (nt (dN (SS k)).natAbs),ah (dE (SS k))]/\Chg (λb=>b=w1.heap.size) w4 wr) (λx _=>N-(intOf x).toNat);case atStart=>exact⟨0,Nat.zero_le _,rfl,AL.out,Chg.refl _ _⟩
 case round=>
  clear AL;obtain⟨k,hk,rfl,pS,pg⟩:=hrel;obtain⟨wk,hwk⟩:∃wk,wk=wr:=⟨_,rfl⟩;subst hwk;have bQ:=E2.out.trans (pg.below (n:=w.heap.size) zo (λb e=>by omega));have EC:=pg.blk E0.out zo;by_cases hlt:k<N
  . have hk2:k<R.length:=by rw[tP.out];exact hlt
    have EZ:k<cJ.length:=by rw[Sp.out];exact hlt
    obtain⟨xk,hxk⟩:∃x,R[k]=x:=⟨_,rfl⟩;obtain⟨hxl,pV,WC⟩:=mn.out k hk2;have kz:R.getD k []=xk:=by simp[hk2,hxk]
    rw[hxk]at hxl pV WC;have hat:=yG.out.chg pg (λb o e=>rL.out b o e);have vN:At wk a0 (R.flatMap λx=>[Value.string (bs (x.map UInt8.ofNat))]):=by rw[Ec];exact hat
    obtain⟨b0,o0,hab,uE⟩:=vN.elem (f:=λx=>[Value.string (bs (x.map UInt8.ofNat))]) (sz:=1) (λ_=>rfl) zd k hk2;obtain⟨l8,jW⟩:∃l,xk.map UInt8.ofNat=l:=⟨_,rfl⟩;have hc0:wk.cell? ⟨b0,o0+k,none⟩=some (ai l8):=by have:=uE 0 zd;rw[hxk,jW]at this;simpa using this
    have bD:=vZ N DU k (k:Int) hab hlt rfl;rw[Nat.mul_one]at bD;have sX:l8.length=v1:=by rw[<-jW,List.length_map];exact hxl
    have zS:∀j (h:j<l8.length),l8[j].toNat=xk.getD j 0/\xk.getD j 0<=20:=λj h=>by
     have jx:j<xk.length:=by omega
     have e8:l8[j]=UInt8.ofNat xk[j]:=by
      have:l8[j]?=(xk.map UInt8.ofNat)[j]?:=by rw[jW]
      rw[List.getElem?_eq_getElem h,List.getElem?_eq_getElem (by simpa using jx)]at this;simpa using this
     have h20:=pV _ (List.getElem_mem jx);rw[e8,show xk.getD j 0=xk[j]by simp[jx]];exact⟨by simp;omega,h20⟩
    obtain⟨s,m,e,hx⟩:=pJ (cJ[k]);obtain⟨bR,oR,IW,n0,n1,n2⟩:=(QK.out.below bQ).num k EZ hx;have WN:=kP N sK k (k:Int) IW hlt rfl;have vY:=Bc.out k;have Jt:=Hmn.out xk;obtain⟨c,hc⟩:=aK (cs.getD k 0);have hcv:aJ (s,m,e)=c:=by rw[<-hc,<-AW.out,<-hx];simp[List.getD_eq_getElem?_getD,EZ]
    have hcc:Sm B c:=by rw[<-hc];exact rO ala.out k
    have hfc:=vw.out _ (List.getElem_mem EZ);rw[hx]at hfc;rw[hc,kz]at vY;generalize zK:eZ X xk=MM at*;have Uy:MM 0=1:=by rw[<-zK];rfl
    obtain⟨iB,Gn,eJ,SK,Hxm,tY,qG,Hs,Hm,Hcv,QX,yI⟩:=gg pg pS bQ hxl WC sX zS vY Jt hcv hcc hfc;have HM0:=ar Uy;have Hn:Hid (bH wk bR (oR+k*3) [aj s,ai m,ah e]):=jH n0 n1 n2;have KX:=pg.size;clear pg pS bQ hxl pV WC kz hat vN uE jW sX zS n0 n1 n2 IW vY Jt hc hcv hcc hfc hx zK Uy hab hxk;have Hf:Hid (au wk w.heap.size 34 [ah (V:Int),ah (D:Int),.slice aB N sK]):=EC;clear EC;have Hb:=hbz wk;obtain⟨f0,f1,f2⟩:=Hf.out.c3;obtain⟨n0,n1,n2⟩:=Hn.out.w3;have SR:=f0;have SU:=f1;have SV:=f2;have Kn0:=n0;have Kn1:=n1;have Kn2:=n2;have aD9:=Hf.out.lt;obtain⟨W5,xL,ag,Hc⟩:=cE wk 48 [aj s,ai m,ah e];replace Hf:=kB Hf ag;replace Hn:=kW Hn ag;obtain⟨f0,f1,f2⟩:=Hf.out.c3;obtain⟨n0,n1,n2⟩:=Hn.out.w3;obtain⟨c0,c1,c2⟩:=Hc.out.c3;replace Hb:=az Hb ag;obtain⟨cb,W6,hcv,nj,ky,ko⟩:=PZ l8 W5;rw[tY.out]at hcv;have lc:=Hc.out.lt;obtain⟨FX,wO,qE⟩:=cX (Hc.out.below nj) (aO Hb.out nj) ko;clear ko Hc Hb c0 c1 c2 Hf Hn ky nj f0 f1 f2 n0 n1 n2;go_wp2_with fail;go_loopw[46] (λx wr=>∃(j:Nat) (s':Bool) (m':List UInt8) (e':Int),j<=v1/\x=ah (j:Int)/\aJ (s',m',e')=c*MM j/\Fit 20000000 (s',m',e')/\au wr wk.heap.size 48 [aj s',ai m',ah e']/\Chg (λb=>b=wk.heap.size) W6 wr) (λx _=>v1-(intOf x).toNat);case atStart=>exact⟨0,s,m,e,Nat.zero_le _,rfl,by rw[HM0.out,Hcv.out];grind,yI.out.mono (by have:=HB.out;omega),FX.out,Chg.refl _ _⟩
    case round=>
     clear FX hcv hc0 bD WN;obtain⟨j,s',m',e',hj,rfl,hv,hf',pC,pg⟩:=hrel;have hbk:=wO.out.trans (pg.below (n:=wk.heap.size) (by have:=wO.out.size;omega) (λb e=>by omega));have bQ:=aO eJ.out hbk;by_cases bC:j<v1
     . have jS:j<iX.length:=by rw[yR.out];exact bC
       have j8:j<l8.length:=by rw[tY.out];exact bC
       obtain⟨s2,m2,e2,hx2⟩:=pJ (iX[j]);obtain⟨bS,oS,aeo,n0,n1,n2⟩:=(HaS.out.below bQ).num j jS hx2;have ixS:=kP v1 Bp j (j:Int) aeo bC rfl;have NW:=HX.out j jS;have rT:=Hfs.out _ (List.getElem_mem jS);rw[hx2]at NW rT;obtain⟨hq1,hq2⟩:=qG.out j j8;obtain⟨q,hq⟩:=aK (xk.getD j 0);have OG:=Hm.out j;have EI:=Hxm.out (j+1) bC;rw[hq]at hq1 hq2 OG;have m0:wr.cell? ⟨W5.heap.size,j,none⟩=some (.int .u8 (q:Int)):=pg.cell (by rw[(qE.out j j8).1,hq1]) (by show ¬W5.heap.size=wk.heap.size;omega);have ya:=tq v1 cb j (j:Int) (rfl:(some ⟨W5.heap.size,0,none⟩:Option Addr)=_) bC rfl;rw[Nat.zero_add,Nat.mul_one]at ya;have Wz:IntKind.i64.wrap (q:Int)=(q:Int):=by rw[IntKind.wrap_i64];omega
       obtain⟨P,hP⟩:=aK (cP (X j) q);have pK:Sm 20000000 P:=by
        have h1:Sm (B*q+1) P:=by rw[<-hP,<-NW];exact Fu rT.2 q
        have h2:=Nat.mul_le_mul HB.out hq2;exact h1.mono zo
       rw[hP]at OG;obtain⟨G,hG⟩:=aK (c*MM (j+1));have II:aJ (s',m',e') *aJ (aC (dN P),nt (dN P).natAbs,dE P)=G:=by show _*aJ (canon P)=G;rw[cp,hv,<-hG,OG];grind
       have hGs:Fit 20000000 (aC (dN G),nt (dN G).natAbs,dE G):=by
        have h1:Sm (B+19000000) G:=by rw[<-hG];exact Sm.mul QX.out EI
        exact(h1.mono (by have:=HB.out;omega)).fit zo
       have hGv:aJ (aC (dN G),nt (dN G).natAbs,dE G)=c*MM (j+1):=by show aJ (canon G)=_;rw[cp,hG]
       have hpw:=λW (hT:aM W)=>acz s2 m2 e2 q (X j) P B NW hP W rT HB.out zo hT;have fw:=λb W (h:au W b 48 [aj s',ai m',ah e',aj (aC (dN P)),ai (nt (dN P).natAbs),ah (dE P)]) (hT:aM W)=>xy s' m' e' (aC (dN P)) (nt (dN P).natAbs) (dE P) G 20000000 II b 2 48 W hf' (pK.fit zo) zo h hT;have rc:=HT.out.below bQ;obtain⟨Ba,pp,HGv,Lt,iB,gB⟩:=iq hpw fw hGv hGs pg rc;have Hn:Hid (bH wr bS (oS+j*3) [aj s2,ai m2,ah e2]):=jH n0 n1 n2;have Hc:Hid (au wr wk.heap.size 48 [aj s',ai m',ah e']):=pC;have gM:=pg.size;have aFf:=wO.out.size;clear hpw fw hGv hGs II pg rc pC hv hf' NW rT hq1 hq2 OG EI hG hP pK hx2 aeo n0 n1 n2 hbk bQ hq;have Hb:=hbz wr;obtain⟨n0,n1,n2⟩:=Hn.out.w3;obtain⟨c0,zz,c1,zD,c2,zE⟩:=Hc.out.g3;go_wp2_with fail;refine bV (λw'=>aF w' (wk.heap.size) 0 (aj s')/\aF w' (wk.heap.size) 1 (ai m')/\aF w' (wk.heap.size) 2 (ah e')/\aF w' bS (oS+j*3) (aj s2)/\aF w' bS (oS+j*3+1) (ai m2)/\aF w' bS (oS+j*3+2) (ah e2)) (λi=>Nat.blt i 10) [(0,true),(1,true),(2,true),(3,true),(4,true),(5,true),(6,true),(7,false),(8,false),(9,false),(10,false)] zk zk rfl zk zc ⟨c0,c1,c2,n0,n1,n2⟩ ?_;iterate 7 (refine pT rfl rfl ?_ (by intro w' ⟨q0,q1,q2,q3,q4,q5⟩;go_simp;try with_reducible rfl);try simp only[UU])
       refine aR rfl rfl (λK hK=>?_);go_simp;with_reducible refine(Ba.out _ (by first|exact(gB.out.below Hb.out) |exact aM.drew (gB.out.below Hb.out) |exact aM.alloc (gB.out.below Hb.out) _|exact aM.drew (aM.alloc (gB.out.below Hb.out) _) |exact aM.alloc (aM.drew (gB.out.below Hb.out)) _)).mono ?_
       rintro e w8 ⟨rfl,hq⟩;have ag:Bw wr w8:=by first|exact hq|exact bo hq
       replace Hn:=kW Hn ag;obtain⟨Hc,c0,zz,c1,zD,c2,zE⟩:=bg Hc ag;obtain⟨n0,n1,n2⟩:=Hn.out.w3;replace Hb:=az Hb ag;refine hK _ _ (λ_=>⟨c0,c1,c2,n0,n1,n2⟩) ?_;try simp only[UU]
       refine aR rfl rfl (λK hK=>?_);go_simp;refine hK _ _ (λ_=>⟨aV c0,aV c1,aV c2,aV n0,aV n1,aV n2⟩) ?_;try simp only[UU]
       refine bZ (λW9=>au W9 (w8.heap.size) 48 [aj s',ai m',ah e',aj (aC (dN P)),ai (nt (dN P).natAbs),ah (dE P)]/\Bw w8 W9) (by first|exact eo|exact eu) ?_;rintro W9 ⟨qd,ag⟩;have aDT:=Hc.out.lt;replace Hn:=kW Hn ag;replace Hc:=kB Hc ag;have Hd:=ar qd;clear qd;obtain⟨n0,n1,n2⟩:=Hn.out.w3;obtain⟨c0,zz,c1,zD,c2,zE⟩:=Hc.out.g3;obtain⟨d0,d1,d2,d3,d4,d5⟩:=Hd.out.c6;replace Hb:=az Hb ag;refine aR rfl rfl (λK hK=>?_);go_simp;with_reducible refine(pp.out _ _ Hd.out (by first|exact(gB.out.below Hb.out) |exact aM.drew (gB.out.below Hb.out) |exact aM.alloc (gB.out.below Hb.out) _|exact aM.drew (aM.alloc (gB.out.below Hb.out) _) |exact aM.alloc (aM.drew (gB.out.below Hb.out)) _)).mono ?_
       rintro e fx ⟨rfl,hq⟩;have ag:Bw W9 fx:=by first|exact hq|exact bo hq
       replace Hn:=kW Hn ag;obtain⟨Hc,c0,zz,c1,zD,c2,zE⟩:=bg Hc ag;obtain⟨Hd,d0,d1,d2,d3,d4,d5⟩:=kR Hd ag;obtain⟨n0,n1,n2⟩:=Hn.out.w3;replace Hb:=az Hb ag;refine hK _ _ (λ_=>⟨c0,c1,c2,n0,n1,n2⟩) ?_;try simp only[UU]
       refine aR rfl rfl (λK hK=>?_);go_simp;refine hK _ _ (by first|exact λh=>absurd h zd|exact λ_=>⟨c0,c1,c2,n0,n1,n2⟩ |exact λ_=>⟨(by first|exact c0|exact aU zf c0|exact aU zf (aU zf c0) |exact aU zf (aU zf (aU zf c0))),(by first|exact c1|exact aU zf c1|exact aU zf (aU zf c1) |exact aU zf (aU zf (aU zf c1))),(by first|exact c2|exact aU zf c2|exact aU zf (aU zf c2) |exact aU zf (aU zf (aU zf c2))),(by first|exact n0|exact aU zf n0|exact aU zf (aU zf n0) |exact aU zf (aU zf (aU zf n0))),(by first|exact n1|exact aU zf n1|exact aU zf (aU zf n1) |exact aU zf (aU zf (aU zf n1))),(by first|exact n2|exact aU zf n2|exact aU zf (aU zf n2) |exact aU zf (aU zf (aU zf n2)))⟩) ?_;try simp only[UU]
       simp only[bu];go_wp2;go_roundw;case rel=>exact⟨j+1,_,_,_,by omega,by go_num,HGv.out,Lt.out,((Hc.out.set 0 _).set 1 _).set 2 _,(((iB.out.aFM Hb.out).set rfl _).set rfl _).set rfl _⟩
       case measure=>exact bI
     . obtain rfl:j=v1:=by omega
       have xH:=(Hss.out k hk).fit (by omega:20000000<=268435456);have hsa:aJ (aC (dN (SS k)),nt (dN (SS k)).natAbs,dE (SS k))+aJ (s',m',e')=SS (k+1):=by show aJ (canon _)+_=_;rw[cp,hv,Hs.out]
       obtain⟨S,hS⟩:=aK (SS k);obtain⟨S',UJ⟩:∃S,SS (k+1)=S:=⟨_,rfl⟩;rw[hS]at xH hsa;rw[UJ]at hsa;have hsm:=Gn.out;rw[hS]at hsm;have had:=λb W (h:au W b 48 [aj (aC (dN S)),ai (nt (dN S).natAbs),ah (dE S),aj s',ai m',ah e']) (hT:aM W)=>DW (aC (dN S)) (nt (dN S).natAbs) (dE S) s' m' e' S' 20000000 hsa b 2 48 W xH hf' zo h hT;have rc:=HT.out.below bQ;have lsk:=hsm.lt;have eF:Hid (au wr w1.heap.size 48 [aj (aC (dN S)),ai (nt (dN S).natAbs),ah (dE S)]):=hsm.below hbk;have Hc:Hid (au wr wk.heap.size 48 [aj s',ai m',ah e']):=pC;obtain⟨pk,gB,HS',tV⟩:=ej had rc UJ hbk;clear had rc hsm pC hv hf' xH hsa hS UJ bQ hbk pg qG Gn Hxm Hs Hm yI;have Hb:=hbz wr;obtain⟨nU,sN,nV,sO,yt,Ee⟩:=eF.out.g3;obtain⟨c0,c1,c2⟩:=Hc.out.c3;have bW:Hid (aM wr):=gB.out;have SX:=nU;have SY:=nV;have anI:=yt;have Kc0:=c0;have Kc1:=c1;have Kc2:=c2;have ave:=eF.out.lt;have aDO:=Hc.out.lt;obtain⟨W12,asx,ag,Hd⟩:=cE wr 48 [aj (aC (dN S)),ai (nt (dN S).natAbs),ah (dE S),aj s',ai m',ah e'];replace eF:=kB eF ag;obtain⟨Hc,c0,c1,c2⟩:=cm Hc ag;replace bW:=kT bW ag;obtain⟨nU,sN,nV,sO,yt,Ee⟩:=eF.out.g3;obtain⟨d0,d1,d2,d3,d4,d5⟩:=Hd.out.c6;replace Hb:=az Hb ag;go_wp2_with fail;refine(pk.out _ _ Hd.out bW.out).mono ?_;rintro e qu ⟨rfl,ag⟩;obtain⟨eF,nU,sN,nV,sO,yt,Ee⟩:=bg eF ag;obtain⟨Hc,c0,c1,c2⟩:=cm Hc ag;replace bW:=kT bW ag;obtain⟨Hd,d0,d1,d2,d3,d4,d5⟩:=kR Hd ag;replace Hb:=az Hb ag;clear ag SX SY anI Kc0 Kc1 Kc2;have Rp:Hid (Chg (λb=>b=w1.heap.size) w4 qu):=iB.out.aFM (aO tV.out Hb.out);go_wp2;go_roundw;case rel=>exact⟨k+1,by omega,by go_num,by rw[HS'.out];exact((eF.out.set 0 _).set 1 _).set 2 _,((Rp.out.set rfl _).set rfl _).set rfl _⟩
       case measure=>exact bI
  . obtain rfl:k=N:=by omega
    rw[pn.out]at pS;have eF:Hid (au wk w1.heap.size 48 [aj (aC (dN Y)),ai (nt (dN Y).natAbs),ah (dE Y)]):=pS;have Hr:Hid (au wk (w.heap.size+1) 48 [aj false,.string ⟨#[]⟩,ah 0]):=pg.blk E1.out zo;have Hb:Hid (Bw w wk):=bQ;clear pS pg bQ EC;obtain⟨nU,nV,yt⟩:=eF.out.c3;obtain⟨r0,aH,r1,aI,r2,aX⟩:=Hr.out.g3;go_wp2;refine fP (bY wk (w.heap.size+1) 0 [aj (aC (dN Y)),ai (nt (dN Y).natAbs),ah (dE Y)]) cC ?_;intro FC hs;replace eF:=kS eF hs zo;replace Hr:=dt Hr hs;obtain⟨nU,nV,yt⟩:=eF.out.c3;obtain⟨r0,aH,r1,aI,r2,aX⟩:=Hr.out.g3;replace Hb:=bS Hb hs ZS;clear hs;refine bodyPost_ret (v:=.tuple #[cK Y,ah 0]) (by simp[results,Tryz.results19,go_sem,r0,r1,r2]) rfl ⟨rfl,Hb.out⟩
end Go.Proofs.YtnjfebkelecgaaaGreatDoor
