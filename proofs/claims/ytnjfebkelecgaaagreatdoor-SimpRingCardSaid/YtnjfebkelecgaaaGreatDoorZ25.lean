/- Package simp: To,where it answers an error. -/
import Derived.Test.YtnjfebkelecgaaaGreatDoorZ18
import Derived.Test.YtnjfebkelecgaaaGreatDoorZ12
import Derived.Test.YtnjfebkelecgaaaGreatDoorZ19
import Derived.Test.YtnjfebkelecgaaaGreatDoorZ23
import Derived.Test.YtnjfebkelecgaaaGreatDoorZ16
import Derived.Test.YtnjfebkelecgaaaGreatDoorZ17
set_option linter.unusedVariables false
set_option linter.unusedSimpArgs false
set_option maxRecDepth 100000
set_option maxHeartbeats 16000000
namespace Go.Proofs.YtnjfebkelecgaaaGreatDoor
open Go.RowKit
attribute [local go_sem ↓] Go.wp_at_zero Go.wp_at_succ
theorem Vk {V:Int}{ts:List aR}(h:lK V ts=0):0<=V/\V<=12/\ts.length<=4096/\∀t∈ts,(t.1.length:Int)=V/\∀c∈t.1,c.toNat<=127:=by
 unfold lK at h;by_cases h1:0<=V/\V<=12
 . rw[if_neg (λh=>h h1)]at h;by_cases h2:4096<ts.length
   . rw[if_pos h2]at h;cases h
   . rw[if_neg h2]at h;by_cases h3:(List.range ts.length).all (nj V ts)=true
     . refine⟨h1.1,h1.2,by omega,λt ht=>?_⟩;obtain⟨k,hk,rfl⟩:=List.mem_iff_getElem.1 ht;rw[List.all_eq_true]at h3;have h4:=h3 k (List.mem_range.2 hk);have e:ts.getD k default=ts[k]:=by simp[List.getD_eq_getElem?_getD,hk]
       unfold nj ym at h4;rw[e]at h4;simp only[Bool.and_eq_true]at h4;have h5:=h4.1.1.1;unfold eU at h5;rw[Bool.and_eq_true,List.all_eq_true]at h5;exact⟨of_decide_eq_true h5.2,λc hc=>of_decide_eq_true (h5.1 c hc)⟩
     . rw[if_neg h3]at h;cases h
 . rw[if_pos h1]at h;cases h
theorem avB (rows:List (List Raw)):jg rows=0\/jg rows=1\/jg rows=5:=by
 unfold jg;split
 . exact .inr (.inl rfl)
 . split
   . exact .inr (.inr rfl)
   . exact .inl rfl
noncomputable def nY (PV:Int) (ts:List aR) (rows:List (List Raw)) (d:Int):Int:=
 if jg rows=1\/lK PV ts≠0\/PV≠(rows.length:Int)-1\/d<(mQ ts:Int)then 1 else jg rows
theorem avN (PV:Int)(aP:Option Addr)(nT ic:Nat)(ts:List aR)(a:Option Addr)(L cap:Nat)(rows:List (List Raw))(B:Nat)(d:Int)(w:World)(gM:ts.length=nT)(hn:nT<=1048576)(pW:At w aP (ts.flatMap aY))(hts:∀t∈ts,t.1.length<=9223372036854775807/\Ok t.2)
 (hL:rows.length=L) (hL4:L<=4) (hcap:L<=cap) (ha:cM w a rows) (hfit:∀r∈rows,∀c∈r,Fit B c) (hB:B<=900000) (hT:aO w) (hd:d<=5) (c:Int) (hc:nY PV ts rows d=c) (hc0:c≠0):
 Calls Tryz.prog 11 #[.agg #[ah PV,.slice aP nT ic],.slice a L cap,ah d] w λe w'=>e=.returned (.tuple #[.agg #[ah 0,ah 0,.slice none 0 0],ah c])/\Bw w w':=by
 have sB:=λW=>λ(h:cM W a rows) (hT:aO W)=>VP a L cap rows B W hL zo hcap h hfit hB hT;have hpc:=λW=>λ(h:At W aP (ts.flatMap aY)) (hT:aO W)=>NI PV aP ic nT ts W gM hn h hts hT
 have uo:=λ(h0:lK PV ts=0) W=>λ(h:At W aP (ts.flatMap aY))=>af9 PV aP ic nT ts W gM hn h (λt ht=>by
  obtain⟨q1,q2,q3,q4⟩:=Vk h0;obtain⟨q5,q6⟩:=q4 t ht
  exact⟨by omega,q6⟩)
 obtain⟨tc,DL⟩:=aK (jg rows);obtain⟨pc,TJ⟩:=aK (lK PV ts);obtain⟨tt,DR⟩:∃tt:Int,(mQ ts:Int)=tt:=⟨_,rfl⟩;have hcs:=avB rows;unfold nY at hc;rw[DL,TJ,DR,hL]at hc;rw[DL]at sB hcs;rw[TJ]at hpc uo;rw[DR]at uo;obtain⟨Ab,xV,ya,xN,Ha,HT⟩:=gP sB hpc uo pW ha hT;clear sB hpc uo pW ha hT DL TJ DR hfit hts gM hL;have Ub:IntKind.i64.wrap ((L:Int)-1)=(L:Int)-1:=by rw[IntKind.wrap_i64];omega
 obtain⟨L1,oO⟩:∃L1:Int,(L:Int)-1=L1:=⟨_,rfl⟩;rw[oO]at hc;have ayG:IntKind.i64.wrap ((L:Int)-1)=L1:=by rw[Ub,oO]
 clear Ub oO;obtain⟨W,dw,Hb,Hp,Hr⟩:=mK w 24 [ah PV,.slice aP nT ic] 34 [ah 0,ah 0,.slice none 0 0];obtain⟨p0,p1⟩:=Hp.out.c2;obtain⟨r0,au,r1,az,r2,aJ⟩:=Hr.out.g3;have eO:Hid (At W aP (ts.flatMap aY)):=xN.out.below Hb.out;have cp:Hid (cM W a rows):=Ha.out.below Hb.out;have bZ:Hid (aO W):=HT.out.below Hb.out;by_cases h1:tc=1
 . rw[if_pos (.inl h1)]at hc;subst hc h1;go_enter Tryz.func11,Tryz.ntmps11;go_wp2_with fail;refine(Ab.out _ cp.out bZ.out).mono ?_;rintro e w1 ⟨rfl,ag⟩;clear p0 p1 r0 au r1 az r2 aJ;obtain⟨Hp,p0,p1⟩:=bi Hp ag;obtain⟨Hr,r0,au,r1,az,r2,aJ⟩:=bg Hr ag;replace eO:=kA eO ag;replace cp:=kL cp ag;replace bZ:=kT bZ ag;replace Hb:=aF Hb ag;clear ag;go_wp2;clear p0 p1 r0 au r1 az r2 aJ;refine fJ (cm w1 (w.heap.size+1) 0 [ah 0,ah 0,.slice none 0 0]) cC ?_;intro w9 hs;replace Hp:=kS Hp hs zo;replace Hr:=cX Hr hs;obtain⟨p0,p1⟩:=Hp.out.c2;obtain⟨r0,au,r1,az,r2,aJ⟩:=Hr.out.g3;replace Hb:=bS Hb hs ZS;clear hs;refine bodyPost_ret (v:=.tuple #[.agg #[ah 0,ah 0,.slice none 0 0],ah 1]) (by simp[results,Tryz.results11,go_sem,r0,r1,r2]) rfl ⟨rfl,Hb.out⟩
 . have h1b:(tc==1)=false:=by simpa using h1
   by_cases h2:pc=0
   . by_cases h3:PV=L1
     . by_cases h4:d<tt
       . rw[if_pos (.inr (.inr (.inr h4)))]at hc;subst hc;have Ix:=ya.out h2;have Qn:=aj Ix;clear Ix ya;subst h2 h3;go_enter Tryz.func11,Tryz.ntmps11;go_wp2_with fail;refine(Ab.out _ cp.out bZ.out).mono ?_;rintro e w1 ⟨rfl,ag⟩;clear p0 p1 r0 au r1 az r2 aJ;obtain⟨Hp,p0,p1⟩:=bi Hp ag;obtain⟨Hr,r0,au,r1,az,r2,aJ⟩:=bg Hr ag;replace eO:=kA eO ag;replace cp:=kL cp ag;replace bZ:=kT bZ ag;replace Hb:=aF Hb ag;clear ag;go_wp2_with fail;refine(xV.out _ eO.out bZ.out).mono ?_;rintro e w2 ⟨rfl,ag⟩;clear p0 p1 r0 au r1 az r2 aJ;obtain⟨Hp,p0,p1⟩:=bi Hp ag;obtain⟨Hr,r0,au,r1,az,r2,aJ⟩:=bg Hr ag;replace eO:=kA eO ag;replace cp:=kL cp ag;replace bZ:=kT bZ ag;replace Hb:=aF Hb ag;clear ag;go_wp2_with fail;refine(Qn.out _ eO.out).mono ?_;rintro e w3 ⟨rfl,ag⟩;clear p0 p1 r0 au r1 az r2 aJ;obtain⟨Hp,p0,p1⟩:=bi Hp ag;obtain⟨Hr,r0,au,r1,az,r2,aJ⟩:=bg Hr ag;replace eO:=kA eO ag;replace cp:=kL cp ag;replace bZ:=kT bZ ag;replace Hb:=aF Hb ag;clear ag;go_wp2;clear p0 p1 r0 au r1 az r2 aJ;refine fJ (cm w3 (w.heap.size+1) 0 [ah 0,ah 0,.slice none 0 0]) cC ?_;intro w9 hs;replace Hp:=kS Hp hs zo;replace Hr:=cX Hr hs;obtain⟨p0,p1⟩:=Hp.out.c2;obtain⟨r0,au,r1,az,r2,aJ⟩:=Hr.out.g3;replace Hb:=bS Hb hs ZS;clear hs;refine bodyPost_ret (v:=.tuple #[.agg #[ah 0,ah 0,.slice none 0 0],ah 1]) (by simp[results,Tryz.results11,go_sem,r0,r1,r2]) rfl ⟨rfl,Hb.out⟩
       . have hc5:tc=5:=by rw[if_neg (by rintro(h|h|h|h);exact h1 h;exact h h2;exact h h3;exact h4 h)]at hc;omega
         have hcc:c=5:=by rw[if_neg (by rintro(h|h|h|h);exact h1 h;exact h h2;exact h h3;exact h4 h)]at hc;omega
         have apk:¬20<d:=by omega
         clear hc hcs;have Ix:=ya.out h2;have Qn:=aj Ix;clear Ix ya;subst hc5 hcc h2 h3;go_enter Tryz.func11,Tryz.ntmps11;go_wp2_with fail;refine(Ab.out _ cp.out bZ.out).mono ?_;rintro e w1 ⟨rfl,ag⟩;clear p0 p1 r0 au r1 az r2 aJ;obtain⟨Hp,p0,p1⟩:=bi Hp ag;obtain⟨Hr,r0,au,r1,az,r2,aJ⟩:=bg Hr ag;replace eO:=kA eO ag;replace cp:=kL cp ag;replace bZ:=kT bZ ag;replace Hb:=aF Hb ag;clear ag;go_wp2_with fail;refine(xV.out _ eO.out bZ.out).mono ?_;rintro e w2 ⟨rfl,ag⟩;clear p0 p1 r0 au r1 az r2 aJ;obtain⟨Hp,p0,p1⟩:=bi Hp ag;obtain⟨Hr,r0,au,r1,az,r2,aJ⟩:=bg Hr ag;replace eO:=kA eO ag;replace cp:=kL cp ag;replace bZ:=kT bZ ag;replace Hb:=aF Hb ag;clear ag;go_wp2_with fail;refine(Qn.out _ eO.out).mono ?_;rintro e w3 ⟨rfl,ag⟩;clear p0 p1 r0 au r1 az r2 aJ;obtain⟨Hp,p0,p1⟩:=bi Hp ag;obtain⟨Hr,r0,au,r1,az,r2,aJ⟩:=bg Hr ag;replace eO:=kA eO ag;replace cp:=kL cp ag;replace bZ:=kT bZ ag;replace Hb:=aF Hb ag;clear ag;go_wp2;clear p0 p1 r0 au r1 az r2 aJ;refine fJ (cm w3 (w.heap.size+1) 0 [ah 0,ah 0,.slice none 0 0]) cC ?_;intro w9 hs;replace Hp:=kS Hp hs zo;replace Hr:=cX Hr hs;obtain⟨p0,p1⟩:=Hp.out.c2;obtain⟨r0,au,r1,az,r2,aJ⟩:=Hr.out.g3;replace Hb:=bS Hb hs ZS;clear hs;refine bodyPost_ret (v:=.tuple #[.agg #[ah 0,ah 0,.slice none 0 0],ah 5]) (by simp[results,Tryz.results11,go_sem,r0,r1,r2]) rfl ⟨rfl,Hb.out⟩
     . rw[if_pos (.inr (.inr (.inl h3)))]at hc;have h3b:(PV==L1)=false:=by simpa using h3
       subst hc h2;go_enter Tryz.func11,Tryz.ntmps11;go_wp2_with fail;refine(Ab.out _ cp.out bZ.out).mono ?_;rintro e w1 ⟨rfl,ag⟩;clear p0 p1 r0 au r1 az r2 aJ;obtain⟨Hp,p0,p1⟩:=bi Hp ag;obtain⟨Hr,r0,au,r1,az,r2,aJ⟩:=bg Hr ag;replace eO:=kA eO ag;replace cp:=kL cp ag;replace bZ:=kT bZ ag;replace Hb:=aF Hb ag;clear ag;go_wp2_with fail;refine(xV.out _ eO.out bZ.out).mono ?_;rintro e w2 ⟨rfl,ag⟩;clear p0 p1 r0 au r1 az r2 aJ;obtain⟨Hp,p0,p1⟩:=bi Hp ag;obtain⟨Hr,r0,au,r1,az,r2,aJ⟩:=bg Hr ag;replace eO:=kA eO ag;replace cp:=kL cp ag;replace bZ:=kT bZ ag;replace Hb:=aF Hb ag;clear ag;go_wp2;clear p0 p1 r0 au r1 az r2 aJ;refine fJ (cm w2 (w.heap.size+1) 0 [ah 0,ah 0,.slice none 0 0]) cC ?_;intro w9 hs;replace Hp:=kS Hp hs zo;replace Hr:=cX Hr hs;obtain⟨p0,p1⟩:=Hp.out.c2;obtain⟨r0,au,r1,az,r2,aJ⟩:=Hr.out.g3;replace Hb:=bS Hb hs ZS;clear hs;refine bodyPost_ret (v:=.tuple #[.agg #[ah 0,ah 0,.slice none 0 0],ah 1]) (by simp[results,Tryz.results11,go_sem,r0,r1,r2]) rfl ⟨rfl,Hb.out⟩
   . rw[if_pos (.inr (.inl h2))]at hc;have h2b:(pc==0)=false:=by simpa using h2
     subst hc;go_enter Tryz.func11,Tryz.ntmps11;go_wp2_with fail;refine(Ab.out _ cp.out bZ.out).mono ?_;rintro e w1 ⟨rfl,ag⟩;clear p0 p1 r0 au r1 az r2 aJ;obtain⟨Hp,p0,p1⟩:=bi Hp ag;obtain⟨Hr,r0,au,r1,az,r2,aJ⟩:=bg Hr ag;replace eO:=kA eO ag;replace cp:=kL cp ag;replace bZ:=kT bZ ag;replace Hb:=aF Hb ag;clear ag;go_wp2_with fail;refine(xV.out _ eO.out bZ.out).mono ?_;rintro e w2 ⟨rfl,ag⟩;clear p0 p1 r0 au r1 az r2 aJ;obtain⟨Hp,p0,p1⟩:=bi Hp ag;obtain⟨Hr,r0,au,r1,az,r2,aJ⟩:=bg Hr ag;replace eO:=kA eO ag;replace cp:=kL cp ag;replace bZ:=kT bZ ag;replace Hb:=aF Hb ag;clear ag;go_wp2;clear p0 p1 r0 au r1 az r2 aJ;refine fJ (cm w2 (w.heap.size+1) 0 [ah 0,ah 0,.slice none 0 0]) cC ?_;intro w9 hs;replace Hp:=kS Hp hs zo;replace Hr:=cX Hr hs;obtain⟨p0,p1⟩:=Hp.out.c2;obtain⟨r0,au,r1,az,r2,aJ⟩:=Hr.out.g3;replace Hb:=bS Hb hs ZS;clear hs;refine bodyPost_ret (v:=.tuple #[.agg #[ah 0,ah 0,.slice none 0 0],ah 1]) (by simp[results,Tryz.results11,go_sem,r0,r1,r2]) rfl ⟨rfl,Hb.out⟩
def pz (xs ys:List Dyadic)(i:Nat):List Dyadic:=(List.zipWith (·+·) xs ys).take i++xs.drop i
theorem awN (xs ys:List Dyadic):pz xs ys 0=xs:=by simp[pz]
theorem awJ (xs ys:List Dyadic)(N:Nat)(hx:xs.length=N)(hy:ys.length=N):pz xs ys N=List.zipWith (·+·) xs ys:=by unfold pz;rw[List.drop_eq_nil_of_le zo,List.append_nil,List.take_of_length_le (by rw[List.length_zipWith];omega)]
theorem awL (xs ys:List Dyadic)(N i:Nat)(hx:xs.length=N)(hy:ys.length=N)(hi:i<=N):(pz xs ys i).length=N:=by unfold pz;rw[List.length_append,List.length_take,List.length_zipWith,List.length_drop];omega
theorem awK (xs ys:List Dyadic)(N i:Nat)(hx:xs.length=N)(hy:ys.length=N)(hi:i<N):(pz xs ys i)[i]?=some (xs.getD i 0)/\pz xs ys (i+1)=(pz xs ys i).set i (xs.getD i 0+ys.getD i 0):=by
 have h1:xs.getD i 0=xs[i]'zo:=by simp[List.getD_eq_getElem?_getD,show i<xs.length by omega]
 have h2:ys.getD i 0=ys[i]'zo:=by simp[List.getD_eq_getElem?_getD,show i<ys.length by omega]
 have hl:((List.zipWith (·+·) xs ys).take i).length=i:=by rw[List.length_take,List.length_zipWith];omega
 have e2:(List.zipWith (·+·) xs ys).take (i+1)=(List.zipWith (·+·) xs ys).take i++[xs.getD i 0+ys.getD i 0]:=by rw[List.take_succ_eq_append_getElem (by rw[List.length_zipWith];omega),List.getElem_zipWith,h1,h2]
 have e3:xs.drop i=xs.getD i 0::xs.drop (i+1):=by rw[List.drop_eq_getElem_cons zo,h1]
 unfold pz;constructor
 . rw[e3,List.getElem?_append_right zo,hl];simp
 . rw[e2,e3,List.set_append_right _ _ zo,hl];simp
theorem awM {C i:Nat}{xs ys:List Dyadic}(h:∀x∈xs,Sm C x)(h':∀x∈ys,Sm C x):∀x∈pz xs ys i,Sm (C+1) x:=by
 intro x hx;unfold pz at hx;rw[List.mem_append]at hx;rcases hx with hx|hx
 . exact agP h h' x (List.mem_of_mem_take hx)
 . exact(h x (List.mem_of_mem_drop hx)).mono zo
def fV (ts:List aR):List (Dyadic×List Nat):=ts.map λt=>(aM t.2,t.1.map UInt8.toNat)
theorem aaA (V D:Nat)(S:List (List Dyadic))(ts:List aR)(k:Nat)(hk:k<ts.length):
 eY V D S (fV (ts.take (k+1)))=List.zipWith (·+·) (eY V D S (fV (ts.take k))) (gH V D S (aM ts[k].2) (ts[k].1.map UInt8.toNat)):=by
 unfold eY fV;rw[List.take_succ_eq_append_getElem hk,List.map_append,List.foldl_append];rfl
theorem ana (l:List UInt8):ji l=(l.map UInt8.toNat).sum:=rfl
theorem ZZ (ts:List aR):∀t∈ts,ji t.1<=mQ ts:=by
 unfold mQ;have key:∀(ts:List aR) (n:Nat),n<=ts.foldl (λn t=>max n (ji t.1)) n/\∀t∈ts,ji t.1<=ts.foldl (λn t=>max n (ji t.1)) n:=by
  intro ts;induction ts with
  |nil=>intro n;exact⟨Nat.le_refl _,λt h=>by cases h⟩
  | cons x ts ih=>
    intro n;obtain⟨h1,h2⟩:=ih (max n (ji x.1));rw[List.foldl_cons];refine⟨by omega,λt ht=>?_⟩;rcases List.mem_cons.1 ht with rfl|ht
    . omega
    . exact h2 t ht
 exact(key ts 0).2
theorem aaz (V D B N:Nat)(S:List (List Dyadic))(ts:List aR)(hN:cnt V D=N)(hV2:V<=8)(hD:D<=20)(ua:∀d,d<=D->cnt V d<=512)(hS:∀r∈S,∀d∈r,Sm B d)(cd:1<=B)(ht:∀t∈ts,Sm B (aM t.2)/\(t.1.map UInt8.toNat).sum<=D)(k:Nat)(hk:k<=ts.length):
 (eY V D S (fV (ts.take k))).length=N/\∀d∈eY V D S (fV (ts.take k)),Sm (B+20* (B+4608)+k) d:=by
 induction k with
 |zero=>refine⟨by simp[eY,fV,hN],λd hd=>?_⟩;simp only[eY,fV,List.take_zero,List.map_nil,List.foldl_nil]at hd;rw[(List.mem_replicate.1 hd).2];exact Sm.zero _
 | succ k ih=>
   obtain⟨h1,h2⟩:=ih zo;have hk2:k<ts.length:=by omega
   obtain⟨h3,h4⟩:=ht _ (List.getElem_mem hk2);rw[aaA V D S ts k hk2];refine⟨by rw[List.length_zipWith,h1,RB V D S _ _ h4,hN];exact Nat.min_self _,?_⟩;have h5:=aaB (A:=B) (B:=B) (V:=V) (D:=D) h3 hS cd hV2 h4 (λd hd=>ua d zo);have h6:=Nat.mul_le_mul_right (B+4608) hD;have h7:∀d∈gH V D S (aM ts[k].2) (ts[k].1.map UInt8.toNat),Sm (B+20* (B+4608)+k) d:=λd hd=>(h5 d hd).mono zo;exact λd hd=>(agP h2 h7 d hd).mono zo
theorem Oc (V D:Nat)(PV:Int)(hPV:PV=V)(aP:Option Addr)(nT ic:Nat)(ts:List aR)(a:Option Addr)(L cap:Nat)(rows:List (List Raw))(B N:Nat)(d:Int)(hd:d=D)(w:World)(gM:ts.length=nT)(hn:nT<=4096)(pW:At w aP (ts.flatMap aY))(hts:∀t∈ts,Fit B t.2)
 (hL:rows.length=L) (hL4:L<=4) (hcap:L<=cap) (ha:cM w a rows) (hfit:∀r∈rows,∀c∈r,Fit B c) (cd:1<=B) (hB:B<=100000) (hT:aO w) (hD:D<=5) (hc:nY PV ts rows d=0) (hN:cnt V D=N):
 Calls Tryz.prog 11 #[.agg #[ah PV,.slice aP nT ic],.slice a L cap,ah d] w λe w'=>∃bO,e=.returned (.tuple #[.agg #[ah PV,ah d,.slice (some ⟨bO,0,none⟩) N N],ah 0])/\
  At w' (some ⟨bO,0,none⟩) (dC (eY V D (rows.map λr=>r.map aM) (fV ts)))/\Bw w w':=by
 have hc':=hc;unfold nY at hc;by_cases hbad:jg rows=1\/lK PV ts≠0\/PV≠(rows.length:Int)-1\/d<(mQ ts:Int)
 . rw[if_pos hbad]at hc;cases hc
 rw[if_neg hbad]at hc;obtain⟨q1,q2,q3,q4⟩:jg rows≠1/\lK PV ts=0/\PV=(rows.length:Int)-1/\¬d<(mQ ts:Int):=⟨λh=>hbad (.inl h),Classical.byContradiction λh=>hbad (.inr (.inl h)),Classical.byContradiction λh=>hbad (.inr (.inr (.inl h))),λh=>hbad (.inr (.inr (.inr h)))⟩;obtain⟨p1,p2,p3,p4⟩:=Vk q2;have oO:L=V+1:=by omega
 have hv0:mR rows≠0:=by intro h;unfold jg at hc;rw[if_pos h]at hc;cases hc
 obtain⟨r1,r2,r3,r4⟩:=Og rfl hv0;have hV1:1<=V:=by omega
 have hV2:V<=8:=by omega
 have hrow:∀r∈rows,r.length=V:=λr hr=>by have:=r4 r hr;omega
 have ua:∀d,d<=D->cnt V d<=512:=by
  intro e he;have h3:V<=3:=by omega
  have h5:e<=5:=by omega
  have h6:=Rf V e;have h7:(e+1)^V<=6^V:=Nat.pow_le_pow_left zo V;have h8:6^V<=6^3:=Nat.pow_le_pow_right zd h3;omega
 have qi:∀t∈ts,Sm B (aM t.2)/\(t.1.map UInt8.toNat).sum<=D:=λt ht=>⟨(hts t ht).2,by rw[<-ana];have:=ZZ ts t ht;omega⟩;obtain⟨S,hS⟩:=aK (rows.map λr=>r.map aM);have kw:∀r∈S,∀d∈r,Sm B d:=by intro r hr d hd;rw[<-hS]at hr;obtain⟨x,hx,rfl⟩:=List.mem_map.1 hr;obtain⟨y,hy,rfl⟩:=List.mem_map.1 hd;exact(hfit x hx y hy).2
 have yN:=aaz V D B N S ts hN hV2 zo ua kw cd qi;have hft:∀k (hk:k<ts.length),(gH V D S (aM ts[k].2) (ts[k].1.map UInt8.toNat)).length=N/\∀d∈gH V D S (aM ts[k].2) (ts[k].1.map UInt8.toNat),Sm (B+20* (B+4608)) d:=by intro k hk;obtain⟨h3,h4⟩:=qi _ (List.getElem_mem hk);refine⟨by rw[RB V D S _ _ h4,hN],λd hd=>?_⟩;have h5:=aaB (A:=B) (B:=B) (V:=V) (D:=D) h3 kw cd hV2 h4 (λd hd=>ua d zo) d hd;refine h5.mono ?_;have:=Nat.mul_le_mul_right (B+4608) (show D<=20 by omega);omega
 have sB:=λW=>λ(h:cM W a rows) (hT:aO W)=>VP a L cap rows B W hL zo hcap h hfit zo hT;have hpc:=λW=>λ(h:At W aP (ts.flatMap aY)) (hT:aO W)=>NI PV aP ic nT ts W gM zo h (λt ht=>⟨by have:=(p4 t ht).1;omega,(hts t ht).1⟩) hT;have uo:=λW=>λ(h:At W aP (ts.flatMap aY))=>af9 PV aP ic nT ts W gM zo h (λt ht=>⟨by have:=(p4 t ht).1;omega,(p4 t ht).2⟩);have GZ:=λW=>Nu L D W zo zo zo;rw[show L-1=V by omega,hN]at GZ;have wO:N<=512:=by rw[<-hN];exact ua D (Nat.le_refl _)
 rw[show min N 513=N by omega]at GZ;have xh:=λk (hk:k<ts.length) (l:List UInt8) (s:Bool) (m:List UInt8) (e:Int) (hx:ts[k]=(l,s,m,e)) W=>λ(h:cM W a rows) (hT:aO W)=>avF V D L l s m e a cap rows B (aM (s,m,e)) W hV1 hV2 hL oO hrow (by have:=(p4 _ (List.getElem_mem hk)).1;rw[hx]at this;have h9:(l.length:Int)=PV:=this;omega) (by have:=(qi _ (List.getElem_mem hk)).2;rw[hx]at this;exact this) zo ua h hfit (by have:=(hts _ (List.getElem_mem hk)).1;rw[hx]at this;exact this) rfl (by have:=(hts _ (List.getElem_mem hk)).2;rw[hx]at this;exact this) cd hB hT;rw[hS]at xh⊢;rw[hN]at xh;obtain⟨tc,DL⟩:=aK (jg rows);obtain⟨tt,DR⟩:∃tt:Int,(mQ ts:Int)=tt:=⟨_,rfl⟩;rw[DL]at hc sB;rw[DR]at uo q4;rw[q2]at hpc;subst hc;have Ub:IntKind.i64.wrap ((L:Int)-1)=PV:=by rw[IntKind.wrap_i64];omega
 have apk:¬20<d:=by omega
 rw[<-hd]at GZ xh;have hmk:=aeG (N:Int) N rfl zo;have Gp:eY V D S (fV (ts.take 0))=List.replicate N 0:=by rw[<-hN];rfl
 have axH:¬512<(N:Int):=by omega
 obtain⟨Ab,xV,ya,Yh,ajZ,Cx,Cm,lu,HP0,xN,Ha,HT⟩:=gy sB hpc uo GZ xh yN hft hmk Gp pW ha hT;obtain⟨Yi,fx,Hd⟩:=dc gM hPV hd;clear sB hpc uo GZ xh yN hft hmk Gp pW ha hT gM hPV hd kw qi ua hrow r1 r2 r3 r4 hv0 p1 p2 p3 p4 q1 q2 q3 hbad hc' DL DR hS hN hfit hts hL oO;obtain⟨W,dw,Hb,Hp,Hr⟩:=mK w 24 [ah PV,.slice aP nT ic] 34 [ah 0,ah 0,.slice none 0 0];obtain⟨p0,p1⟩:=Hp.out.c2;obtain⟨r0,au,r1,az,r2,aJ⟩:=Hr.out.g3;have eO:Hid (At W aP (ts.flatMap aY)):=xN.out.below Hb.out;have cp:Hid (cM W a rows):=Ha.out.below Hb.out;have bZ:Hid (aO W):=HT.out.below Hb.out;go_enter Tryz.func11,Tryz.ntmps11;go_wp2_with fail;refine(Ab.out _ cp.out bZ.out).mono ?_;rintro e w1 ⟨rfl,ag⟩;clear p0 p1 r0 au r1 az r2 aJ;obtain⟨Hp,p0,p1⟩:=bi Hp ag;obtain⟨Hr,r0,au,r1,az,r2,aJ⟩:=bg Hr ag;replace eO:=kA eO ag;replace cp:=kL cp ag;replace bZ:=kT bZ ag;replace Hb:=aF Hb ag;clear ag;go_wp2_with fail;refine(xV.out _ eO.out bZ.out).mono ?_;rintro e w2 ⟨rfl,ag⟩;clear p0 p1 r0 au r1 az r2 aJ;obtain⟨Hp,p0,p1⟩:=bi Hp ag;obtain⟨Hr,r0,au,r1,az,r2,aJ⟩:=bg Hr ag;replace eO:=kA eO ag;replace cp:=kL cp ag;replace bZ:=kT bZ ag;replace Hb:=aF Hb ag;clear ag;go_wp2_with fail;refine(ya.out _ eO.out).mono ?_;rintro e w3 ⟨rfl,ag⟩;clear p0 p1 r0 au r1 az r2 aJ;obtain⟨Hp,p0,p1⟩:=bi Hp ag;obtain⟨Hr,r0,au,r1,az,r2,aJ⟩:=bg Hr ag;replace eO:=kA eO ag;replace cp:=kL cp ag;replace bZ:=kT bZ ag;replace Hb:=aF Hb ag;clear ag;go_wp2_with fail;refine(Yh.out _).mono ?_;rintro e' w4 ⟨rfl,rfl⟩;go_wp2_with fail;refine(Yh.out _).mono ?_;rintro e' w4 ⟨rfl,rfl⟩;have hmk:=lu.out;obtain⟨w5,xj⟩:∃w5,w5=w4:=⟨_,rfl⟩;subst xj;have lp:=Hp.out.lt;have lr:=Hr.out.lt;have Es:=Hb.out.size;go_wp2_with fail;clear hmk;refine cj (λW5=>aC W5 w5.heap.size 48 (dC (List.replicate N 0))/\Bw w5 W5) ⟨aC.new _ _ _,zl⟩ ?_;rintro W5 ⟨qB,dm⟩;clear p0 p1 r0 au r1 az r2 aJ;replace Hp:=kB Hp dm;replace Hr:=kB Hr dm;replace eO:=kA eO dm;replace cp:=kL cp dm;replace bZ:=kT bZ dm;obtain⟨p0,p1⟩:=Hp.out.c2;obtain⟨r0,au,r1,az,r2,aJ⟩:=Hr.out.g3;replace Hb:=aj (aV Hb.out dm);have lw:aC W5 w5.heap.size 48 (dC (eY V D S (fV (ts.take 0)))):=by rw[HP0.out];exact qB
 have gM:¬(0=w5.heap.size):=by have:=HT.out.lt;omega
 obtain⟨rP,E0,E1,E2,E3⟩:=fU lw Hp.out Hr.out Hb.out bZ.out;have lb5:=qB.lt;have szW:=Hb.out.size;clear lw qB dm Hp Hr Hb bZ cp eO;go_wp2_with fail;clear p0 p1 r0 r1 r2 au az aJ;go_loopw[63] (λx wr=>∃k:Nat,k<=nT/\x=ah (k:Int)/\aC wr w5.heap.size 48 (dC (eY V D S (fV (ts.take k))))/\Chg (λb=>b=w5.heap.size) W5 wr) (λx _=>nT-(intOf x).toNat);case atStart=>exact⟨0,Nat.zero_le _,rfl,rP.out,Chg.refl _ _⟩
 case round=>
  clear rP;obtain⟨k,hk,rfl,pB,pg⟩:=hrel;have bW:=E2.out.trans (pg.below (n:=w.heap.size) zo (λb e=>by omega));by_cases hlt:k<nT
  . have hk2:k<ts.length:=by rw[Yi.out];exact hlt
    obtain⟨l,s,m,e,hx⟩:∃l s m e,ts[k]=(l,s,m,e):=⟨_,_,_,_,rfl⟩;obtain⟨b1,o1,hab,cw⟩:=(xN.out.below bW).term k hk2 hx;have hst:=aaA V D S ts k hk2;have hp1:=Cx.out k zo;have vv:=Cm.out k hk2;have xh:=λW=>ajZ.out k hk2 l s m e hx W;rw[hx]at hst vv;obtain⟨F,hF⟩:=aK (gH V D S (aM (s,m,e)) (l.map UInt8.toNat));simp only at hst vv;rw[hF]at hst vv xh;obtain⟨X,hX⟩:=aK (eY V D S (fV (ts.take k)));rw[hX]at hst hp1 pB;have bK:=im nT ic k (k:Int) hab hlt rfl;obtain⟨gY,gZ,cB,mY,XH,Hte,eP⟩:=lG pB pg hst hp1 vv xh bW;have jH:Hid (bY wr b1 (o1+k*4) [ai l,ar s,ai m,ah e]):=cw;have Iw:=Ha.out.below bW;have mE:=pg.tab E3.out gM;have iu:=pg.size;clear pB pg hst hp1 vv xh bW hX hF hx hab cw;have Hb:Hid (Bw wr wr):=Below.refl _ _;obtain⟨nZ,oc,od,og⟩:=jH.out.w4;have cp:Hid (cM wr a rows):=Iw;have bZ:Hid (aO wr):=mE;have fD:Hid (aC wr (w5.heap.size) 48 (dC X)):=gY.out;clear Iw mE gY;have P0:=nZ;have P1:=oc;have P2:=od;have P3:=og;obtain⟨W6,vr,ag,Ht⟩:=cF wr 67 [ai l,ar s,ai m,ah e];clear nZ oc od og;replace jH:=kW jH ag;replace cp:=kL cp ag;replace bZ:=kT bZ ag;replace fD:=kB fD ag;obtain⟨nZ,oc,od,og⟩:=jH.out.w4;obtain⟨t0,t1,t2,t3⟩:=Ht.out.c4;replace Hb:=aF Hb ag;clear ag;have HWs:Hid (w5.heap.size<W6.heap.size):=by have:=Hb.out.size;show _<_;omega
    go_wp2_with fail;refine(Hte.out _ cp.out bZ.out).mono ?_;rintro e w7 ⟨a',c',rfl,hat',ab5,ag⟩;clear nZ oc od og t0 t1 t2 t3;replace jH:=kW jH ag;replace cp:=kL cp ag;replace bZ:=kT bZ ag;replace fD:=kB fD ag;obtain⟨Ht,t0,t1,t2,t3⟩:=dK Ht ag;obtain⟨nZ,oc,od,og⟩:=jH.out.w4;replace Hb:=aF Hb ag;clear ag;have OI:=aj hat';have hbF:∀b o,a'=some ⟨b,o,none⟩->b≠w5.heap.size:=λb o e=>by have:=ab5 b o e;have:=HWs.out;omega
    have HbF:=aj hbF;have Hg7:Hid (Chg (λb=>b=w5.heap.size) W5 w7):=gZ.out.aBh Hb.out;obtain⟨Ey,HU7⟩:=aZ fD.out bZ.out;clear hat' ab5 hbF fD bZ cp Ht Hb t0 t1 t2 t3 nZ oc od og jH bK;go_wp2_with fail;go_loopw[72] (λx wr=>∃i:Nat,i<=N/\x=ah (i:Int)/\aC wr w5.heap.size 48 (dC (pz X F i))/\Chg (λb=>b=w5.heap.size) w7 wr) (λx _=>N-(intOf x).toNat);case atStart=>exact⟨0,Nat.zero_le _,rfl,by rw[awN];exact Ey.out,Chg.refl _ _⟩
    case round=>
     clear Ey;obtain⟨i,hi,rfl,pB,pg⟩:=hrel;by_cases bM:i<N
     . obtain⟨hx1,hx2⟩:=mY.out;obtain⟨vv,hf2⟩:=XH.out;obtain⟨hz1,hz2⟩:=awK X F N i hx1 vv bM;have hzl:=awL X F N i hx1 vv zo;have iF:i<(F.map canon).length:=by rw[List.length_map,vv];exact bM
       obtain⟨y,hy⟩:=aK (F.getD i 0);have hFi:(F.map canon)[i]=(aI (dN y),nt (dN y).natAbs,dE y):=by
        have:F.getD i 0=F[i]'zo:=by simp[List.getD_eq_getElem?_getD,show i<F.length by omega]
        rw[List.getElem_map,<-this,hy];rfl
       have adP:Sm (B+20* (B+4608)) y:=by rw[<-hy];exact pU hf2 i
       obtain⟨zs,hzs⟩:=aK (pz X F i);obtain⟨zs',hzs'⟩:∃zs,pz X F (i+1)=zs:=⟨_,rfl⟩;have adS:∀x∈zs,Sm (B+20* (B+4608)+4096+1) x:=by rw[<-hzs];exact awM (λx hx=>(hx2 x hx).mono zo) (λx hx=>(hf2 x hx).mono zo)
       rw[hzs]at hz1 hz2 hzl pB;rw[hzs',hy]at hz2;have Uk:i<zs.length:=by omega
       have GL:zs[i]=X.getD i 0:=by rw[List.getElem?_eq_getElem Uk]at hz1;exact Option.some.inj hz1
       obtain⟨D9,AG⟩:=aK (zs[i]+y);rw[<-GL,AG]at hz2;have lS:Hid (Fit (B+20* (B+4608)+4096+1) (aI (dN y),nt (dN y).natAbs,dE y)):=(adP.mono zo).fit zo;have Hdy:Hid (zs[i]+aM (aI (dN y),nt (dN y).natAbs,dE y)=D9):=by show zs[i]+aM (canon y)=D9;rw[cN];exact AG
       have Hzi:Hid (Sm (B+20* (B+4608)+4096+1) zs[i]):=adS _ (List.getElem_mem Uk);obtain⟨b2,o2,jp,n0,n1,n2⟩:=(show At wr a' ((F.map canon).flatMap cz)by rw[<-qX];exact OI.out.chg pg (λb o e=>HbF.out b o e)).num i iF hFi;have ixF:=Ul N c' i (i:Int) jp bM rfl;have mE:=pg.tab HU7.out gM;have gh:Hid (bY wr b2 (o2+i*3) [ar (aI (dN y)),ai (nt (dN y).natAbs),ah (dE y)]):=kX n0 n1 n2;obtain⟨gY,gZ,QC,dh,akn,Hzs⟩:=gP pB pg hzl hz2 hzs' hzs;clear pB pg hx1 hx2 vv hf2 hz1 hz2 hzl hy hFi adP hzs hzs' adS GL AG n0 n1 n2 jp;have Hb:Hid (Bw wr wr):=Below.refl _ _;obtain⟨rI,rJ,rK⟩:=gh.out.w3;have bZ:Hid (aO wr):=mE;have fD:Hid (aC wr (w5.heap.size) 48 (dC zs)):=gY.out;clear mE gY;have P0:=rI;have P1:=rJ;have P2:=rK;obtain⟨W8,Sy,ag,Hu⟩:=cF wr 48 [ar (aI (dN y)),ai (nt (dN y).natAbs),ah (dE y)];clear rI rJ rK;replace gh:=kW gh ag;replace bZ:=kT bZ ag;replace fD:=kB fD ag;obtain⟨rI,rJ,rK⟩:=gh.out.w3;obtain⟨u0,u1,u2⟩:=Hu.out.c3;replace Hb:=aF Hb ag;clear ag;go_wp2_with fail;refine(afM w5.heap.size N i (B+20* (B+4608)+4096+1) zs (aI (dN y)) (nt (dN y).natAbs) (dE y) D9 _ QC.out fD.out Uk lS.out Hzi.out zo Hdy.out bZ.out).mono ?_;rintro e' w9 ⟨⟨rv,rfl⟩,qB,qg⟩;have PZ:=aj qB;have Qa:Hid (Chg (λb=>b=w5.heap.size) w7 w9):=(gZ.out.aBh Hb.out).trans (Chg.aBi qg (λb e=>by cases e;rfl)) (λb h=>.inl h);clear qB qg;go_wp2;go_roundw;case rel=>exact⟨i+1,by omega,by go_num,by rw[akn.out,dh.out];exact PZ.out,Qa.out⟩
       case measure=>simp[intOf];omega
     . obtain rfl:N=i:=by omega
       rw[awJ X F N mY.out.1 XH.out.1,<-cB.out]at pB;obtain⟨gY,ajw⟩:=aZ pB (Hg7.out.trans pg (λb h=>.inl h));clear pB pg;go_wp2;go_roundw;case rel=>exact⟨k+1,by omega,by go_num,gY.out,ajw.out⟩
       case measure=>simp[intOf];omega
  . obtain rfl:nT=k:=by omega
    have hpt:ts.take nT=ts:=List.take_of_length_le (by rw[Yi.out];exact Nat.le_refl _);rw[hpt]at pB;have jy:=pg.blk E0.out zo;have kP:=pg.blk E1.out zo;obtain⟨r0,au,r1,az,r2,aJ⟩:=kP.g3;obtain⟨p0,p1⟩:=jy.c2;obtain⟨gY,jC⟩:=aZ pB bW;clear pB jy kP hpt bW pg;go_wp2;refine bodyPost_ret (v:=.tuple #[.agg #[ah PV,ah d,.slice (some ⟨w5.heap.size,0,none⟩) N N],ah 0]) (by simp[results,Tryz.results11,go_sem,r0,r1,r2]) rfl ⟨w5.heap.size,rfl,At.aBf (t:=48) ?_,?_⟩
    . exact((gY.out.so _ _ zo _).so _ _ zo _).so _ _ zo _
    . exact((jC.out.setCell zp _).setCell zp _).setCell zp _
def Aj (X:Nat->Dyadic)(V D:Nat)(cs:List Dyadic)(k:Nat):Dyadic:=sumTo (λk=>cs.getD k 0*nO X ((cQ (V+1) D).getD k []) (V+1)) k
theorem Zo (X:Nat->Dyadic)(V D N:Nat)(cs:List Dyadic)(hN:cnt V D=N):Aj X V D cs N=mn X V D cs:=by unfold Aj mn mS;rw[sK,hN]
theorem aeH {X:Nat->Dyadic}{B V D:Nat}{x:List Nat}(hx:x∈cQ (V+1) D)(hX:∀k,k<V+1->Sm B (X k))(k:Nat)(hk:k<=V+1):Sm (k* (B*D+1)+1) (nO X x k):=by
 induction k with
 |zero=>exact afL.mono zo
 |succ k ih=>have h1:=aoq x k;rw[((rH V D x).1 hx).2]at h1;have h2:=aff (hX k zo) (x.getD k 0);have h3:B*x.getD k 0<=B*D:=Nat.mul_le_mul_left _ h1;refine(Sm.mul (ih zo) h2).mono ?_;rw[Nat.succ_mul];omega
theorem Zp {X:Nat->Dyadic}{A B V D:Nat}{cs:List Dyadic}(hc:∀c∈cs,Sm A c)(hX:∀k,k<V+1->Sm B (X k))(k:Nat)(hk:k<=cnt V D):Sm (A+(V+1) * (B*D+1)+1+k) (Aj X V D cs k):=by
 induction k with
 |zero=>exact Sm.zero _
 | succ k ih=>
   have hm:(cQ (V+1) D).getD k []∈cQ (V+1) D:=by
    have:k<(cQ (V+1) D).length:=by rw[sK];omega
    rw[show(cQ (V+1) D).getD k []=(cQ (V+1) D)[k]by simp[this]];exact List.getElem_mem _
   exact Sm.add (B:=A+(V+1) * (B*D+1)+1+k) (ih zo) ((Sm.mul (pU hc k) (aeH hm hX (V+1) (Nat.le_refl _))).mono zo)
theorem afC (V D N v1 B:Nat)(aB:Option Addr)(rY:Nat)(cG:List Raw)(aS:Option Addr)(Ak:Nat)(nW:List Raw)(X:Nat->Dyadic)(cs:List Dyadic)(Y:Dyadic)(w:World)(hV:1<=V)(hV2:V<=8)(hv1:V+1=v1)(hD:D<=20)(hN:cnt V D=N)(wO:N<=512)(Io:cG.length=N)(hcs:cG.map aM=cs)(js:∀x∈cG,Fit B x)(hsh:nW.length=v1)(hX:∀k (h:k<nW.length),aM nW[k]=X k)(yG:∀x∈nW,Fit B x)(hB:B<=100000)(Gx:At w aB (cG.flatMap cz))(haS:At w aS (nW.flatMap cz))(hT:aO w)(hY:mn X V D cs=Y):
 Calls Tryz.prog 19 #[.agg #[ah (V:Int),ah (D:Int),.slice aB N rY],.slice aS v1 Ak] w λe w'=>e=.returned (.tuple #[cP Y,ah 0])/\Bw w w':=by
 have eZ:=λW=>ZF (V:Int) (D:Int) aB N rY 0 (by
  unfold FY
  rw[if_neg zo,if_neg (by rw[Int.toNat_natCast,Int.toNat_natCast];omega),if_pos (by rw[Int.toNat_natCast,Int.toNat_natCast];omega)]) W
 have Bd:=λW=>Jm V D N hV hV2 hD hN wO W;have jo:∀k,k<V+1->Sm B (X k):=λk hk=>by rw[<-hX k zo];exact(yG _ (List.getElem_mem _)).2
 have ud:∀c∈cs,Sm B c:=λc hc=>by rw[<-hcs]at hc;obtain⟨x,hx,rfl⟩:=List.mem_map.1 hc;exact(js x hx).2
 have hBD:(V+1) * (B*D+1)<=9* (100000*20+1):=Nat.mul_le_mul zo (by have:=Nat.mul_le_mul hB hD;omega);have MX:=λk (hk:k<=N)=>(Zp (D:=D) ud jo k zo).mono (show _<=20000000 by omega);have vC:∀k,Aj X V D cs (k+1)=Aj X V D cs k+cs.getD k 0*nO X ((cQ (V+1) D).getD k []) (V+1):=λk=>rfl;have hall:=(Zo X V D N cs hN).trans hY;obtain⟨R,hR⟩:=aK (cQ (V+1) D);have jm:R.length=N:=by rw[<-hR,sK,hN]
 have hrow:∀k (h:k<R.length),R[k].length=v1/\(∀a∈R[k],a<=20)/\∀j,j<=v1->Sm 19000000 (nO X R[k] j):=λk h=>by
  have hm:R[k]∈cQ (V+1) D:=by rw[hR];exact List.getElem_mem h
  have h1:=(rH V D _).1 hm;refine⟨by rw[h1.1,hv1],λa ha=>by have:=Nv ha;omega,λj hj=>(aeH hm jo j zo).mono ?_⟩;have:=Nat.mul_le_mul_right (B*D+1) (show j<=V+1 by omega);omega
 have GY:∀x j,nO X x (j+1)=nO X x j*xD (X j) (x.getD j 0):=λx j=>rfl;rw[hR]at Bd;rw[hR,hv1]at vC;obtain⟨mW,PX,Hss,Aa,ov,vR,qV,Hmn,ah8,Qe,zV,uG⟩:=gy eZ Bd MX vC hall jm hrow GY ud Io hcs js;obtain⟨xZ,HX,Hfs,OC,HaS,HT,CB,HB⟩:=rG hsh hX yG Gx haS hT hv1 hB;have h0:Aj X V D cs 0=0:=rfl;have H0:=aj h0;generalize Mh:Aj X V D cs=SS at*;clear eZ Bd MX vC hall jm hrow GY ud Io hcs js hsh hX yG Gx haS hT hY hN hBD jo hR h0 Mh hB;have gM:0<w.heap.size:=HT.out.lt;have hvI:IntKind.i64.wrap ((V:Int)+1)=(v1:Int):=by rw[IntKind.wrap_i64];omega
 have uq:v1<=9:=by omega
 clear hv1;obtain⟨W,dw,Hb,Hf,Hr⟩:=mK w 34 [ah (V:Int),ah (D:Int),.slice aB N rY] 48 [ar false,.string ⟨#[]⟩,ah 0];obtain⟨f0,f1,f2⟩:=Hf.out.c3;obtain⟨r0,au,r1,az,r2,aJ⟩:=Hr.out.g3;go_enter Tryz.func19,Tryz.ntmps19;go_wp2_with fail;refine(mW.out _).mono ?_;rintro e w1 ⟨rfl,ag⟩;clear f0 f1 f2 r0 au r1 az r2 aJ;obtain⟨Hf,f0,f1,f2⟩:=bP Hf ag;obtain⟨Hr,r0,au,r1,az,r2,aJ⟩:=bg Hr ag;replace Hb:=aF Hb ag;clear ag;have FA:=f0;have FB:=f1;have FC:=f2;have azu:=Hf.out.lt;have xq:=Hr.out.lt;obtain⟨W2,nk,ag,dS⟩:=cF w1 48 [ar false,.string ⟨#[]⟩,ah 0];clear f0 f1 f2;replace Hf:=kB Hf ag;clear r0 au r1 az r2 aJ;obtain⟨Hr,r0,au,r1,az,r2,aJ⟩:=bg Hr ag;obtain⟨f0,f1,f2⟩:=Hf.out.c3;obtain⟨iY,kI,iZ,kJ,qE,vk⟩:=dS.out.g3;replace Hb:=aF Hb ag;clear ag;go_wp2_with fail;clear f0 f1 f2 r0 au r1 az r2 aJ iY kI iZ kJ qE vk;first|refine cj (cm W2 (w1.heap.size) 0 [ar false,.string ⟨#[]⟩,ah 0]) cC ?_|refine cu (cm W2 (w1.heap.size) 0 [ar false,.string ⟨#[]⟩,ah 0]) cC ?_
 intro W3 hs;replace Hf:=kS Hf hs zo;replace Hr:=kS Hr hs zo;replace dS:=cX dS hs;obtain⟨f0,f1,f2⟩:=Hf.out.c3;obtain⟨r0,au,r1,az,r2,aJ⟩:=Hr.out.g3;obtain⟨iY,kI,iZ,kJ,qE,vk⟩:=dS.out.g3;replace Hb:=bS Hb hs ZS;clear hs;have ay4:=dS.out.lt;clear FA FB FC;go_wp2_with fail;refine(PX.out _).mono ?_;rintro e w4 ⟨a0,Lg,rfl,ru,GA,ag⟩;clear f0 f1 f2 r0 au r1 az r2 aJ iY kI iZ kJ qE vk;obtain⟨Hf,f0,f1,f2⟩:=bP Hf ag;obtain⟨Hr,r0,au,r1,az,r2,aJ⟩:=bg Hr ag;obtain⟨dS,iY,kI,iZ,kJ,qE,vk⟩:=bg dS ag;replace Hb:=aF Hb ag;clear ag;have Es:=Hb.out.size;have lf:=Hf.out.lt;have lr:=Hr.out.lt;have lsm:=dS.out.lt;have ayD:w.heap.size+1<w1.heap.size:=by assumption
 have xP:=aj ru;have qT:Hid (∀b o,a0=some ⟨b,o,none⟩->¬b=w1.heap.size):=λb o e h=>by have:=GA b o e;omega
 clear ru GA;obtain⟨E0,E1,E2⟩:=dc Hf.out Hr.out Hb.out;have zN:Hid (aC w4 w1.heap.size 48 [ar (aI (dN (SS 0))),ai (nt (dN (SS 0)).natAbs),ah (dE (SS 0))]):=by rw[H0.out];exact dS.out
 clear Hf Hr dS f0 f1 f2 r0 au r1 az r2 aJ iY kI iZ kJ qE vk Hb;go_wp2_with fail;go_loopw[33] (λx wr=>∃k:Nat,k<=N/\x=ah (k:Int)/\aC wr w1.heap.size 48 [ar (aI (dN (SS k))),ai (nt (dN (SS k)).natAbs),ah (dE (SS k))]/\Chg (λb=>b=w1.heap.size) w4 wr) (λx _=>N-(intOf x).toNat);case atStart=>exact⟨0,Nat.zero_le _,rfl,zN.out,Chg.refl _ _⟩
 case round=>
  clear zN;obtain⟨k,hk,rfl,pS,pg⟩:=hrel;obtain⟨wk,hwk⟩:∃wk,wk=wr:=⟨_,rfl⟩;subst hwk;have bW:=E2.out.trans (pg.below (n:=w.heap.size) zo (λb e=>by omega));have Dt:=pg.blk E0.out zo;by_cases hlt:k<N
  . have hk2:k<R.length:=by rw[vR.out];exact hlt
    have kb9:k<cG.length:=by rw[Qe.out];exact hlt
    obtain⟨xk,hxk⟩:∃x,R[k]=x:=⟨_,rfl⟩;obtain⟨hxl,uu,Uh⟩:=qV.out k hk2;have lF:R.getD k []=xk:=by simp[hk2,hxk]
    rw[hxk]at hxl uu Uh;have hat:=xP.out.chg pg (λb o e=>qT.out b o e);have ry:At wk a0 (R.flatMap λx=>[Value.string (bs (x.map UInt8.ofNat))]):=by rw[Gi];exact hat
    obtain⟨b0,o0,hab,yC⟩:=ry.elem (f:=λx=>[Value.string (bs (x.map UInt8.ofNat))]) (sz:=1) (λ_=>rfl) zd k hk2;obtain⟨l8,mC⟩:∃l,xk.map UInt8.ofNat=l:=⟨_,rfl⟩;have hc0:wk.cell? ⟨b0,o0+k,none⟩=some (ai l8):=by have:=yC 0 zd;rw[hxk,mC]at this;simpa using this
    have bK:=xo N Lg k (k:Int) hab hlt rfl;rw[Nat.mul_one]at bK;have yI:l8.length=v1:=by rw[<-mC,List.length_map];exact hxl
    have GF:∀j (h:j<l8.length),l8[j].toNat=xk.getD j 0/\xk.getD j 0<=20:=λj h=>by
     have jx:j<xk.length:=by omega
     have e8:l8[j]=UInt8.ofNat xk[j]:=by
      have:l8[j]?=(xk.map UInt8.ofNat)[j]?:=by rw[mC]
      rw[List.getElem?_eq_getElem h,List.getElem?_eq_getElem (by simpa using jx)]at this;simpa using this
     have h20:=uu _ (List.getElem_mem jx);rw[e8,show xk.getD j 0=xk[j]by simp[jx]];exact⟨by simp;omega,h20⟩
    obtain⟨s,m,e,hx⟩:=rZ (cG[k]);obtain⟨bR,oR,Gz,n0,n1,n2⟩:=(OC.out.below bW).num k kb9 hx;have Uq:=mG N rY k (k:Int) Gz hlt rfl;have vC:=Aa.out k;have GY:=Hmn.out xk;obtain⟨c,hc⟩:=aK (cs.getD k 0);have hcv:aM (s,m,e)=c:=by rw[<-hc,<-zV.out,<-hx];simp[List.getD_eq_getElem?_getD,kb9]
    have hcc:Sm B c:=by rw[<-hc];exact pU ah8.out k
    have hfc:=uG.out _ (List.getElem_mem kb9);rw[hx]at hfc;rw[hc,lF]at vC;generalize yq:nO X xk=MM at*;have Sc:MM 0=1:=by rw[<-yq];rfl
    obtain⟨gZ,Fe,eP,QA,YT,ww,uF,Hs,Hm,Hcv,OQ,Cl⟩:=gy pg pS bW hxl Uh yI GF vC GY hcv hcc hfc;have HM0:=aj Sc;have Hn:Hid (bY wk bR (oR+k*3) [ar s,ai m,ah e]):=kX n0 n1 n2;have JD:=pg.size;clear pg pS bW hxl uu Uh lF hat ry yC mC yI GF n0 n1 n2 Gz vC GY hc hcv hcc hfc hx yq Sc hab hxk;have Hf:Hid (aC wk w.heap.size 34 [ah (V:Int),ah (D:Int),.slice aB N rY]):=Dt;clear Dt;have Hb:Hid (Bw wk wk):=Below.refl _ _;obtain⟨f0,f1,f2⟩:=Hf.out.c3;obtain⟨n0,n1,n2⟩:=Hn.out.w3;have FA:=f0;have FB:=f1;have FC:=f2;have Kn0:=n0;have Kn1:=n1;have Kn2:=n2;have azy:=Hf.out.lt;obtain⟨W5,yt,ag,Hc⟩:=cF wk 48 [ar s,ai m,ah e];clear f0 f1 f2;replace Hf:=kB Hf ag;clear n0 n1 n2;replace Hn:=kW Hn ag;obtain⟨f0,f1,f2⟩:=Hf.out.c3;obtain⟨n0,n1,n2⟩:=Hn.out.w3;obtain⟨c0,c1,c2⟩:=Hc.out.c3;replace Hb:=aF Hb ag;clear ag;obtain⟨cb,W6,hcv,mz,nD,jY⟩:=NT l8 W5;rw[ww.out]at hcv;have lc:=Hc.out.lt;obtain⟨Xv,vT,pD⟩:=dc (Hc.out.below mz) (aV Hb.out mz) jY;clear jY Hc Hb c0 c1 c2 Hf Hn nD mz f0 f1 f2 n0 n1 n2;go_wp2_with fail;clear FA FB FC Kn0 Kn1 Kn2;go_loopw[46] (λx wr=>∃(j:Nat) (s':Bool) (m':List UInt8) (e':Int),j<=v1/\x=ah (j:Int)/\aM (s',m',e')=c*MM j/\Fit 20000000 (s',m',e')/\aC wr wk.heap.size 48 [ar s',ai m',ah e']/\Chg (λb=>b=wk.heap.size) W6 wr) (λx _=>v1-(intOf x).toNat);case atStart=>exact⟨0,s,m,e,Nat.zero_le _,rfl,by rw[HM0.out,Hcv.out];grind,Cl.out.mono (by have:=HB.out;omega),Xv.out,Chg.refl _ _⟩
    case round=>
     clear Xv hcv hc0 bK Uq;obtain⟨j,s',m',e',hj,rfl,hv,hf',pC,pg⟩:=hrel;have hbk:=vT.out.trans (pg.below (n:=wk.heap.size) (by have:=vT.out.size;omega) (λb e=>by omega));have bW:=aV eP.out hbk;by_cases bM:j<v1
     . have jS:j<nW.length:=by rw[xZ.out];exact bM
       have j8:j<l8.length:=by rw[ww.out];exact bM
       obtain⟨s2,m2,e2,hx2⟩:=rZ (nW[j]);obtain⟨bS,oS,abO,n0,n1,n2⟩:=(HaS.out.below bW).num j jS hx2;have ixS:=mG v1 Ak j (j:Int) abO bM rfl;have Mm:=HX.out j jS;have yG:=Hfs.out _ (List.getElem_mem jS);rw[hx2]at Mm yG;obtain⟨hq1,hq2⟩:=uF.out j j8;obtain⟨q,hq⟩:=aK (xk.getD j 0);have MN:=Hm.out j;have DF:=YT.out (j+1) bM;rw[hq]at hq1 hq2 MN;have m0:wr.cell? ⟨W5.heap.size,j,none⟩=some (.int .u8 (q:Int)):=pg.cell (by rw[(pD.out j j8).1,hq1]) (by show ¬W5.heap.size=wk.heap.size;omega);have xp:=sF v1 cb j (j:Int) (rfl:(some ⟨W5.heap.size,0,none⟩:Option Addr)=_) bM rfl;rw[Nat.zero_add,Nat.mul_one]at xp;have hwq:IntKind.i64.wrap (q:Int)=(q:Int):=by rw[IntKind.wrap_i64];omega
       obtain⟨P,hP⟩:=aK (xD (X j) q);have Gs:Sm 20000000 P:=by
        have h1:Sm (B*q+1) P:=by rw[<-hP,<-Mm];exact aff yG.2 q
        have h2:=Nat.mul_le_mul HB.out hq2;exact h1.mono zo
       rw[hP]at MN;obtain⟨G,hG⟩:=aK (c*MM (j+1));have hGm:aM (s',m',e') *aM (aI (dN P),nt (dN P).natAbs,dE P)=G:=by show _*aM (canon P)=G;rw[cN,hv,<-hG,MN];grind
       have hGs:Fit 20000000 (aI (dN G),nt (dN G).natAbs,dE G):=by
        have h1:Sm (B+19000000) G:=by rw[<-hG];exact Sm.mul OQ.out DF
        exact(h1.mono (by have:=HB.out;omega)).fit zo
       have hGv:aM (aI (dN G),nt (dN G).natAbs,dE G)=c*MM (j+1):=by show aM (canon G)=_;rw[cN,hG]
       have hpw:=λW (hT:aO W)=>am8 s2 m2 e2 q (X j) P B Mm hP W yG HB.out zo hT;have fG:=λb W (h:aC W b 48 [ar s',ai m',ah e',ar (aI (dN P)),ai (nt (dN P).natAbs),ah (dE P)]) (hT:aO W)=>Aq s' m' e' (aI (dN P)) (nt (dN P).natAbs) (dE P) G 20000000 hGm b 2 48 W hf' (Gs.fit zo) zo h hT;have pV:=HT.out.below bW;obtain⟨PY,sZ,HGv,HGs,gZ,fN⟩:=gP hpw fG hGv hGs pg pV;have Hn:Hid (bY wr bS (oS+j*3) [ar s2,ai m2,ah e2]):=kX n0 n1 n2;have Hc:Hid (aC wr wk.heap.size 48 [ar s',ai m',ah e']):=pC;have iu:=pg.size;have aAP:=vT.out.size;clear hpw fG hGv hGs hGm pg pV pC hv hf' Mm yG hq1 hq2 MN DF hG hP Gs hx2 abO n0 n1 n2 hbk bW hq;have Hb:Hid (Bw wr wr):=Below.refl _ _;obtain⟨n0,n1,n2⟩:=Hn.out.w3;obtain⟨c0,CZ,c1,Da,c2,Db⟩:=Hc.out.g3;go_wp2_with fail;refine cg (λw'=>aH w' (wk.heap.size) 0 (ar s')/\aH w' (wk.heap.size) 1 (ai m')/\aH w' (wk.heap.size) 2 (ah e')/\aH w' bS (oS+j*3) (ar s2)/\aH w' bS (oS+j*3+1) (ai m2)/\aH w' bS (oS+j*3+2) (ah e2)) (λi=>Nat.blt i 10) [(0,true),(1,true),(2,true),(3,true),(4,true),(5,true),(6,true),(7,false),(8,false),(9,false),(10,false)] zk zk rfl zk zc ⟨c0,c1,c2,n0,n1,n2⟩ ?_;iterate 7 (refine pT rfl rfl ?_ (by intro w' ⟨q0,q1,q2,q3,q4,q5⟩;go_simp;try with_reducible rfl);try simp only[UU])
       refine aW rfl rfl (λK hK=>?_);go_simp;with_reducible refine(PY.out _ (by first|exact(fN.out.below Hb.out) |exact aO.drew (fN.out.below Hb.out) |exact aO.alloc (fN.out.below Hb.out) _|exact aO.drew (aO.alloc (fN.out.below Hb.out) _) |exact aO.alloc (aO.drew (fN.out.below Hb.out)) _)).mono ?_
       rintro e w8 ⟨rfl,hq⟩;have ag:Bw wr w8:=by first|exact hq|exact bo hq
       clear n0 n1 n2 c0 CZ c1 Da c2 Db;replace Hn:=kW Hn ag;obtain⟨Hc,c0,CZ,c1,Da,c2,Db⟩:=bg Hc ag;obtain⟨n0,n1,n2⟩:=Hn.out.w3;replace Hb:=aF Hb ag;clear ag;refine hK _ _ (λ_=>⟨c0,c1,c2,n0,n1,n2⟩) ?_;clear hK K;try simp only[UU]
       refine aW rfl rfl (λK hK=>?_);go_simp;refine hK _ _ (λ_=>⟨aX c0,aX c1,aX c2,aX n0,aX n1,aX n2⟩) ?_;clear hK K;try simp only[UU]
       refine cn (λW9=>aC W9 (w8.heap.size) 48 [ar s',ai m',ah e',ar (aI (dN P)),ai (nt (dN P).natAbs),ah (dE P)]/\Bw w8 W9) (by first|exact dZ|exact ej) ?_;rintro W9 ⟨qd,ag⟩;clear n0 n1 n2 c0 CZ c1 Da c2 Db;have azg:=Hc.out.lt;replace Hn:=kW Hn ag;replace Hc:=kB Hc ag;have Hd:=aj qd;clear qd;obtain⟨n0,n1,n2⟩:=Hn.out.w3;obtain⟨c0,CZ,c1,Da,c2,Db⟩:=Hc.out.g3;obtain⟨d0,d1,d2,d3,d4,d5⟩:=Hd.out.c6;replace Hb:=aF Hb ag;clear ag;refine aW rfl rfl (λK hK=>?_);go_simp;with_reducible refine(sZ.out _ _ Hd.out (by first|exact(fN.out.below Hb.out) |exact aO.drew (fN.out.below Hb.out) |exact aO.alloc (fN.out.below Hb.out) _|exact aO.drew (aO.alloc (fN.out.below Hb.out) _) |exact aO.alloc (aO.drew (fN.out.below Hb.out)) _)).mono ?_
       rintro e fB ⟨rfl,hq⟩;have ag:Bw W9 fB:=by first|exact hq|exact bo hq
       clear n0 n1 n2 c0 CZ c1 Da c2 Db d0 d1 d2 d3 d4 d5;replace Hn:=kW Hn ag;obtain⟨Hc,c0,CZ,c1,Da,c2,Db⟩:=bg Hc ag;obtain⟨Hd,d0,d1,d2,d3,d4,d5⟩:=jO Hd ag;obtain⟨n0,n1,n2⟩:=Hn.out.w3;replace Hb:=aF Hb ag;clear ag;refine hK _ _ (λ_=>⟨c0,c1,c2,n0,n1,n2⟩) ?_;clear hK K;try simp only[UU]
       refine aW rfl rfl (λK hK=>?_);go_simp;refine hK _ _ (by first|exact λh=>absurd h zd|exact λ_=>⟨c0,c1,c2,n0,n1,n2⟩ |exact λ_=>⟨(by first|exact c0|exact aU zf c0|exact aU zf (aU zf c0) |exact aU zf (aU zf (aU zf c0))),(by first|exact c1|exact aU zf c1|exact aU zf (aU zf c1) |exact aU zf (aU zf (aU zf c1))),(by first|exact c2|exact aU zf c2|exact aU zf (aU zf c2) |exact aU zf (aU zf (aU zf c2))),(by first|exact n0|exact aU zf n0|exact aU zf (aU zf n0) |exact aU zf (aU zf (aU zf n0))),(by first|exact n1|exact aU zf n1|exact aU zf (aU zf n1) |exact aU zf (aU zf (aU zf n1))),(by first|exact n2|exact aU zf n2|exact aU zf (aU zf n2) |exact aU zf (aU zf (aU zf n2)))⟩) ?_;clear hK K;try simp only[UU]
       simp only[bD];go_wp2;go_roundw;case rel=>exact⟨j+1,_,_,_,by omega,by go_num,HGv.out,HGs.out,((Hc.out.set 0 _).set 1 _).set 2 _,(((gZ.out.aBh Hb.out).set rfl _).set rfl _).set rfl _⟩
       case measure=>simp[intOf];omega
     . obtain rfl:j=v1:=by omega
       have wP:=(Hss.out k hk).fit (by omega:20000000<=268435456);have hsa:aM (aI (dN (SS k)),nt (dN (SS k)).natAbs,dE (SS k))+aM (s',m',e')=SS (k+1):=by show aM (canon _)+_=_;rw[cN,hv,Hs.out]
       obtain⟨S,hS⟩:=aK (SS k);obtain⟨S',Sr⟩:∃S,SS (k+1)=S:=⟨_,rfl⟩;rw[hS]at wP hsa;rw[Sr]at hsa;have hsm:=Fe.out;rw[hS]at hsm;have had:=λb W (h:aC W b 48 [ar (aI (dN S)),ai (nt (dN S).natAbs),ah (dE S),ar s',ai m',ah e']) (hT:aO W)=>Gb (aI (dN S)) (nt (dN S).natAbs) (dE S) s' m' e' S' 20000000 hsa b 2 48 W wP hf' zo h hT;have pV:=HT.out.below bW;have lsk:=hsm.lt;have dS:Hid (aC wr w1.heap.size 48 [ar (aI (dN S)),ai (nt (dN S).natAbs),ah (dE S)]):=hsm.below hbk;have Hc:Hid (aC wr wk.heap.size 48 [ar s',ai m',ah e']):=pC;obtain⟨qK,fN,HS',sX⟩:=eN had pV Sr hbk;clear had pV hsm pC hv hf' wP hsa hS Sr bW hbk pg uF Fe YT Hs Hm Cl;have Hb:Hid (Bw wr wr):=Below.refl _ _;obtain⟨iY,kI,iZ,kJ,qE,vk⟩:=dS.out.g3;obtain⟨c0,c1,c2⟩:=Hc.out.c3;have bZ:Hid (aO wr):=fN.out;have QE:=iY;have QF:=iZ;have aky:=qE;have Kc0:=c0;have Kc1:=c1;have Kc2:=c2;have arA:=dS.out.lt;have azb:=Hc.out.lt;obtain⟨W12,ao0,ag,Hd⟩:=cF wr 48 [ar (aI (dN S)),ai (nt (dN S).natAbs),ah (dE S),ar s',ai m',ah e'];clear iY kI iZ kJ qE vk;replace dS:=kB dS ag;clear c0 c1 c2;obtain⟨Hc,c0,c1,c2⟩:=bP Hc ag;replace bZ:=kT bZ ag;obtain⟨iY,kI,iZ,kJ,qE,vk⟩:=dS.out.g3;obtain⟨d0,d1,d2,d3,d4,d5⟩:=Hd.out.c6;replace Hb:=aF Hb ag;clear ag;go_wp2_with fail;refine(qK.out _ _ Hd.out bZ.out).mono ?_;rintro e qG ⟨rfl,ag⟩;clear iY kI iZ kJ qE vk c0 c1 c2 d0 d1 d2 d3 d4 d5;obtain⟨dS,iY,kI,iZ,kJ,qE,vk⟩:=bg dS ag;obtain⟨Hc,c0,c1,c2⟩:=bP Hc ag;replace bZ:=kT bZ ag;obtain⟨Hd,d0,d1,d2,d3,d4,d5⟩:=jO Hd ag;replace Hb:=aF Hb ag;clear ag QE QF aky Kc0 Kc1 Kc2;have Ph:Hid (Chg (λb=>b=w1.heap.size) w4 qG):=gZ.out.aBh (aV sX.out Hb.out);go_wp2;go_roundw;case rel=>exact⟨k+1,by omega,by go_num,by rw[HS'.out];exact((dS.out.set 0 _).set 1 _).set 2 _,((Ph.out.set rfl _).set rfl _).set rfl _⟩
       case measure=>simp[intOf];omega
  . obtain rfl:k=N:=by omega
    rw[ov.out]at pS;have dS:Hid (aC wk w1.heap.size 48 [ar (aI (dN Y)),ai (nt (dN Y).natAbs),ah (dE Y)]):=pS;have Hr:Hid (aC wk (w.heap.size+1) 48 [ar false,.string ⟨#[]⟩,ah 0]):=pg.blk E1.out zo;have Hb:Hid (Bw w wk):=bW;clear pS pg bW Dt;obtain⟨iY,iZ,qE⟩:=dS.out.c3;obtain⟨r0,au,r1,az,r2,aJ⟩:=Hr.out.g3;go_wp2;clear iY iZ qE r0 au r1 az r2 aJ;refine fJ (cm wk (w.heap.size+1) 0 [ar (aI (dN Y)),ai (nt (dN Y).natAbs),ah (dE Y)]) cC ?_;intro vM hs;replace dS:=kS dS hs zo;replace Hr:=cX Hr hs;obtain⟨iY,iZ,qE⟩:=dS.out.c3;obtain⟨r0,au,r1,az,r2,aJ⟩:=Hr.out.g3;replace Hb:=bS Hb hs ZS;clear hs;refine bodyPost_ret (v:=.tuple #[cP Y,ah 0]) (by simp[results,Tryz.results19,go_sem,r0,r1,r2]) rfl ⟨rfl,Hb.out⟩
end Go.Proofs.YtnjfebkelecgaaaGreatDoor
