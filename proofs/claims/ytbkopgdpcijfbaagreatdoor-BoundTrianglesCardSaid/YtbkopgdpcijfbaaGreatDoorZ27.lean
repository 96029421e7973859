/- Package simp: To,where it answers an error. -/
import Derived.Test.YtbkopgdpcijfbaaGreatDoorZ7
import Derived.Test.YtbkopgdpcijfbaaGreatDoorZ25
import Derived.Test.YtbkopgdpcijfbaaGreatDoorZ14
import Derived.Test.YtbkopgdpcijfbaaGreatDoorZ21
import Derived.Test.YtbkopgdpcijfbaaGreatDoorZ17
set_option linter.all false
set_option maxRecDepth 100000
set_option maxHeartbeats 16000000
namespace Go.Proofs.YtbkopgdpcijfbaaGreatDoor
open Go.RowKit
attribute [local go_sem ↓] Go.wp_at_zero Go.wp_at_succ
def aAn (rows:List (List Raw)):jy rows=0\/jy rows=1\/jy rows=5:=by
 unfold jy;split
 . exact .inr (.inl rfl)
 . split
   . exact .inr (.inr rfl)
   . exact .inl rfl
noncomputable def vL (PV:Int) (ts:List Trm) (rows:List (List Raw)) (d:Int):Int:=
 if jy rows=1\/mC PV ts≠0\/PV≠(rows.length:Int)-1\/d<(nE ts:Int)then 1 else jy rows
def aAD (PV:Int)(aP:Option Addr)(nT kL:Nat)(ts:List Trm)(a:Option Addr)(L cap:Nat)(rows:List (List Raw))(B:Nat)(d:Int)(w:World)(fO:ts.length=nT)(hn:nT<=1048576)(nX:At w aP (ts.flatMap aY))(hts:∀t∈ts,t.1.length<=9223372036854775807/\Ok t.2)
 (hL:rows.length=L) (hL4:L<=4) (hcap:L<=cap) (ha:bJ w a rows) (hfit:∀r∈rows,∀c∈r,Fit B c) (hB:B<=900000) (hT:aC w) (c:Int) (hd:d<=20\/c=1) (hc:vL PV ts rows d=c) (hc0:c≠0):
 Cv 11 #[.agg #[af PV,.slice aP nT kL],.slice a L cap,af d] w (.tuple #[.agg #[af 0,af 0,.slice none 0 0],af c]):=by
 have vA:=λW=>λ(h:bJ W a rows) (hT:aC W)=>PP a L cap rows B W hL zo hcap h hfit hB hT;have hpc:=λW=>λ(h:At W aP (ts.flatMap aY)) (hT:aC W)=>Pq PV aP kL nT ts W fO hn h hts hT
 have tY:=λ(h0:mC PV ts=0) W=>λ(h:At W aP (ts.flatMap aY))=>Yd PV aP kL nT ts W fO hn h (λt ht=>by
  obtain⟨q1,q2,q3,q4⟩:=Xe h0;obtain⟨q5,q6⟩:=q4 t ht
  exact⟨by omega,q6⟩)
 obtain⟨tc,EN⟩:=aB (jy rows);obtain⟨pc,VA⟩:=aB (mC PV ts);obtain⟨tt,EO⟩:∃tt:Int,(nE ts:Int)=tt:=⟨_,rfl⟩;have hcs:=aAn rows;unfold vL at hc;rw[EN,VA,EO,hL]at hc;rw[EN]at vA hcs;rw[VA]at hpc tY;rw[EO]at tY;obtain⟨xJ,yZ,vX,Bo,Ha,HT⟩:=gU vA hpc tY nX ha hT;clear vA hpc tY nX ha hT EN VA EO hfit hts fO hL;have VV:IntKind.i64.wrap ((L:Int)-1)=(L:Int)-1:=by rw[IntKind.wrap_i64];omega
 obtain⟨L1,kR⟩:∃L1:Int,(L:Int)-1=L1:=⟨_,rfl⟩;rw[kR]at hc;have aEp:IntKind.i64.wrap ((L:Int)-1)=L1:=by rw[VV,kR]
 clear VV kR;obtain⟨W,cE,ae,ak⟩:=lA w 24 [af PV,.slice aP nT kL] 38 [af 0,af 0,.slice none 0 0];have Bj:Hid (At W aP (ts.flatMap aY)):=Bo.out.below ae.1.out;have oO:Hid (bJ W a rows):=Ha.out.below ae.1.out;have eJ:Hid (aC W):=HT.out.below ae.1.out;by_cases h1:tc=1
 . rw[if_pos (.inl h1)]at hc;subst hc h1;go_enter Tryz.func11,Tryz.ntmps11;go_wp2_with fail;refine aJ (Bj.an<|oO.an<|eJ.an ae) (xJ.out _ oO.out eJ.out) λw1 ae ak=>?_;go_wp2;refine dX (aV w1 (w.heap.size+1) 0 [af 0,af 0,.slice none 0 0]) aX ?_;intro w9 hs0;have ae:=bU hs0 ae;simp only[bV,List.set]at ae;have ak:=qC ae;refine bodyPost_ret (v:=.tuple #[.agg #[af 0,af 0,.slice none 0 0],af 1]) (by simp[results,Tryz.results11,go_sem,ak]) rfl ⟨rfl,ae.2.2.2.1.out⟩
 . have h1b:(tc==1)=false:=by simpa using h1
   by_cases h2:pc=0
   . by_cases h3:PV=L1
     . by_cases h4:d<tt
       . rw[if_pos (.inr (.inr (.inr h4)))]at hc;subst hc;have JY:=vX.out h2;have Sa:=aj JY;clear JY vX;subst h2 h3;go_enter Tryz.func11,Tryz.ntmps11;go_wp2_with fail;refine aJ (Bj.an<|oO.an<|eJ.an ae) (xJ.out _ oO.out eJ.out) λw1 ae ak=>?_;go_wp2_with fail;refine aJ ae (yZ.out _ ae.1.out ae.2.2.1.out) λw2 ae ak=>?_;go_wp2_with fail;refine aJ ae (Sa.out _ ae.1.out) λw3 ae ak=>?_;go_wp2;refine dX (aV w3 (w.heap.size+1) 0 [af 0,af 0,.slice none 0 0]) aX ?_;intro w9 hs0;have ae:=bU hs0 ae;simp only[bV,List.set]at ae;have ak:=qC ae;refine bodyPost_ret (v:=.tuple #[.agg #[af 0,af 0,.slice none 0 0],af 1]) (by simp[results,Tryz.results11,go_sem,ak]) rfl ⟨rfl,ae.2.2.2.1.out⟩
       . have hc5:tc=5:=by rw[if_neg (by rintro(h|h|h|h);exact h1 h;exact h h2;exact h h3;exact h4 h)]at hc;omega
         have hcc:c=5:=by rw[if_neg (by rintro(h|h|h|h);exact h1 h;exact h h2;exact h h3;exact h4 h)]at hc;omega
         have atH:¬20<d:=by omega
         clear hc hcs hd;have JY:=vX.out h2;have Sa:=aj JY;clear JY vX;subst hc5 hcc h2 h3;go_enter Tryz.func11,Tryz.ntmps11;go_wp2_with fail;refine aJ (Bj.an<|oO.an<|eJ.an ae) (xJ.out _ oO.out eJ.out) λw1 ae ak=>?_;go_wp2_with fail;refine aJ ae (yZ.out _ ae.1.out ae.2.2.1.out) λw2 ae ak=>?_;go_wp2_with fail;refine aJ ae (Sa.out _ ae.1.out) λw3 ae ak=>?_;go_wp2;refine dX (aV w3 (w.heap.size+1) 0 [af 0,af 0,.slice none 0 0]) aX ?_;intro w9 hs0;have ae:=bU hs0 ae;simp only[bV,List.set]at ae;have ak:=qC ae;refine bodyPost_ret (v:=.tuple #[.agg #[af 0,af 0,.slice none 0 0],af 5]) (by simp[results,Tryz.results11,go_sem,ak]) rfl ⟨rfl,ae.2.2.2.1.out⟩
     . rw[if_pos (.inr (.inr (.inl h3)))]at hc;have h3b:(PV==L1)=false:=by simpa using h3
       subst hc h2;go_enter Tryz.func11,Tryz.ntmps11;go_wp2_with fail;refine aJ (Bj.an<|oO.an<|eJ.an ae) (xJ.out _ oO.out eJ.out) λw1 ae ak=>?_;go_wp2_with fail;refine aJ ae (yZ.out _ ae.1.out ae.2.2.1.out) λw2 ae ak=>?_;go_wp2;refine dX (aV w2 (w.heap.size+1) 0 [af 0,af 0,.slice none 0 0]) aX ?_;intro w9 hs0;have ae:=bU hs0 ae;simp only[bV,List.set]at ae;have ak:=qC ae;refine bodyPost_ret (v:=.tuple #[.agg #[af 0,af 0,.slice none 0 0],af 1]) (by simp[results,Tryz.results11,go_sem,ak]) rfl ⟨rfl,ae.2.2.2.1.out⟩
   . rw[if_pos (.inr (.inl h2))]at hc;have h2b:(pc==0)=false:=by simpa using h2
     subst hc;go_enter Tryz.func11,Tryz.ntmps11;go_wp2_with fail;refine aJ (Bj.an<|oO.an<|eJ.an ae) (xJ.out _ oO.out eJ.out) λw1 ae ak=>?_;go_wp2_with fail;refine aJ ae (yZ.out _ ae.1.out ae.2.2.1.out) λw2 ae ak=>?_;go_wp2;refine dX (aV w2 (w.heap.size+1) 0 [af 0,af 0,.slice none 0 0]) aX ?_;intro w9 hs0;have ae:=bU hs0 ae;simp only[bV,List.set]at ae;have ak:=qC ae;refine bodyPost_ret (v:=.tuple #[.agg #[af 0,af 0,.slice none 0 0],af 1]) (by simp[results,Tryz.results11,go_sem,ak]) rfl ⟨rfl,ae.2.2.2.1.out⟩
def qj (xs ys:List Dyadic)(i:Nat):List Dyadic:=(List.zipWith (·+·) xs ys).take i++xs.drop i
def aBW (xs ys:List Dyadic):qj xs ys 0=xs:=by simp[qj]
def aBS (xs ys:List Dyadic)(N:Nat)(hx:xs.length=N)(hy:ys.length=N):qj xs ys N=List.zipWith (·+·) xs ys:=by unfold qj;rw[List.drop_eq_nil_of_le zo,List.append_nil,List.take_of_length_le (by rw[List.length_zipWith];omega)]
def aBU (xs ys:List Dyadic)(N i:Nat)(hx:xs.length=N)(hy:ys.length=N)(hi:i<=N):(qj xs ys i).length=N:=by unfold qj;rw[List.length_append,List.length_take,List.length_zipWith,List.length_drop];omega
def aBT (xs ys:List Dyadic)(N i:Nat)(hx:xs.length=N)(hy:ys.length=N)(hi:i<N):(qj xs ys i)[i]?=some (xs.getD i 0)/\qj xs ys (i+1)=(qj xs ys i).set i (xs.getD i 0+ys.getD i 0):=by
 have h1:xs.getD i 0=xs[i]'zo:=by simp[List.getD_eq_getElem?_getD,show i<xs.length by omega]
 have h2:ys.getD i 0=ys[i]'zo:=by simp[List.getD_eq_getElem?_getD,show i<ys.length by omega]
 have hl:((List.zipWith (·+·) xs ys).take i).length=i:=by rw[List.length_take,List.length_zipWith];omega
 have e2:(List.zipWith (·+·) xs ys).take (i+1)=(List.zipWith (·+·) xs ys).take i++[xs.getD i 0+ys.getD i 0]:=by rw[List.take_succ_eq_append_getElem (by rw[List.length_zipWith];omega),List.getElem_zipWith,h1,h2]
 have e3:xs.drop i=xs.getD i 0::xs.drop (i+1):=by rw[List.drop_eq_getElem_cons zo,h1]
 unfold qj;constructor
 . rw[e3,List.getElem?_append_right zo,hl];simp
 . rw[e2,e3,List.set_append_right _ _ zo,hl];simp
def aBV {C i:Nat}{xs ys:List Dyadic}(h:∀x∈xs,Sm C x)(h':∀x∈ys,Sm C x):∀x∈qj xs ys i,Sm (C+1) x:=by
 intro x hx;unfold qj at hx;rw[List.mem_append]at hx;rcases hx with hx|hx
 . exact akb h h' x (List.mem_of_mem_take hx)
 . exact(h x (List.mem_of_mem_drop hx)).mono zo
def pY (ts:List Trm):List (Dyadic×List Nat):=ts.map λt=>(au t.2,t.1.map UInt8.toNat)
def acW (V D:Nat)(S:List (List Dyadic))(ts:List Trm)(k:Nat)(hk:k<ts.length):
 pp V D S (pY (ts.take (k+1)))=List.zipWith (·+·) (pp V D S (pY (ts.take k))) (tC V D S (au ts[k].2) (ts[k].1.map UInt8.toNat)):=by
 unfold pp pY;rw[List.take_succ_eq_append_getElem hk,List.map_append,List.foldl_append];rfl
def aqN (l:List UInt8):gN l=(l.map UInt8.toNat).sum:=rfl
def aci (ts:List Trm):∀t∈ts,gN t.1<=nE ts:=by
 unfold nE;have key:∀(ts:List Trm) (n:Nat),n<=ts.foldl (λn t=>max n (gN t.1)) n/\∀t∈ts,gN t.1<=ts.foldl (λn t=>max n (gN t.1)) n:=by
  intro ts;induction ts with
  |nil=>intro n;exact⟨Nat.le_refl _,λt h=>by cases h⟩
  | cons x ts ih=>
    intro n;obtain⟨h1,h2⟩:=ih (max n (gN x.1));rw[List.foldl_cons];refine⟨by omega,λt ht=>?_⟩;rcases List.mem_cons.1 ht with rfl|ht
    . omega
    . exact h2 t ht
 exact(key ts 0).2
def acV (V D B N:Nat)(S:List (List Dyadic))(ts:List Trm)(hN:cnt V D=N)(hV2:V<=8)(hD:D<=20)(rE:∀d,d<=D->cnt V d<=512)(hS:∀r∈S,∀d∈r,Sm B d)(bP:1<=B)(ht:∀t∈ts,Sm B (au t.2)/\(t.1.map UInt8.toNat).sum<=D)(k:Nat)(hk:k<=ts.length):
 (pp V D S (pY (ts.take k))).length=N/\∀d∈pp V D S (pY (ts.take k)),Sm (B+20* (B+4608)+k) d:=by
 induction k with
 |zero=>refine⟨by simp[pp,pY,hN],λd hd=>?_⟩;simp only[pp,pY,List.take_zero,List.map_nil,List.foldl_nil]at hd;rw[(List.mem_replicate.1 hd).2];exact Sm.zero _
 | succ k ih=>
   obtain⟨h1,h2⟩:=ih zo;have hk2:k<ts.length:=by omega
   obtain⟨h3,h4⟩:=ht _ (List.getElem_mem hk2);rw[acW V D S ts k hk2];refine⟨by rw[List.length_zipWith,h1,acX V D S _ _ h4,hN];exact Nat.min_self _,?_⟩;have h5:=acY (A:=B) (B:=B) (V:=V) (D:=D) h3 hS bP hV2 h4 (λd hd=>rE d zo);have h6:=Nat.mul_le_mul_right (B+4608) hD;have h7:∀d∈tC V D S (au ts[k].2) (ts[k].1.map UInt8.toNat),Sm (B+20* (B+4608)+k) d:=λd hd=>(h5 d hd).mono zo;exact λd hd=>(akb h2 h7 d hd).mono zo
def aAC (V D:Nat)(PV:Int)(Er:PV=V)(aP:Option Addr)(nT kL:Nat)(ts:List Trm)(a:Option Addr)(L cap:Nat)(rows:List (List Raw))(B N:Nat)(d:Int)(hd:d=D)(w:World)(fO:ts.length=nT)(hn:nT<=4096)(nX:At w aP (ts.flatMap aY))(hts:∀t∈ts,Fit B t.2)
 (hL:rows.length=L) (hL4:L<=4) (hcap:L<=cap) (ha:bJ w a rows) (hfit:∀r∈rows,∀c∈r,Fit B c) (bP:1<=B) (hB:B<=100000) (hT:aC w) (hD:D<=5) (hc:vL PV ts rows d=0) (hN:cnt V D=N):
 Cl 11 #[.agg #[af PV,.slice aP nT kL],.slice a L cap,af d] w λe w'=>∃bO,w.heap.size<=bO/\e=.returned (.tuple #[.agg #[af PV,af d,.slice (some ⟨bO,0,none⟩) N N],af 0])/\
  ar w' bO 30 (dC (pp V D (rows.map λr=>r.map au) (pY ts)))/\Bw w w':=by
 have hc':=hc;unfold vL at hc;by_cases hbad:jy rows=1\/mC PV ts≠0\/PV≠(rows.length:Int)-1\/d<(nE ts:Int)
 . rw[if_pos hbad]at hc;cases hc
 rw[if_neg hbad]at hc;obtain⟨q1,q2,q3,q4⟩:jy rows≠1/\mC PV ts=0/\PV=(rows.length:Int)-1/\¬d<(nE ts:Int):=⟨λh=>hbad (.inl h),Classical.byContradiction λh=>hbad (.inr (.inl h)),Classical.byContradiction λh=>hbad (.inr (.inr (.inl h))),λh=>hbad (.inr (.inr (.inr h)))⟩;obtain⟨p1,p2,p3,p4⟩:=Xe q2;have kR:L=V+1:=by omega
 have hv0:lF rows≠0:=by intro h;unfold jy at hc;rw[if_pos h]at hc;cases hc
 obtain⟨r1,r2,r3,r4⟩:=FH rfl hv0;have hV1:1<=V:=by omega
 have hV2:V<=8:=by omega
 have hrow:∀r∈rows,r.length=V:=λr hr=>by have:=r4 r hr;omega
 have rE:∀d,d<=D->cnt V d<=512:=by
  intro e he;have h3:V<=3:=by omega
  have h5:e<=5:=by omega
  have h6:=abV V e;have h7:(e+1)^V<=6^V:=Nat.pow_le_pow_left zo V;have h8:6^V<=6^3:=Nat.pow_le_pow_right zd h3;omega
 have wP:∀t∈ts,Sm B (au t.2)/\(t.1.map UInt8.toNat).sum<=D:=λt ht=>⟨(hts t ht).2,by rw[<-aqN];have:=aci ts t ht;omega⟩;obtain⟨S,hS⟩:=aB (rows.map λr=>r.map au);have jW:∀r∈S,∀d∈r,Sm B d:=by intro r hr d hd;rw[<-hS]at hr;obtain⟨x,hx,rfl⟩:=List.mem_map.1 hr;obtain⟨y,hy,rfl⟩:=List.mem_map.1 hd;exact(hfit x hx y hy).2
 have Ap:=acV V D B N S ts hN hV2 zo rE jW bP wP;have hft:∀k (hk:k<ts.length),(tC V D S (au ts[k].2) (ts[k].1.map UInt8.toNat)).length=N/\∀d∈tC V D S (au ts[k].2) (ts[k].1.map UInt8.toNat),Sm (B+20* (B+4608)) d:=by intro k hk;obtain⟨h3,h4⟩:=wP _ (List.getElem_mem hk);refine⟨by rw[acX V D S _ _ h4,hN],λd hd=>?_⟩;have h5:=acY (A:=B) (B:=B) (V:=V) (D:=D) h3 jW bP hV2 h4 (λd hd=>rE d zo) d hd;refine h5.mono ?_;have:=Nat.mul_le_mul_right (B+4608) (show D<=20 by omega);omega
 have vA:=λW=>λ(h:bJ W a rows) (hT:aC W)=>PP a L cap rows B W hL zo hcap h hfit zo hT;have hpc:=λW=>λ(h:At W aP (ts.flatMap aY)) (hT:aC W)=>Pq PV aP kL nT ts W fO zo h (λt ht=>⟨by have:=(p4 t ht).1;omega,(hts t ht).1⟩) hT;have tY:=λW=>λ(h:At W aP (ts.flatMap aY))=>Yd PV aP kL nT ts W fO zo h (λt ht=>⟨by have:=(p4 t ht).1;omega,(p4 t ht).2⟩);have mZ:=λW=>OV L D W zo zo zo;rw[show L-1=V by omega,hN]at mZ;have uV:N<=512:=by rw[<-hN];exact rE D (Nat.le_refl _)
 rw[show min N 513=N by omega]at mZ;have yt:=λk (hk:k<ts.length) (l:List UInt8) (s:Bool) (m:List UInt8) (e:Int) (hx:ts[k]=(l,s,m,e)) W=>λ(h:bJ W a rows) (hT:aC W)=>aAr V D L l s m e a cap rows B (au (s,m,e)) W hV1 hV2 hL kR hrow (by have:=(p4 _ (List.getElem_mem hk)).1;rw[hx]at this;have h9:(l.length:Int)=PV:=this;omega) (by have:=(wP _ (List.getElem_mem hk)).2;rw[hx]at this;exact this) zo rE h hfit (by have:=(hts _ (List.getElem_mem hk)).1;rw[hx]at this;exact this) rfl (by have:=(hts _ (List.getElem_mem hk)).2;rw[hx]at this;exact this) bP hB hT;rw[hS]at yt⊢;rw[hN]at yt;obtain⟨tc,EN⟩:=aB (jy rows);obtain⟨tt,EO⟩:∃tt:Int,(nE ts:Int)=tt:=⟨_,rfl⟩;rw[EN]at hc vA;rw[EO]at tY q4;rw[q2]at hpc;subst hc;have VV:IntKind.i64.wrap ((L:Int)-1)=PV:=by rw[IntKind.wrap_i64];omega
 have atH:¬20<d:=by omega
 rw[<-hd]at mZ yt;have hmk:=ahO (N:Int) N rfl zo;have hP0:pp V D S (pY (ts.take 0))=List.replicate N 0:=by rw[<-hN];rfl
 have aCY:¬512<(N:Int):=by omega
 obtain⟨xJ,yZ,vX,yX,anB,DK,LR,mG,Lq,Bo,Ha,HT⟩:=ie vA hpc tY mZ yt Ap hft hmk hP0 nX ha hT;obtain⟨Bz,td,Hd⟩:=cw fO Er hd;clear vA hpc tY mZ yt Ap hft hmk hP0 nX ha hT fO Er hd jW wP rE hrow r1 r2 r3 r4 hv0 p1 p2 p3 p4 q1 q2 q3 hbad hc' EN EO hS hN hfit hts hL kR;obtain⟨W,cE,ae,ak⟩:=lA w 24 [af PV,.slice aP nT kL] 38 [af 0,af 0,.slice none 0 0];have Bj:Hid (At W aP (ts.flatMap aY)):=Bo.out.below ae.1.out;have oO:Hid (bJ W a rows):=Ha.out.below ae.1.out;have eJ:Hid (aC W):=HT.out.below ae.1.out;go_enter Tryz.func11,Tryz.ntmps11;go_wp2_with fail;refine aJ (Bj.an<|oO.an<|eJ.an ae) (xJ.out _ oO.out eJ.out) λw1 ae ak=>?_;go_wp2_with fail;refine aJ ae (yZ.out _ ae.1.out ae.2.2.1.out) λw2 ae ak=>?_;go_wp2_with fail;refine aJ ae (vX.out _ ae.1.out) λw3 ae ak=>?_;go_wp2_with fail;refine(yX.out _).mono ?_;rintro e' w4 ⟨rfl,rfl⟩;go_wp2_with fail;refine(yX.out _).mono ?_;rintro e' w4 ⟨rfl,rfl⟩;have hmk:=mG.out;obtain⟨w5,cS⟩:∃w5,w5=w4:=⟨_,rfl⟩;subst cS;have lp:=ae.2.2.2.2.1.out.lt;have lr:=ae.2.2.2.2.2.1.out.lt;have XX:=ae.2.2.2.1.out.size;go_wp2_with fail;clear hmk;refine dA (λW5=>ar W5 w5.heap.size 30 (dC (List.replicate N 0))/\Bw w5 W5) ⟨ar.new _ _ _,zl⟩ ?_;rintro W5 ⟨qB,di⟩;obtain⟨ae,ak⟩:=qX di ae;skip
 have gh:ar W5 w5.heap.size 30 (dC (pp V D S (pY (ts.take 0)))):=by rw[Lq.out];exact qB
 have fO:¬(0=w5.heap.size):=by have:=HT.out.lt;omega
 obtain⟨FW,E0,E1,E2,E3⟩:=gT gh ae.2.2.2.2.1.out ae.2.2.2.2.2.1.out ae.2.2.2.1.out ae.2.2.1.out;have lb5:=qB.lt;have XU:=ae.2.2.2.1.out.size;clear gh qB di;go_wp2_with fail;skip
 go_loopw[63] (λx wr=>∃k:Nat,k<=nT/\x=af (k:Int)/\ar wr w5.heap.size 30 (dC (pp V D S (pY (ts.take k))))/\Chg (λb=>b=w5.heap.size) W5 wr) (λx _=>nT-(intOf x).toNat);case atStart=>exact⟨0,Nat.zero_le _,rfl,FW.out,Chg.refl _ _⟩
 case round=>
  clear FW;obtain⟨k,hk,rfl,pB,pg⟩:=hrel;have dY:=E2.out.trans (pg.below (n:=w.heap.size) zo (λb e=>by omega));by_cases hlt:k<nT
  . have hk2:k<ts.length:=by rw[Bz.out];exact hlt
    obtain⟨l,s,m,e,hx⟩:∃l s m e,ts[k]=(l,s,m,e):=⟨_,_,_,_,rfl⟩;obtain⟨b1,o1,hab,eG⟩:=(Bo.out.below dY).term k hk2 hx;have hst:=acW V D S ts k hk2;have hp1:=DK.out k zo;have od:=LR.out k hk2;have yt:=λW=>anB.out k hk2 l s m e hx W;rw[hx]at hst od;obtain⟨F,hF⟩:=aB (tC V D S (au (s,m,e)) (l.map UInt8.toNat));simp only at hst od;rw[hF]at hst od yt;obtain⟨X,hX⟩:=aB (pp V D S (pY (ts.take k)));rw[hX]at hst hp1 pB;have bD:=sI nT kL k (k:Int) hab hlt rfl;obtain⟨kd,nJ,bR,rU,ZN,Hte,fX⟩:=jL pB pg hst hp1 od yt dY;have Ic:Hid (aZ wr b1 (o1+k*4) [ah l,ag s,ah m,af e]):=eG;have EM:=Ha.out.below dY;have ky:=pg.tab E3.out fO;have kD:=pg.size;clear pB pg hst hp1 od yt dY hX hF hx hab eG;have Hb:=hbz wr;obtain⟨ae,ak⟩:=qZ (Ic.an trivial);have oO:Hid (bJ wr a rows):=EM;have eJ:Hid (aC wr):=ky;have ut:Hid (ar wr (w5.heap.size) 30 (dC X)):=kd.out;clear EM ky kd;have Yh:wr.cell? ⟨b1,o1+k*4+2,none⟩=some (ah m):=ae.1.out.cell 2 zm;have Yg:wr.cell? ⟨b1,o1+k*4+1,none⟩=some (ag s):=ae.1.out.cell 1 zm;have Yf:wr.cell? ⟨b1,o1+k*4,none⟩=some (ah l):=ae.1.out.cell 0 zm;have Yi:wr.cell? ⟨b1,o1+k*4+3,none⟩=some (af e):=ae.1.out.cell 3 zm;have P0:=Yf;have P1:=Yg;have P2:=Yh;have P3:=Yi;obtain⟨W6,pu,aR,ae,ak⟩:=bX wr (Hb.an<|oO.an<|eJ.an<|ut.an ae) 90 [ah l,ag s,ah m,af e];have HWs:Hid (w5.heap.size<W6.heap.size):=by have:=ae.2.1.out.size;show _<_;omega
    go_wp2_with fail;refine(Hte.out _ ae.2.2.1.out ae.2.2.2.1.out).mono ?_;rintro e w7 ⟨a',c',rfl,hat',aeu,ai⟩;obtain⟨ae,ak⟩:=qX ai ae;have Qq:=aj hat';have hbF:∀b o,a'=some ⟨b,o,none⟩->b≠w5.heap.size:=λb o e=>by have:=aeu b o e;have:=HWs.out;omega
    have HbF:=aj hbF;have Hg7:Hid (Chg (λb=>b=w5.heap.size) W5 w7):=nJ.out.aGu ae.2.1.out;obtain⟨YN,HU7⟩:=aK ae.2.2.2.2.1.out ae.2.2.2.1.out;clear hat' aeu hbF bD;go_wp2_with fail;go_loopw[72] (λx wr=>∃i:Nat,i<=N/\x=af (i:Int)/\ar wr w5.heap.size 30 (dC (qj X F i))/\Chg (λb=>b=w5.heap.size) w7 wr) (λx _=>N-(intOf x).toNat);case atStart=>exact⟨0,Nat.zero_le _,rfl,by rw[aBW];exact YN.out,Chg.refl _ _⟩
    case round=>
     clear YN;obtain⟨i,hi,rfl,pB,pg⟩:=hrel;by_cases bA:i<N
     . obtain⟨hx1,hx2⟩:=rU.out;obtain⟨od,hf2⟩:=ZN.out;obtain⟨hz1,hz2⟩:=aBT X F N i hx1 od bA;have hzl:=aBU X F N i hx1 od zo;have iF:i<(F.map canon).length:=by rw[List.length_map,od];exact bA
       obtain⟨y,hy⟩:=aB (F.getD i 0);have hFi:(F.map canon)[i]=(bE y):=by
        have:F.getD i 0=F[i]'zo:=by simp[List.getD_eq_getElem?_getD,show i<F.length by omega]
        rw[List.getElem_map,<-this,hy];rfl
       have agR:Sm (B+20* (B+4608)) y:=by rw[<-hy];exact uT hf2 i
       obtain⟨zs,hzs⟩:=aB (qj X F i);obtain⟨zs',hzs'⟩:∃zs,qj X F (i+1)=zs:=⟨_,rfl⟩;have agU:∀x∈zs,Sm (B+20* (B+4608)+4096+1) x:=by rw[<-hzs];exact aBV (λx hx=>(hx2 x hx).mono zo) (λx hx=>(hf2 x hx).mono zo)
       rw[hzs]at hz1 hz2 hzl pB;rw[hzs',hy]at hz2;have Wk:i<zs.length:=by omega
       have Ai:zs[i]=X.getD i 0:=by rw[List.getElem?_eq_getElem Wk]at hz1;exact Option.some.inj hz1
       obtain⟨D9,BZ⟩:=aB (zs[i]+y);rw[<-Ai,BZ]at hz2;have GI:Hid (Fit (B+20* (B+4608)+4096+1) (bE y)):=(agR.mono zo).fit zo;have Hdy:Hid (zs[i]+au (bE y)=D9):=by show zs[i]+au (canon y)=D9;rw[bF];exact BZ
       have Hzi:Hid (Sm (B+20* (B+4608)+4096+1) zs[i]):=agU _ (List.getElem_mem Wk);obtain⟨b2,o2,dG,n0,n1,n2⟩:=(show At wr a' ((F.map canon).flatMap bu)by rw[<-sf];exact Qq.out.chg pg (λb o e=>HbF.out b o e)).num i iF hFi;have ixF:=Wm N c' i (i:Int) dG bA rfl;have ky:=pg.tab HU7.out fO;have qK:Hid (aZ wr b2 (o2+i*3) (bG y)):=kE n0 n1 n2;obtain⟨kd,nJ,Su,dM,an0,Hzs⟩:=gU pB pg hzl hz2 hzs' hzs;clear pB pg hx1 hx2 od hf2 hz1 hz2 hzl hy hFi agR hzs hzs' agU Ai BZ n0 n1 n2 dG;have Hb:=hbz wr;obtain⟨ae,ak⟩:=qZ (qK.an trivial);have eJ:Hid (aC wr):=ky;have ut:Hid (ar wr (w5.heap.size) 30 (dC zs)):=kd.out;clear ky kd;have Fj:wr.cell? ⟨b2,o2+i*3+1,none⟩=some (ah (nt (dN y).natAbs)):=ae.1.out.cell 1 zm;have Fi:wr.cell? ⟨b2,o2+i*3,none⟩=some (ag (az (dN y))):=ae.1.out.cell 0 zm;have Fl:wr.cell? ⟨b2,o2+i*3+2,none⟩=some (af (dE y)):=ae.1.out.cell 2 zm;have P0:=Fi;have P1:=Fj;have P2:=Fl;obtain⟨W8,Ux,aR,ae,ak⟩:=bX wr (Hb.an<|eJ.an<|ut.an ae) 30 (bG y);go_wp2_with fail;refine(ai2 w5.heap.size N i (B+20* (B+4608)+4096+1) zs (az (dN y)) (nt (dN y).natAbs) (dE y) D9 _ Su.out ae.2.2.2.1.out Wk GI.out Hzi.out zo Hdy.out ae.2.2.1.out).mono ?_;rintro e' w9 ⟨⟨rv,rfl⟩,qB,qg⟩;have RI:=aj qB;have RJ:Hid (Chg (λb=>b=w5.heap.size) w7 w9):=(nJ.out.aGu ae.2.1.out).trans (Chg.aGs qg (λb e=>by cases e;rfl)) (λb h=>.inl h);clear qB qg;go_wp2;go_roundw;case rel=>exact⟨i+1,by omega,by go_num,by rw[an0.out,dM.out];exact RI.out,RJ.out⟩
       case measure=>exact bC
     . obtain rfl:N=i:=by omega
       rw[aBS X F N rU.out.1 ZN.out.1,<-bR.out]at pB;obtain⟨kd,am1⟩:=aK pB (Hg7.out.trans pg (λb h=>.inl h));clear pB pg;go_wp2;go_roundw;case rel=>exact⟨k+1,by omega,by go_num,kd.out,am1.out⟩
       case measure=>exact bC
  . obtain rfl:nT=k:=by omega
    have hpt:ts.take nT=ts:=List.take_of_length_le (by rw[Bz.out];exact Nat.le_refl _);rw[hpt]at pB;have hp9:=pg.blk E0.out zo;have gB:=pg.blk E1.out zo;obtain⟨r0,aO,r1,aQ,r2,dQ⟩:=gB.g3;obtain⟨p0,p1⟩:=hp9.c2;obtain⟨kd,je⟩:=aK pB dY;clear pB hp9 gB hpt dY pg;go_wp2;refine bodyPost_ret (v:=.tuple #[.agg #[af PV,af d,.slice (some ⟨w5.heap.size,0,none⟩) N N],af 0]) (by simp[results,Tryz.results11,go_sem,r0,r1,r2]) rfl ⟨w5.heap.size,by omega,rfl,?_,?_⟩
    . exact((kd.out.so _ _ zo _).so _ _ zo _).so _ _ zo _
    . exact((je.out.setCell zp _).setCell zp _).setCell zp _
def aAE (V D:Nat)(PV:Int)(Er:PV=V)(aP:Option Addr)(nT kL:Nat)(ts:List Trm)(a:Option Addr)(L cap:Nat)(rows:List (List Raw))(B N:Nat)(d:Int)(hd:d=D)(w:World)(fO:ts.length=nT)(hn:nT<=4096)(nX:At w aP (ts.flatMap aY))(hts:∀t∈ts,Fit B t.2)
 (hL:rows.length=L) (hL4:L<=4) (hcap:L<=cap) (ha:bJ w a rows) (hfit:∀r∈rows,∀c∈r,Fit B c) (bP:1<=B) (hB:B<=100000) (hT:aC w) (hD:D<=5) (hc:vL PV ts rows d=0) (hN:cnt V D=N):
 Cl 11 #[.agg #[af PV,.slice aP nT kL],.slice a L cap,af d] w λe w'=>∃bO,e=.returned (.tuple #[.agg #[af PV,af d,.slice (some ⟨bO,0,none⟩) N N],af 0])/\
  At w' (some ⟨bO,0,none⟩) (dC (pp V D (rows.map λr=>r.map au) (pY ts)))/\Bw w w':=
 (aAC V D PV Er aP nT kL ts a L cap rows B N d hd w fO hn nX hts hL hL4 hcap ha hfit bP hB hT hD hc hN).mono λ_ _ ⟨b,_,h1,h2,h3⟩=>⟨b,h1,At.aGr h2,h3⟩
end Go.Proofs.YtbkopgdpcijfbaaGreatDoor
