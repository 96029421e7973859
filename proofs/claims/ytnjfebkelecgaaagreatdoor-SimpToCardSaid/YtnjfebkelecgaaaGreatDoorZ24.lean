/- Package simp: To,where it answers an error. -/
import Derived.Test.YtnjfebkelecgaaaGreatDoorZ7
import Derived.Test.YtnjfebkelecgaaaGreatDoorZ23
import Derived.Test.YtnjfebkelecgaaaGreatDoorZ13
import Derived.Test.YtnjfebkelecgaaaGreatDoorZ18
import Derived.Test.YtnjfebkelecgaaaGreatDoorZ12
import Derived.Test.YtnjfebkelecgaaaGreatDoorZ22
set_option linter.all false
set_option maxRecDepth 100000
set_option maxHeartbeats 16000000
namespace Go.Proofs.YtnjfebkelecgaaaGreatDoor
open Go.RowKit
attribute [local go_sem ↓] Go.wp_at_zero Go.wp_at_succ
def OE {V:Int}{ts:List aM}(h:fx V ts=0):0<=V/\V<=12/\ts.length<=4096/\∀t∈ts,(t.1.length:Int)=V/\∀c∈t.1,c.toNat<=127:=by
 unfold fx at h;by_cases h1:0<=V/\V<=12
 . rw[if_neg (λh=>h h1)]at h;by_cases h2:4096<ts.length
   . rw[if_pos h2]at h;cases h
   . rw[if_neg h2]at h;by_cases h3:(List.range ts.length).all (je V ts)=true
     . refine⟨h1.1,h1.2,by omega,λt ht=>?_⟩;obtain⟨k,hk,rfl⟩:=List.mem_iff_getElem.1 ht;rw[List.all_eq_true]at h3;have h4:=h3 k (List.mem_range.2 hk);have e:ts.getD k default=ts[k]:=by simp[List.getD_eq_getElem?_getD,hk]
       unfold je wO at h4;rw[e]at h4;simp only[Bool.and_eq_true]at h4;have h5:=h4.1.1.1;unfold eN at h5;rw[Bool.and_eq_true,List.all_eq_true]at h5;exact⟨of_decide_eq_true h5.2,λc hc=>of_decide_eq_true (h5.1 c hc)⟩
     . rw[if_neg h3]at h;cases h
 . rw[if_pos h1]at h;cases h
def ahv (rows:List (List Raw)):eU rows=0\/eU rows=1\/eU rows=5:=by
 unfold eU;split
 . exact .inr (.inl rfl)
 . split
   . exact .inr (.inr rfl)
   . exact .inl rfl
noncomputable def mF (PV:Int) (ts:List aM) (rows:List (List Raw)) (d:Int):Int:=
 if eU rows=1\/fx PV ts≠0\/PV≠(rows.length:Int)-1\/d<(iq ts:Int)then 1 else eU rows
def axI (PV:Int)(aP:Option Addr)(nT di:Nat)(ts:List aM)(a:Option Addr)(L cap:Nat)(rows:List (List Raw))(B:Nat)(d:Int)(w:World)(dQ:ts.length=nT)(hn:nT<=1048576)(iy:At w aP (ts.flatMap aW))(hts:∀t∈ts,t.1.length<=9223372036854775807/\Ok t.2)
 (hL:rows.length=L) (hL4:L<=4) (hcap:L<=cap) (ha:bQ w a rows) (hfit:∀r∈rows,∀c∈r,Fit B c) (hB:B<=900000) (hT:aR w) (c:Int) (hd:d<=20\/c=1) (hc:mF PV ts rows d=c) (hc0:c≠0):
 Cv 11 #[.agg #[ah PV,.slice aP nT di],.slice a L cap,ah d] w (.tuple #[.agg #[ah 0,ah 0,.slice none 0 0],ah c]):=by
 have nz:=λW=>λ(h:bQ W a rows) (hT:aR W)=>Pg a L cap rows B W hL zo hcap h hfit hB hT;have hpc:=λW=>λ(h:At W aP (ts.flatMap aW)) (hT:aR W)=>JV PV aP di nT ts W dQ hn h hts hT
 have jJ:=λ(h0:fx PV ts=0) W=>λ(h:At W aP (ts.flatMap aW))=>Xl PV aP di nT ts W dQ hn h (λt ht=>by
  obtain⟨q1,q2,q3,q4⟩:=OE h0;obtain⟨q5,q6⟩:=q4 t ht
  exact⟨by omega,q6⟩)
 obtain⟨tc,xn⟩:=aI (eU rows);obtain⟨pc,UQ⟩:=aI (fx PV ts);obtain⟨tt,xq⟩:∃tt:Int,(iq ts:Int)=tt:=⟨_,rfl⟩;have hcs:=ahv rows;unfold mF at hc;rw[xn,UQ,xq,hL]at hc;rw[xn]at nz hcs;rw[UQ]at hpc jJ;rw[xq]at jJ;obtain⟨wD,kL,uU,oJ,Ha,HT⟩:=fw nz hpc jJ iy ha hT;clear nz hpc jJ iy ha hT xn UQ xq hfit hts dQ hL;have Ob:IntKind.i64.wrap ((L:Int)-1)=(L:Int)-1:=by rw[IntKind.wrap_i64];omega
 obtain⟨L1,oX⟩:∃L1:Int,(L:Int)-1=L1:=⟨_,rfl⟩;rw[oX]at hc;have aAD:IntKind.i64.wrap ((L:Int)-1)=L1:=by rw[Ob,oX]
 clear Ob oX;obtain⟨W,cP,ag,aC⟩:=jq w 24 [ah PV,.slice aP nT di] 34 [ah 0,ah 0,.slice none 0 0];have lF:Hid (At W aP (ts.flatMap aW)):=oJ.out.below ag.1.out;have fE:Hid (bQ W a rows):=Ha.out.below ag.1.out;have eG:Hid (aR W):=HT.out.below ag.1.out;by_cases h1:tc=1
 . rw[if_pos (.inl h1)]at hc;subst hc h1;go_enter Tryz.func11,Tryz.ntmps11;go_wp2_with fail;refine aZ (lF.an<|fE.an<|eG.an ag) (wD.out _ fE.out eG.out) λw1 ag aC=>?_;go_wp2;refine eH (bG w1 (w.heap.size+1) 0 [ah 0,ah 0,.slice none 0 0]) bM ?_;intro w9 hs0;have ag:=cH hs0 ag;simp only[cB,List.set]at ag;have aC:=qC ag;refine bodyPost_ret (v:=.tuple #[.agg #[ah 0,ah 0,.slice none 0 0],ah 1]) (by simp[results,Tryz.results11,go_sem,aC]) rfl ⟨rfl,ag.2.2.2.1.out⟩
 . have h1b:(tc==1)=false:=by simpa using h1
   by_cases h2:pc=0
   . by_cases h3:PV=L1
     . by_cases h4:d<tt
       . rw[if_pos (.inr (.inr (.inr h4)))]at hc;subst hc;have xp:=uU.out h2;have Re:=az xp;clear xp uU;subst h2 h3;go_enter Tryz.func11,Tryz.ntmps11;go_wp2_with fail;refine aZ (lF.an<|fE.an<|eG.an ag) (wD.out _ fE.out eG.out) λw1 ag aC=>?_;go_wp2_with fail;refine aZ ag (kL.out _ ag.1.out ag.2.2.1.out) λw2 ag aC=>?_;go_wp2_with fail;refine aZ ag (Re.out _ ag.1.out) λw3 ag aC=>?_;go_wp2;refine eH (bG w3 (w.heap.size+1) 0 [ah 0,ah 0,.slice none 0 0]) bM ?_;intro w9 hs0;have ag:=cH hs0 ag;simp only[cB,List.set]at ag;have aC:=qC ag;refine bodyPost_ret (v:=.tuple #[.agg #[ah 0,ah 0,.slice none 0 0],ah 1]) (by simp[results,Tryz.results11,go_sem,aC]) rfl ⟨rfl,ag.2.2.2.1.out⟩
       . have TQ:tc=5:=by rw[if_neg (by rintro(h|h|h|h);exact h1 h;exact h h2;exact h h3;exact h4 h)]at hc;omega
         have hcc:c=5:=by rw[if_neg (by rintro(h|h|h|h);exact h1 h;exact h h2;exact h h3;exact h4 h)]at hc;omega
         have Nk:¬20<d:=by omega
         clear hc hcs hd;have xp:=uU.out h2;have Re:=az xp;clear xp uU;subst TQ hcc h2 h3;go_enter Tryz.func11,Tryz.ntmps11;go_wp2_with fail;refine aZ (lF.an<|fE.an<|eG.an ag) (wD.out _ fE.out eG.out) λw1 ag aC=>?_;go_wp2_with fail;refine aZ ag (kL.out _ ag.1.out ag.2.2.1.out) λw2 ag aC=>?_;go_wp2_with fail;refine aZ ag (Re.out _ ag.1.out) λw3 ag aC=>?_;go_wp2;refine eH (bG w3 (w.heap.size+1) 0 [ah 0,ah 0,.slice none 0 0]) bM ?_;intro w9 hs0;have ag:=cH hs0 ag;simp only[cB,List.set]at ag;have aC:=qC ag;refine bodyPost_ret (v:=.tuple #[.agg #[ah 0,ah 0,.slice none 0 0],ah 5]) (by simp[results,Tryz.results11,go_sem,aC]) rfl ⟨rfl,ag.2.2.2.1.out⟩
     . rw[if_pos (.inr (.inr (.inl h3)))]at hc;have h3b:(PV==L1)=false:=by simpa using h3
       subst hc h2;go_enter Tryz.func11,Tryz.ntmps11;go_wp2_with fail;refine aZ (lF.an<|fE.an<|eG.an ag) (wD.out _ fE.out eG.out) λw1 ag aC=>?_;go_wp2_with fail;refine aZ ag (kL.out _ ag.1.out ag.2.2.1.out) λw2 ag aC=>?_;go_wp2;refine eH (bG w2 (w.heap.size+1) 0 [ah 0,ah 0,.slice none 0 0]) bM ?_;intro w9 hs0;have ag:=cH hs0 ag;simp only[cB,List.set]at ag;have aC:=qC ag;refine bodyPost_ret (v:=.tuple #[.agg #[ah 0,ah 0,.slice none 0 0],ah 1]) (by simp[results,Tryz.results11,go_sem,aC]) rfl ⟨rfl,ag.2.2.2.1.out⟩
   . rw[if_pos (.inr (.inl h2))]at hc;have h2b:(pc==0)=false:=by simpa using h2
     subst hc;go_enter Tryz.func11,Tryz.ntmps11;go_wp2_with fail;refine aZ (lF.an<|fE.an<|eG.an ag) (wD.out _ fE.out eG.out) λw1 ag aC=>?_;go_wp2_with fail;refine aZ ag (kL.out _ ag.1.out ag.2.2.1.out) λw2 ag aC=>?_;go_wp2;refine eH (bG w2 (w.heap.size+1) 0 [ah 0,ah 0,.slice none 0 0]) bM ?_;intro w9 hs0;have ag:=cH hs0 ag;simp only[cB,List.set]at ag;have aC:=qC ag;refine bodyPost_ret (v:=.tuple #[.agg #[ah 0,ah 0,.slice none 0 0],ah 1]) (by simp[results,Tryz.results11,go_sem,aC]) rfl ⟨rfl,ag.2.2.2.1.out⟩
def pJ (xs ys:List Dyadic)(i:Nat):List Dyadic:=(List.zipWith (·+·) xs ys).take i++xs.drop i
def ayJ (xs ys:List Dyadic):pJ xs ys 0=xs:=by simp[pJ]
def ayF (xs ys:List Dyadic)(N:Nat)(hx:xs.length=N)(hy:ys.length=N):pJ xs ys N=List.zipWith (·+·) xs ys:=by unfold pJ;rw[List.drop_eq_nil_of_le zo,List.append_nil,List.take_of_length_le (by rw[List.length_zipWith];omega)]
def ayH (xs ys:List Dyadic)(N i:Nat)(hx:xs.length=N)(hy:ys.length=N)(hi:i<=N):(pJ xs ys i).length=N:=by unfold pJ;rw[List.length_append,List.length_take,List.length_zipWith,List.length_drop];omega
def ayG (xs ys:List Dyadic)(N i:Nat)(hx:xs.length=N)(hy:ys.length=N)(hi:i<N):(pJ xs ys i)[i]?=some (xs.getD i 0)/\pJ xs ys (i+1)=(pJ xs ys i).set i (xs.getD i 0+ys.getD i 0):=by
 have h1:xs.getD i 0=xs[i]'zo:=by simp[List.getD_eq_getElem?_getD,show i<xs.length by omega]
 have h2:ys.getD i 0=ys[i]'zo:=by simp[List.getD_eq_getElem?_getD,show i<ys.length by omega]
 have hl:((List.zipWith (·+·) xs ys).take i).length=i:=by rw[List.length_take,List.length_zipWith];omega
 have e2:(List.zipWith (·+·) xs ys).take (i+1)=(List.zipWith (·+·) xs ys).take i++[xs.getD i 0+ys.getD i 0]:=by rw[List.take_succ_eq_append_getElem (by rw[List.length_zipWith];omega),List.getElem_zipWith,h1,h2]
 have e3:xs.drop i=xs.getD i 0::xs.drop (i+1):=by rw[List.drop_eq_getElem_cons zo,h1]
 unfold pJ;constructor
 . rw[e3,List.getElem?_append_right zo,hl];simp
 . rw[e2,e3,List.set_append_right _ _ zo,hl];simp
def ayI {C i:Nat}{xs ys:List Dyadic}(h:∀x∈xs,Sm C x)(h':∀x∈ys,Sm C x):∀x∈pJ xs ys i,Sm (C+1) x:=by
 intro x hx;unfold pJ at hx;rw[List.mem_append]at hx;rcases hx with hx|hx
 . exact aif h h' x (List.mem_of_mem_take hx)
 . exact(h x (List.mem_of_mem_drop hx)).mono zo
def fR (ts:List aM):List (Dyadic×List Nat):=ts.map λt=>(aJ t.2,t.1.map UInt8.toNat)
def SL (V D:Nat)(S:List (List Dyadic))(ts:List aM)(k:Nat)(hk:k<ts.length):
 fD V D S (fR (ts.take (k+1)))=List.zipWith (·+·) (fD V D S (fR (ts.take k))) (kz V D S (aJ ts[k].2) (ts[k].1.map UInt8.toNat)):=by
 unfold fD fR;rw[List.take_succ_eq_append_getElem hk,List.map_append,List.foldl_append];rfl
def aoM (l:List UInt8):iu l=(l.map UInt8.toNat).sum:=rfl
def aba (ts:List aM):∀t∈ts,iu t.1<=iq ts:=by
 unfold iq;have key:∀(ts:List aM) (n:Nat),n<=ts.foldl (λn t=>max n (iu t.1)) n/\∀t∈ts,iu t.1<=ts.foldl (λn t=>max n (iu t.1)) n:=by
  intro ts;induction ts with
  |nil=>intro n;exact⟨Nat.le_refl _,λt h=>by cases h⟩
  | cons x ts ih=>
    intro n;obtain⟨h1,h2⟩:=ih (max n (iu x.1));rw[List.foldl_cons];refine⟨by omega,λt ht=>?_⟩;rcases List.mem_cons.1 ht with rfl|ht
    . omega
    . exact h2 t ht
 exact(key ts 0).2
def apQ (V D B N:Nat)(S:List (List Dyadic))(ts:List aM)(hN:cnt V D=N)(hV2:V<=8)(hD:D<=20)(ue:∀d,d<=D->cnt V d<=512)(hS:∀r∈S,∀d∈r,Sm B d)(bX:1<=B)(ht:∀t∈ts,Sm B (aJ t.2)/\(t.1.map UInt8.toNat).sum<=D)(k:Nat)(hk:k<=ts.length):
 (fD V D S (fR (ts.take k))).length=N/\∀d∈fD V D S (fR (ts.take k)),Sm (B+20* (B+4608)+k) d:=by
 induction k with
 |zero=>refine⟨by simp[fD,fR,hN],λd hd=>?_⟩;simp only[fD,fR,List.take_zero,List.map_nil,List.foldl_nil]at hd;rw[(List.mem_replicate.1 hd).2];exact Sm.zero _
 | succ k ih=>
   obtain⟨h1,h2⟩:=ih zo;have hk2:k<ts.length:=by omega
   obtain⟨h3,h4⟩:=ht _ (List.getElem_mem hk2);rw[SL V D S ts k hk2];refine⟨by rw[List.length_zipWith,h1,SN V D S _ _ h4,hN];exact Nat.min_self _,?_⟩;have h5:=abF (A:=B) (B:=B) (V:=V) (D:=D) h3 hS bX hV2 h4 (λd hd=>ue d zo);have h6:=Nat.mul_le_mul_right (B+4608) hD;have h7:∀d∈kz V D S (aJ ts[k].2) (ts[k].1.map UInt8.toNat),Sm (B+20* (B+4608)+k) d:=λd hd=>(h5 d hd).mono zo;exact λd hd=>(aif h2 h7 d hd).mono zo
def ahC (V D:Nat)(PV:Int)(DJ:PV=V)(aP:Option Addr)(nT di:Nat)(ts:List aM)(a:Option Addr)(L cap:Nat)(rows:List (List Raw))(B N:Nat)(d:Int)(hd:d=D)(w:World)(dQ:ts.length=nT)(hn:nT<=4096)(iy:At w aP (ts.flatMap aW))(hts:∀t∈ts,Fit B t.2)
 (hL:rows.length=L) (hL4:L<=4) (hcap:L<=cap) (ha:bQ w a rows) (hfit:∀r∈rows,∀c∈r,Fit B c) (bX:1<=B) (hB:B<=100000) (hT:aR w) (hD:D<=5) (hc:mF PV ts rows d=0) (hN:cnt V D=N):
 Cl 11 #[.agg #[ah PV,.slice aP nT di],.slice a L cap,ah d] w λe w'=>∃bO,w.heap.size<=bO/\e=.returned (.tuple #[.agg #[ah PV,ah d,.slice (some ⟨bO,0,none⟩) N N],ah 0])/\
  aH w' bO 48 (dC (fD V D (rows.map λr=>r.map aJ) (fR ts)))/\Bw w w':=by
 have hc':=hc;unfold mF at hc;by_cases hbad:eU rows=1\/fx PV ts≠0\/PV≠(rows.length:Int)-1\/d<(iq ts:Int)
 . rw[if_pos hbad]at hc;cases hc
 rw[if_neg hbad]at hc;obtain⟨q1,q2,q3,q4⟩:eU rows≠1/\fx PV ts=0/\PV=(rows.length:Int)-1/\¬d<(iq ts:Int):=⟨λh=>hbad (.inl h),Classical.byContradiction λh=>hbad (.inr (.inl h)),Classical.byContradiction λh=>hbad (.inr (.inr (.inl h))),λh=>hbad (.inr (.inr (.inr h)))⟩;obtain⟨p1,p2,p3,p4⟩:=OE q2;have oX:L=V+1:=by omega
 have hv0:gA rows≠0:=by intro h;unfold eU at hc;rw[if_pos h]at hc;cases hc
 obtain⟨r1,r2,r3,r4⟩:=EM rfl hv0;have hV1:1<=V:=by omega
 have hV2:V<=8:=by omega
 have hrow:∀r∈rows,r.length=V:=λr hr=>by have:=r4 r hr;omega
 have ue:∀d,d<=D->cnt V d<=512:=by
  intro e he;have h3:V<=3:=by omega
  have h5:e<=5:=by omega
  have h6:=Mh V e;have h7:(e+1)^V<=6^V:=Nat.pow_le_pow_left zo V;have h8:6^V<=6^3:=Nat.pow_le_pow_right zd h3;omega
 have qI:∀t∈ts,Sm B (aJ t.2)/\(t.1.map UInt8.toNat).sum<=D:=λt ht=>⟨(hts t ht).2,by rw[<-aoM];have:=aba ts t ht;omega⟩;obtain⟨S,hS⟩:=aI (rows.map λr=>r.map aJ);have kC:∀r∈S,∀d∈r,Sm B d:=by intro r hr d hd;rw[<-hS]at hr;obtain⟨x,hx,rfl⟩:=List.mem_map.1 hr;obtain⟨y,hy,rfl⟩:=List.mem_map.1 hd;exact(hfit x hx y hy).2
 have zD:=apQ V D B N S ts hN hV2 zo ue kC bX qI;have hft:∀k (hk:k<ts.length),(kz V D S (aJ ts[k].2) (ts[k].1.map UInt8.toNat)).length=N/\∀d∈kz V D S (aJ ts[k].2) (ts[k].1.map UInt8.toNat),Sm (B+20* (B+4608)) d:=by intro k hk;obtain⟨h3,h4⟩:=qI _ (List.getElem_mem hk);refine⟨by rw[SN V D S _ _ h4,hN],λd hd=>?_⟩;have h5:=abF (A:=B) (B:=B) (V:=V) (D:=D) h3 kC bX hV2 h4 (λd hd=>ue d zo) d hd;refine h5.mono ?_;have:=Nat.mul_le_mul_right (B+4608) (show D<=20 by omega);omega
 have nz:=λW=>λ(h:bQ W a rows) (hT:aR W)=>Pg a L cap rows B W hL zo hcap h hfit zo hT;have hpc:=λW=>λ(h:At W aP (ts.flatMap aW)) (hT:aR W)=>JV PV aP di nT ts W dQ zo h (λt ht=>⟨by have:=(p4 t ht).1;omega,(hts t ht).1⟩) hT;have jJ:=λW=>λ(h:At W aP (ts.flatMap aW))=>Xl PV aP di nT ts W dQ zo h (λt ht=>⟨by have:=(p4 t ht).1;omega,(p4 t ht).2⟩);have IY:=λW=>Oo L D W zo zo zo;rw[show L-1=V by omega,hN]at IY;have wR:N<=512:=by rw[<-hN];exact ue D (Nat.le_refl _)
 rw[show min N 513=N by omega]at IY;have xo:=λk (hk:k<ts.length) (l:List UInt8) (s:Bool) (m:List UInt8) (e:Int) (hx:ts[k]=(l,s,m,e)) W=>λ(h:bQ W a rows) (hT:aR W)=>axB V D L l s m e a cap rows B (aJ (s,m,e)) W hV1 hV2 hL oX hrow (by have:=(p4 _ (List.getElem_mem hk)).1;rw[hx]at this;have h9:(l.length:Int)=PV:=this;omega) (by have:=(qI _ (List.getElem_mem hk)).2;rw[hx]at this;exact this) zo ue h hfit (by have:=(hts _ (List.getElem_mem hk)).1;rw[hx]at this;exact this) rfl (by have:=(hts _ (List.getElem_mem hk)).2;rw[hx]at this;exact this) bX hB hT;rw[hS]at xo⊢;rw[hN]at xo;obtain⟨tc,xn⟩:=aI (eU rows);obtain⟨tt,xq⟩:∃tt:Int,(iq ts:Int)=tt:=⟨_,rfl⟩;rw[xn]at hc nz;rw[xq]at jJ q4;rw[q2]at hpc;subst hc;have Ob:IntKind.i64.wrap ((L:Int)-1)=PV:=by rw[IntKind.wrap_i64];omega
 have Nk:¬20<d:=by omega
 rw[<-hd]at IY xo;have hmk:=afX (N:Int) N rfl zo;have HJ:fD V D S (fR (ts.take 0))=List.replicate N 0:=by rw[<-hN];rfl
 have azD:¬512<(N:Int):=by omega
 obtain⟨wD,kL,uU,Zw,alN,Da,CR,lK,HP0,oJ,Ha,HT⟩:=fu nz hpc jJ IY xo zD hft hmk HJ iy ha hT;obtain⟨FK,gF,Hd⟩:=cE dQ DJ hd;clear nz hpc jJ IY xo zD hft hmk HJ iy ha hT dQ DJ hd kC qI ue hrow r1 r2 r3 r4 hv0 p1 p2 p3 p4 q1 q2 q3 hbad hc' xn xq hS hN hfit hts hL oX;obtain⟨W,cP,ag,aC⟩:=jq w 24 [ah PV,.slice aP nT di] 34 [ah 0,ah 0,.slice none 0 0];have lF:Hid (At W aP (ts.flatMap aW)):=oJ.out.below ag.1.out;have fE:Hid (bQ W a rows):=Ha.out.below ag.1.out;have eG:Hid (aR W):=HT.out.below ag.1.out;go_enter Tryz.func11,Tryz.ntmps11;go_wp2_with fail;refine aZ (lF.an<|fE.an<|eG.an ag) (wD.out _ fE.out eG.out) λw1 ag aC=>?_;go_wp2_with fail;refine aZ ag (kL.out _ ag.1.out ag.2.2.1.out) λw2 ag aC=>?_;go_wp2_with fail;refine aZ ag (uU.out _ ag.1.out) λw3 ag aC=>?_;go_wp2_with fail;refine(Zw.out _).mono ?_;rintro e' w4 ⟨rfl,rfl⟩;go_wp2_with fail;refine(Zw.out _).mono ?_;rintro e' w4 ⟨rfl,rfl⟩;have hmk:=lK.out;obtain⟨w5,xt⟩:∃w5,w5=w4:=⟨_,rfl⟩;subst xt;have lp:=ag.2.2.2.2.1.out.lt;have lr:=ag.2.2.2.2.2.1.out.lt;have xR:=ag.2.2.2.1.out.size;go_wp2_with fail;clear hmk;refine eO (λW5=>aH W5 w5.heap.size 48 (dC (List.replicate N 0))/\Bw w5 W5) ⟨aH.new _ _ _,zl⟩ ?_;rintro W5 ⟨qB,dK⟩;obtain⟨ag,aC⟩:=qX dK ag;skip
 have lW:aH W5 w5.heap.size 48 (dC (fD V D S (fR (ts.take 0)))):=by rw[HP0.out];exact qB
 have dQ:¬(0=w5.heap.size):=by have:=HT.out.lt;omega
 obtain⟨uJ,E0,E1,E2,E3⟩:=fH lW ag.2.2.2.2.1.out ag.2.2.2.2.2.1.out ag.2.2.2.1.out ag.2.2.1.out;have lb5:=qB.lt;have Pe:=ag.2.2.2.1.out.size;clear lW qB dK;go_wp2_with fail;skip
 go_loopw[63] (λx wr=>∃k:Nat,k<=nT/\x=ah (k:Int)/\aH wr w5.heap.size 48 (dC (fD V D S (fR (ts.take k))))/\Chg (λb=>b=w5.heap.size) W5 wr) (λx _=>nT-(intOf x).toNat);case atStart=>exact⟨0,Nat.zero_le _,rfl,uJ.out,Chg.refl _ _⟩
 case round=>
  clear uJ;obtain⟨k,hk,rfl,pB,pg⟩:=hrel;have bE:=E2.out.trans (pg.below (n:=w.heap.size) zo (λb e=>by omega));by_cases hlt:k<nT
  . have hk2:k<ts.length:=by rw[FK.out];exact hlt
    obtain⟨l,s,m,e,hx⟩:∃l s m e,ts[k]=(l,s,m,e):=⟨_,_,_,_,rfl⟩;obtain⟨b1,o1,hab,cn⟩:=(oJ.out.below bE).term k hk2 hx;have hst:=SL V D S ts k hk2;have hp1:=Da.out k zo;have vB:=CR.out k hk2;have xo:=λW=>alN.out k hk2 l s m e hx W;rw[hx]at hst vB;obtain⟨F,hF⟩:=aI (kz V D S (aJ (s,m,e)) (l.map UInt8.toNat));simp only at hst vB;rw[hF]at hst vB xo;obtain⟨X,hX⟩:=aI (fD V D S (fR (ts.take k)));rw[hX]at hst hp1 pB;have bC:=gQ nT di k (k:Int) hab hlt rfl;obtain⟨eQ,gV,cu,kK,YN,Hte,dO⟩:=kH pB pg hst hp1 vB xo bE;have jy:Hid (bA wr b1 (o1+k*4) [ai l,aj s,ai m,ah e]):=cn;have Jt:=Ha.out.below bE;have kE:=pg.tab E3.out dQ;have fQ:=pg.size;clear pB pg hst hp1 vB xo bE hX hF hx hab cn;have Hb:=hbz wr;obtain⟨ag,aC⟩:=qZ (jy.an trivial);have fE:Hid (bQ wr a rows):=Jt;have eG:Hid (aR wr):=kE;have sW:Hid (aH wr (w5.heap.size) 48 (dC X)):=eQ.out;clear Jt kE eQ;have xW:wr.cell? ⟨b1,o1+k*4+3,none⟩=some (ah e):=ag.1.out.cell 3 zm;have xV:wr.cell? ⟨b1,o1+k*4+2,none⟩=some (ai m):=ag.1.out.cell 2 zm;have xS:wr.cell? ⟨b1,o1+k*4,none⟩=some (ai l):=ag.1.out.cell 0 zm;have xU:wr.cell? ⟨b1,o1+k*4+1,none⟩=some (aj s):=ag.1.out.cell 1 zm;have P0:=xS;have P1:=xU;have P2:=xV;have P3:=xW;obtain⟨W6,tZ,bi,ag,aC⟩:=cM wr (Hb.an<|fE.an<|eG.an<|sW.an ag) 67 [ai l,aj s,ai m,ah e];have HWs:Hid (w5.heap.size<W6.heap.size):=by have:=ag.2.1.out.size;show _<_;omega
    go_wp2_with fail;refine(Hte.out _ ag.2.2.1.out ag.2.2.2.1.out).mono ?_;rintro e w7 ⟨a',c',rfl,hat',adg,au⟩;obtain⟨ag,aC⟩:=qX au ag;have Fe:=az hat';have hbF:∀b o,a'=some ⟨b,o,none⟩->b≠w5.heap.size:=λb o e=>by have:=adg b o e;have:=HWs.out;omega
    have HbF:=az hbF;have Hg7:Hid (Chg (λb=>b=w5.heap.size) W5 w7):=gV.out.aCk ag.2.1.out;obtain⟨Aj,HU7⟩:=aU ag.2.2.2.2.1.out ag.2.2.2.1.out;clear hat' adg hbF bC;go_wp2_with fail;go_loopw[72] (λx wr=>∃i:Nat,i<=N/\x=ah (i:Int)/\aH wr w5.heap.size 48 (dC (pJ X F i))/\Chg (λb=>b=w5.heap.size) w7 wr) (λx _=>N-(intOf x).toNat);case atStart=>exact⟨0,Nat.zero_le _,rfl,by rw[ayJ];exact Aj.out,Chg.refl _ _⟩
    case round=>
     clear Aj;obtain⟨i,hi,rfl,pB,pg⟩:=hrel;by_cases bj:i<N
     . obtain⟨hx1,hx2⟩:=kK.out;obtain⟨vB,hf2⟩:=YN.out;obtain⟨hz1,hz2⟩:=ayG X F N i hx1 vB bj;have hzl:=ayH X F N i hx1 vB zo;have iF:i<(F.map canon).length:=by rw[List.length_map,vB];exact bj
       obtain⟨y,hy⟩:=aI (F.getD i 0);have hFi:(F.map canon)[i]=(jP y):=by
        have:F.getD i 0=F[i]'zo:=by simp[List.getD_eq_getElem?_getD,show i<F.length by omega]
        rw[List.getElem_map,<-this,hy];rfl
       have ae7:Sm (B+20* (B+4608)) y:=by rw[<-hy];exact sA hf2 i
       obtain⟨zs,hzs⟩:=aI (pJ X F i);obtain⟨zs',hzs'⟩:∃zs,pJ X F (i+1)=zs:=⟨_,rfl⟩;have afb:∀x∈zs,Sm (B+20* (B+4608)+4096+1) x:=by rw[<-hzs];exact ayI (λx hx=>(hx2 x hx).mono zo) (λx hx=>(hf2 x hx).mono zo)
       rw[hzs]at hz1 hz2 hzl pB;rw[hzs',hy]at hz2;have Vs:i<zs.length:=by omega
       have II:zs[i]=X.getD i 0:=by rw[List.getElem?_eq_getElem Vs]at hz1;exact Option.some.inj hz1
       obtain⟨D9,yJ⟩:=aI (zs[i]+y);rw[<-II,yJ]at hz2;have mL:Hid (Fit (B+20* (B+4608)+4096+1) (jP y)):=(ae7.mono zo).fit zo;have Hdy:Hid (zs[i]+aJ (jP y)=D9):=by show zs[i]+aJ (canon y)=D9;rw[cJ];exact yJ
       have Hzi:Hid (Sm (B+20* (B+4608)+4096+1) zs[i]):=afb _ (List.getElem_mem Vs);obtain⟨b2,o2,gj,n0,n1,n2⟩:=(show At wr a' ((F.map canon).flatMap bK)by rw[<-sk];exact Fe.out.chg pg (λb o e=>HbF.out b o e)).num i iF hFi;have ixF:=Vt N c' i (i:Int) gj bj rfl;have kE:=pg.tab HU7.out dQ;have pU:Hid (bA wr b2 (o2+i*3) (bY y)):=iR n0 n1 n2;obtain⟨eQ,gV,Rt,cC,amc,Hzs⟩:=fw pB pg hzl hz2 hzs' hzs;clear pB pg hx1 hx2 vB hf2 hz1 hz2 hzl hy hFi ae7 hzs hzs' afb II yJ n0 n1 n2 gj;have Hb:=hbz wr;obtain⟨ag,aC⟩:=qZ (pU.an trivial);have eG:Hid (aR wr):=kE;have sW:Hid (aH wr (w5.heap.size) 48 (dC zs)):=eQ.out;clear kE eQ;have Et:wr.cell? ⟨b2,o2+i*3+1,none⟩=some (ai (nt (dN y).natAbs)):=ag.1.out.cell 1 zm;have Es:wr.cell? ⟨b2,o2+i*3,none⟩=some (aj (aK (dN y))):=ag.1.out.cell 0 zm;have Eu:wr.cell? ⟨b2,o2+i*3+2,none⟩=some (ah (dE y)):=ag.1.out.cell 2 zm;have P0:=Es;have P1:=Et;have P2:=Eu;obtain⟨W8,TA,bi,ag,aC⟩:=cM wr (Hb.an<|eG.an<|sW.an ag) 48 (bY y);go_wp2_with fail;refine(ahf w5.heap.size N i (B+20* (B+4608)+4096+1) zs (aK (dN y)) (nt (dN y).natAbs) (dE y) D9 _ Rt.out ag.2.2.2.1.out Vs mL.out Hzi.out zo Hdy.out ag.2.2.1.out).mono ?_;rintro e' w9 ⟨⟨rv,rfl⟩,qB,qg⟩;have AE:=az qB;have QR:Hid (Chg (λb=>b=w5.heap.size) w7 w9):=(gV.out.aCk ag.2.1.out).trans (Chg.aCn qg (λb e=>by cases e;rfl)) (λb h=>.inl h);clear qB qg;go_wp2;go_roundw;case rel=>exact⟨i+1,by omega,by go_num,by rw[amc.out,cC.out];exact AE.out,QR.out⟩
       case measure=>exact bH
     . obtain rfl:N=i:=by omega
       rw[ayF X F N kK.out.1 YN.out.1,<-cu.out]at pB;obtain⟨eQ,alh⟩:=aU pB (Hg7.out.trans pg (λb h=>.inl h));clear pB pg;go_wp2;go_roundw;case rel=>exact⟨k+1,by omega,by go_num,eQ.out,alh.out⟩
       case measure=>exact bH
  . obtain rfl:nT=k:=by omega
    have hpt:ts.take nT=ts:=List.take_of_length_le (by rw[FK.out];exact Nat.le_refl _);rw[hpt]at pB;have jm:=pg.blk E0.out zo;have jY:=pg.blk E1.out zo;obtain⟨r0,bo,r1,bz,r2,lS⟩:=jY.g3;obtain⟨p0,p1⟩:=jm.c2;obtain⟨eQ,jv⟩:=aU pB bE;clear pB jm jY hpt bE pg;go_wp2;refine bodyPost_ret (v:=.tuple #[.agg #[ah PV,ah d,.slice (some ⟨w5.heap.size,0,none⟩) N N],ah 0]) (by simp[results,Tryz.results11,go_sem,r0,r1,r2]) rfl ⟨w5.heap.size,by omega,rfl,?_,?_⟩
    . exact((eQ.out.so _ _ zo _).so _ _ zo _).so _ _ zo _
    . exact((jv.out.setCell zp _).setCell zp _).setCell zp _
def axK (V D:Nat)(PV:Int)(DJ:PV=V)(aP:Option Addr)(nT di:Nat)(ts:List aM)(a:Option Addr)(L cap:Nat)(rows:List (List Raw))(B N:Nat)(d:Int)(hd:d=D)(w:World)(dQ:ts.length=nT)(hn:nT<=4096)(iy:At w aP (ts.flatMap aW))(hts:∀t∈ts,Fit B t.2)
 (hL:rows.length=L) (hL4:L<=4) (hcap:L<=cap) (ha:bQ w a rows) (hfit:∀r∈rows,∀c∈r,Fit B c) (bX:1<=B) (hB:B<=100000) (hT:aR w) (hD:D<=5) (hc:mF PV ts rows d=0) (hN:cnt V D=N):
 Cl 11 #[.agg #[ah PV,.slice aP nT di],.slice a L cap,ah d] w λe w'=>∃bO,e=.returned (.tuple #[.agg #[ah PV,ah d,.slice (some ⟨bO,0,none⟩) N N],ah 0])/\
  At w' (some ⟨bO,0,none⟩) (dC (fD V D (rows.map λr=>r.map aJ) (fR ts)))/\Bw w w':=
 (ahC V D PV DJ aP nT di ts a L cap rows B N d hd w dQ hn iy hts hL hL4 hcap ha hfit bX hB hT hD hc hN).mono λ_ _ ⟨b,_,h1,h2,h3⟩=>⟨b,h1,At.aCi h2,h3⟩
def AV (X:Nat->Dyadic)(V D:Nat)(cs:List Dyadic)(k:Nat):Dyadic:=sumTo (λk=>cs.getD k 0*xH X ((bZ (V+1) D).getD k []) (V+1)) k
def amW (X:Nat->Dyadic)(V D N:Nat)(cs:List Dyadic)(hN:cnt V D=N):AV X V D cs N=Mb X V D cs:=by unfold AV Mb Ah;rw[lv,hN]
def afY {X:Nat->Dyadic}{B V D:Nat}{x:List Nat}(hx:x∈bZ (V+1) D)(hX:∀k,k<V+1->Sm B (X k))(k:Nat)(hk:k<=V+1):Sm (k* (B*D+1)+1) (xH X x k):=by
 induction k with
 |zero=>exact ahe.mono zo
 |succ k ih=>have h1:=ap3 x k;rw[((qP V D x).1 hx).2]at h1;have h2:=agC (hX k zo) (x.getD k 0);have h3:B*x.getD k 0<=B*D:=Nat.mul_le_mul_left _ h1;refine(Sm.mul (ih zo) h2).mono ?_;rw[Nat.succ_mul];omega
def amX {X:Nat->Dyadic}{A B V D:Nat}{cs:List Dyadic}(hc:∀c∈cs,Sm A c)(hX:∀k,k<V+1->Sm B (X k))(k:Nat)(hk:k<=cnt V D):Sm (A+(V+1) * (B*D+1)+1+k) (AV X V D cs k):=by
 induction k with
 |zero=>exact Sm.zero _
 | succ k ih=>
   have hm:(bZ (V+1) D).getD k []∈bZ (V+1) D:=by
    have:k<(bZ (V+1) D).length:=by rw[lv];omega
    rw[show(bZ (V+1) D).getD k []=(bZ (V+1) D)[k]by simp[this]];exact List.getElem_mem _
   exact Sm.add (B:=A+(V+1) * (B*D+1)+1+k) (ih zo) ((Sm.mul (sA hc k) (afY hm hX (V+1) (Nat.le_refl _))).mono zo)
def awE (V D N v1 B:Nat)(aB:Option Addr)(si:Nat)(cd:List Raw)(aS:Option Addr)(AX:Nat)(Cu:List Raw)(X:Nat->Dyadic)(cs:List Dyadic)(Y:Dyadic)(w:World)(hV:1<=V)(hV2:V<=8)(hv1:V+1=v1)(hD:D<=20)(hN:cnt V D=N)(wR:N<=512)(Jl:cd.length=N)(hcs:cd.map aJ=cs)(jh:∀x∈cd,Fit B x)(hsh:Cu.length=v1)(hX:∀k (h:k<Cu.length),aJ Cu[k]=X k)(ml:∀x∈Cu,Fit B x)(hB:B<=100000)(Ip:At w aB (cd.flatMap bK))(haS:At w aS (Cu.flatMap bK))(hT:aR w)(hY:Mb X V D cs=Y):
 Cv 19 #[.agg #[ah (V:Int),ah (D:Int),.slice aB N si],.slice aS v1 AX] w (.tuple #[cw Y,ah 0]):=by
 have eX:=λW=>aaP (V:Int) (D:Int) aB N si 0 (by
  unfold Gx
  rw[if_neg zo,if_neg (by rw[Int.toNat_natCast,Int.toNat_natCast];omega),if_pos (by rw[Int.toNat_natCast,Int.toNat_natCast];omega)]) W
 have sK:=λW=>Ke V D N hV hV2 hD hN wR W;have fM:∀k,k<V+1->Sm B (X k):=λk hk=>by rw[<-hX k zo];exact(ml _ (List.getElem_mem _)).2
 have ug:∀c∈cs,Sm B c:=λc hc=>by rw[<-hcs]at hc;obtain⟨x,hx,rfl⟩:=List.mem_map.1 hc;exact(jh x hx).2
 have hBD:(V+1) * (B*D+1)<=9* (100000*20+1):=Nat.mul_le_mul zo (by have:=Nat.mul_le_mul hB hD;omega);have NY:=λk (hk:k<=N)=>(amX (D:=D) ug fM k zo).mono (show _<=20000000 by omega);have vF:∀k,AV X V D cs (k+1)=AV X V D cs k+cs.getD k 0*xH X ((bZ (V+1) D).getD k []) (V+1):=λk=>rfl;have hall:=(amW X V D N cs hN).trans hY;obtain⟨R,hR⟩:=aI (bZ (V+1) D);have iw:R.length=N:=by rw[<-hR,lv,hN]
 have hrow:∀k (h:k<R.length),R[k].length=v1/\(∀a∈R[k],a<=20)/\∀j,j<=v1->Sm 19000000 (xH X R[k] j):=λk h=>by
  have hm:R[k]∈bZ (V+1) D:=by rw[hR];exact List.getElem_mem h
  have h1:=(qP V D _).1 hm;refine⟨by rw[h1.1,hv1],λa ha=>by have:=JO ha;omega,λj hj=>(afY hm fM j zo).mono ?_⟩;have:=Nat.mul_le_mul_right (B*D+1) (show j<=V+1 by omega);omega
 have um:∀x j,xH X x (j+1)=xH X x j*zZ (X j) (x.getD j 0):=λx j=>rfl;rw[hR]at sK;rw[hR,hv1]at vF;obtain⟨nR,FU,Hss,wB,mJ,sX,mO,QB,ajG,QW,vX,Aw⟩:=fu eX sK NY vF hall iw hrow um ug Jl hcs jh;obtain⟨yn,HX,Hfs,PK,HaS,HT,yq,HB⟩:=om hsh hX ml Ip haS hT hv1 hB;have h0:AV X V D cs 0=0:=rfl;have H0:=az h0;generalize MW:AV X V D cs=SS at*;clear eX sK NY vF hall iw hrow um ug Jl hcs jh hsh hX ml Ip haS hT hY hN hBD fM hR h0 MW hB;have dQ:0<w.heap.size:=HT.out.lt;have hvI:IntKind.i64.wrap ((V:Int)+1)=(v1:Int):=by rw[IntKind.wrap_i64];omega
 have uq:v1<=9:=by omega
 clear hv1;obtain⟨W,cP,ag,aC⟩:=jq w 34 [ah (V:Int),ah (D:Int),.slice aB N si] 48 [aj false,.string ⟨#[]⟩,ah 0];go_enter Tryz.func19,Tryz.ntmps19;go_wp2_with fail;refine aZ ag (nR.out _) λw1 ag aC=>?_;obtain⟨W2,nV,bi,ag,aC⟩:=cM w1 ag 48 [aj false,.string ⟨#[]⟩,ah 0];go_wp2_with fail;first|refine eO (bG W2 (w1.heap.size) 0 [aj false,.string ⟨#[]⟩,ah 0]) bM ?_|refine fB (bG W2 (w1.heap.size) 0 [aj false,.string ⟨#[]⟩,ah 0]) bM ?_
 intro W3 hs0;have ag:=cH hs0 ag;simp only[cB,List.set]at ag;have aC:=qC ag;have aA9:=ag.1.out.lt;go_wp2_with fail;refine(FU.out _).mono ?_;rintro e w4 ⟨a0,Mf,rfl,nX,Iu,au⟩;obtain⟨ag,aC⟩:=qX au ag;have xR:=ag.2.1.out.size;have lf:=ag.2.2.1.out.lt;have lr:=ag.2.2.2.1.out.lt;have lsm:=ag.1.out.lt;have aAz:w.heap.size+1<w1.heap.size:=by omega
 have td:=az nX;have nS:Hid (∀b o,a0=some ⟨b,o,none⟩->¬b=w1.heap.size):=λb o e h=>by have:=Iu b o e;omega
 clear nX Iu;obtain⟨E0,E1,E2⟩:=cE ag.2.2.1.out ag.2.2.2.1.out ag.2.1.out;have Ao:Hid (aH w4 w1.heap.size 48 [aj (aK (dN (SS 0))),ai (nt (dN (SS 0)).natAbs),ah (dE (SS 0))]):=by rw[H0.out];exact ag.1.out
 skip
 go_wp2_with fail;go_loopw[33] (λx wr=>∃k:Nat,k<=N/\x=ah (k:Int)/\aH wr w1.heap.size 48 [aj (aK (dN (SS k))),ai (nt (dN (SS k)).natAbs),ah (dE (SS k))]/\Chg (λb=>b=w1.heap.size) w4 wr) (λx _=>N-(intOf x).toNat);case atStart=>exact⟨0,Nat.zero_le _,rfl,Ao.out,Chg.refl _ _⟩
 case round=>
  clear Ao;obtain⟨k,hk,rfl,pS,pg⟩:=hrel;obtain⟨wk,hwk⟩:∃wk,wk=wr:=⟨_,rfl⟩;subst hwk;have bE:=E2.out.trans (pg.below (n:=w.heap.size) zo (λb e=>by omega));have DY:=pg.blk E0.out zo;by_cases hlt:k<N
  . have hk2:k<R.length:=by rw[sX.out];exact hlt
    have El:k<cd.length:=by rw[QW.out];exact hlt
    obtain⟨xk,hxk⟩:∃x,R[k]=x:=⟨_,rfl⟩;obtain⟨hxl,ut,Vp⟩:=mO.out k hk2;have jK:R.getD k []=xk:=by simp[hk2,hxk]
    rw[hxk]at hxl ut Vp;have hat:=td.out.chg pg (λb o e=>nS.out b o e);have vt:At wk a0 (R.flatMap λx=>[Value.string (bs (x.map UInt8.ofNat))]):=by rw[Bd];exact hat
    obtain⟨b0,o0,hab,yS⟩:=vt.elem (f:=λx=>[Value.string (bs (x.map UInt8.ofNat))]) (sz:=1) (λ_=>rfl) zd k hk2;obtain⟨l8,jX⟩:∃l,xk.map UInt8.ofNat=l:=⟨_,rfl⟩;have hc0:wk.cell? ⟨b0,o0+k,none⟩=some (ai l8):=by have:=yS 0 zd;rw[hxk,jX]at this;simpa using this
    have bC:=uu N Mf k (k:Int) hab hlt rfl;rw[Nat.mul_one]at bC;have ze:l8.length=v1:=by rw[<-jX,List.length_map];exact hxl
    have Iy:∀j (h:j<l8.length),l8[j].toNat=xk.getD j 0/\xk.getD j 0<=20:=λj h=>by
     have jx:j<xk.length:=by omega
     have e8:l8[j]=UInt8.ofNat xk[j]:=by
      have:l8[j]?=(xk.map UInt8.ofNat)[j]?:=by rw[jX]
      rw[List.getElem?_eq_getElem h,List.getElem?_eq_getElem (by simpa using jx)]at this;simpa using this
     have h20:=ut _ (List.getElem_mem jx);rw[e8,show xk.getD j 0=xk[j]by simp[jx]];exact⟨by simp;omega,h20⟩
    obtain⟨s,m,e,hx⟩:=na (cd[k]);obtain⟨bR,oR,Iq,n0,n1,n2⟩:=(PK.out.below bE).num k El hx;have Vy:=nD N si k (k:Int) Iq hlt rfl;have vF:=wB.out k;have um:=QB.out xk;obtain⟨c,hc⟩:=aI (cs.getD k 0);have hcv:aJ (s,m,e)=c:=by rw[<-hc,<-vX.out,<-hx];simp[List.getD_eq_getElem?_getD,El]
    have hcc:Sm B c:=by rw[<-hc];exact sA ajG.out k
    have hfc:=Aw.out _ (List.getElem_mem El);rw[hx]at hfc;rw[hc,jK]at vF;generalize yL:xH X xk=MM at*;have DF:MM 0=1:=by rw[<-yL];rfl
    obtain⟨gV,yj,dO,Rp,Hxm,wy,uN,Hs,Hm,Le,Fp,CQ⟩:=fu pg pS bE hxl Vp ze Iy vF um hcv hcc hfc;have PC:=az DF;have Hn:Hid (bA wk bR (oR+k*3) [aj s,ai m,ah e]):=iR n0 n1 n2;have Cx:=pg.size;clear pg pS bE hxl ut Vp jK hat vt yS jX ze Iy n0 n1 n2 Iq vF um hc hcv hcc hfc hx yL DF hab hxk;have Hf:Hid (aH wk w.heap.size 34 [ah (V:Int),ah (D:Int),.slice aB N si]):=DY;clear DY;have Hb:=hbz wk;obtain⟨ag,aC⟩:=qZ (Hf.an<|Hn.an trivial);obtain⟨W5,yN,bi,ag,aC⟩:=cM wk (Hb.an ag) 48 [aj s,ai m,ah e];obtain⟨cb,W6,hcv,wY,jH,jU⟩:=OV l8 W5;rw[wy.out]at hcv;have lc:=ag.1.out.lt;obtain⟨KU,vV,pN⟩:=cE (ag.1.out.below wY) (aO ag.2.1.out wY) jU;clear jU jH wY;go_wp2_with fail;go_loopw[46] (λx wr=>∃(j:Nat) (s':Bool) (m':List UInt8) (e':Int),j<=v1/\x=ah (j:Int)/\aJ (s',m',e')=c*MM j/\Fit 20000000 (s',m',e')/\aH wr wk.heap.size 48 [aj s',ai m',ah e']/\Chg (λb=>b=wk.heap.size) W6 wr) (λx _=>v1-(intOf x).toNat);case atStart=>exact⟨0,s,m,e,Nat.zero_le _,rfl,by rw[PC.out,Le.out];grind,CQ.out.mono (by have:=HB.out;omega),KU.out,Chg.refl _ _⟩
    case round=>
     clear KU hcv hc0 bC Vy;obtain⟨j,s',m',e',hj,rfl,hv,hf',pC,pg⟩:=hrel;have hbk:=vV.out.trans (pg.below (n:=wk.heap.size) (by have:=vV.out.size;omega) (λb e=>by omega));have bE:=aO dO.out hbk;by_cases bj:j<v1
     . have jS:j<Cu.length:=by rw[yn.out];exact bj
       have j8:j<l8.length:=by rw[wy.out];exact bj
       obtain⟨s2,m2,e2,hx2⟩:=na (Cu[j]);obtain⟨bS,oS,acY,n0,n1,n2⟩:=(HaS.out.below bE).num j jS hx2;have ixS:=nD v1 AX j (j:Int) acY bj rfl;have MZ:=HX.out j jS;have ml:=Hfs.out _ (List.getElem_mem jS);rw[hx2]at MZ ml;obtain⟨hq1,hq2⟩:=uN.out j j8;obtain⟨q,hq⟩:=aI (xk.getD j 0);have NL:=Hm.out j;have Ed:=Hxm.out (j+1) bj;rw[hq]at hq1 hq2 NL;have m0:wr.cell? ⟨W5.heap.size,j,none⟩=some (.int .u8 (q:Int)):=pg.cell (by rw[(pN.out j j8).1,hq1]) (by show ¬W5.heap.size=wk.heap.size;omega);have xB:=rK v1 cb j (j:Int) (rfl:(some ⟨W5.heap.size,0,none⟩:Option Addr)=_) bj rfl;rw[Nat.zero_add,Nat.mul_one]at xB;have hwq:IntKind.i64.wrap (q:Int)=(q:Int):=by rw[IntKind.wrap_i64];omega
       obtain⟨P,hP⟩:=aI (zZ (X j) q);have Ie:Sm 20000000 P:=by
        have h1:Sm (B*q+1) P:=by rw[<-hP,<-MZ];exact agC ml.2 q
        have h2:=Nat.mul_le_mul HB.out hq2;exact h1.mono zo
       rw[hP]at NL;obtain⟨G,hG⟩:=aI (c*MM (j+1));have Bo:aJ (s',m',e') *aJ (jP P)=G:=by show _*aJ (canon P)=G;rw[cJ,hv,<-hG,NL];grind
       have Dy:Fit 20000000 (jP G):=by
        have h1:Sm (B+19000000) G:=by rw[<-hG];exact Sm.mul Fp.out Ed
        exact(h1.mono (by have:=HB.out;omega)).fit zo
       have hGv:aJ (jP G)=c*MM (j+1):=by show aJ (canon G)=_;rw[cJ,hG]
       have hpw:=λW (hT:aR W)=>aoL s2 m2 e2 q (X j) P B MZ hP W ml HB.out zo hT;have fT:=λb W (h:aH W b 48 [aj s',ai m',ah e',aj (aK (dN P)),ai (nt (dN P).natAbs),ah (dE P)]) (hT:aR W)=>Dq s' m' e' (aK (dN P)) (nt (dN P).natAbs) (dE P) G 20000000 Bo b 2 48 W hf' (Ie.fit zo) zo h hT;have qE:=HT.out.below bE;obtain⟨QP,tB,HGv,Pz,gV,iT⟩:=fw hpw fT hGv Dy pg qE;have Hn:Hid (bA wr bS (oS+j*3) [aj s2,ai m2,ah e2]):=iR n0 n1 n2;have Hc:Hid (aH wr wk.heap.size 48 [aj s',ai m',ah e']):=pC;have fQ:=pg.size;have aBP:=vV.out.size;clear hpw fT hGv Dy Bo pg qE pC hv hf' MZ ml hq1 hq2 NL Ed hG hP Ie hx2 acY n0 n1 n2 hbk bE hq;have Hb:=hbz wr;obtain⟨ag,aC⟩:=qZ (Hn.an<|Hc.an trivial);go_wp2_with fail;obtain⟨Hn,Hc,_⟩:=ag;obtain⟨n0,n1,n2⟩:=Hn.out.w3;obtain⟨c0,SF,c1,SG,c2,SH⟩:=Hc.out.g3;refine ez (λw'=>aV w' (wk.heap.size) 0 (aj s')/\aV w' (wk.heap.size) 1 (ai m')/\aV w' (wk.heap.size) 2 (ah e')/\aV w' bS (oS+j*3) (aj s2)/\aV w' bS (oS+j*3+1) (ai m2)/\aV w' bS (oS+j*3+2) (ah e2)) (λi=>Nat.blt i 10) [(0,true),(1,true),(2,true),(3,true),(4,true),(5,true),(6,true),(7,false),(8,false),(9,false),(10,false)] zk zk rfl zk zc ⟨c0,c1,c2,n0,n1,n2⟩ ?_;iterate 7 (refine pT rfl rfl ?_ (by intro w' ⟨q0,q1,q2,q3,q4,q5⟩;go_simp;try with_reducible rfl);try simp only[UU])
       refine aY rfl rfl (λK hK=>?_);go_simp;with_reducible refine(QP.out _ (by first|exact(iT.out.below Hb.out) |exact aR.drew (iT.out.below Hb.out) |exact aR.alloc (iT.out.below Hb.out) _|exact aR.drew (aR.alloc (iT.out.below Hb.out) _) |exact aR.alloc (aR.drew (iT.out.below Hb.out)) _)).mono ?_
       rintro e w8 ⟨rfl,hq⟩;have au:Bw wr w8:=by first|exact hq|exact df hq
       replace Hn:=kW Hn au;obtain⟨Hc,c0,SF,c1,SG,c2,SH⟩:=nH Hc au;obtain⟨n0,n1,n2⟩:=Hn.out.w3;replace Hb:=bD Hb au;refine hK _ _ (λ_=>⟨c0,c1,c2,n0,n1,n2⟩) ?_;try simp only[UU]
       refine aY rfl rfl (λK hK=>?_);go_simp;refine hK _ _ (λ_=>⟨bg c0,bg c1,bg c2,bg n0,bg n1,bg n2⟩) ?_;try simp only[UU]
       refine cL (λW9=>aH W9 (w8.heap.size) 48 [aj s',ai m',ah e',aj (aK (dN P)),ai (nt (dN P).natAbs),ah (dE P)]/\Bw w8 W9) (by first|exact fI|exact fJ) ?_;rintro W9 ⟨qd,au⟩;have aBg:=Hc.out.lt;replace Hn:=kW Hn au;replace Hc:=kB Hc au;have Hd:=az qd;clear qd;obtain⟨n0,n1,n2⟩:=Hn.out.w3;obtain⟨c0,SF,c1,SG,c2,SH⟩:=Hc.out.g3;obtain⟨d0,d1,d2,d3,d4,d5⟩:=Hd.out.c6;replace Hb:=bD Hb au;refine aY rfl rfl (λK hK=>?_);go_simp;with_reducible refine(tB.out _ _ Hd.out (by first|exact(iT.out.below Hb.out) |exact aR.drew (iT.out.below Hb.out) |exact aR.alloc (iT.out.below Hb.out) _|exact aR.drew (aR.alloc (iT.out.below Hb.out) _) |exact aR.alloc (aR.drew (iT.out.below Hb.out)) _)).mono ?_
       rintro e iI ⟨rfl,hq⟩;have au:Bw W9 iI:=by first|exact hq|exact df hq
       replace Hn:=kW Hn au;obtain⟨Hc,c0,SF,c1,SG,c2,SH⟩:=nH Hc au;obtain⟨Hd,d0,d1,d2,d3,d4,d5⟩:=JH Hd au;obtain⟨n0,n1,n2⟩:=Hn.out.w3;replace Hb:=bD Hb au;refine hK _ _ (λ_=>⟨c0,c1,c2,n0,n1,n2⟩) ?_;try simp only[UU]
       refine aY rfl rfl (λK hK=>?_);go_simp;refine hK _ _ (by first|exact λh=>absurd h zd|exact λ_=>⟨c0,c1,c2,n0,n1,n2⟩ |exact λ_=>⟨(by first|exact c0|exact aQ zf c0|exact aQ zf (aQ zf c0) |exact aQ zf (aQ zf (aQ zf c0))),(by first|exact c1|exact aQ zf c1|exact aQ zf (aQ zf c1) |exact aQ zf (aQ zf (aQ zf c1))),(by first|exact c2|exact aQ zf c2|exact aQ zf (aQ zf c2) |exact aQ zf (aQ zf (aQ zf c2))),(by first|exact n0|exact aQ zf n0|exact aQ zf (aQ zf n0) |exact aQ zf (aQ zf (aQ zf n0))),(by first|exact n1|exact aQ zf n1|exact aQ zf (aQ zf n1) |exact aQ zf (aQ zf (aQ zf n1))),(by first|exact n2|exact aQ zf n2|exact aQ zf (aQ zf n2) |exact aQ zf (aQ zf (aQ zf n2)))⟩) ?_;try simp only[UU]
       simp only[bP];go_wp2;go_roundw;case rel=>exact⟨j+1,_,_,_,by omega,by go_num,HGv.out,Pz.out,((Hc.out.set 0 _).set 1 _).set 2 _,(((gV.out.aCk Hb.out).set rfl _).set rfl _).set rfl _⟩
       case measure=>exact bH
     . obtain rfl:j=v1:=by omega
       have ni:=(Hss.out k hk).fit (by omega:20000000<=268435456);have hsa:aJ (aK (dN (SS k)),nt (dN (SS k)).natAbs,dE (SS k))+aJ (s',m',e')=SS (k+1):=by show aJ (canon _)+_=_;rw[cJ,hv,Hs.out]
       obtain⟨S,hS⟩:=aI (SS k);obtain⟨S',Tw⟩:∃S,SS (k+1)=S:=⟨_,rfl⟩;rw[hS]at ni hsa;rw[Tw]at hsa;have hsm:=yj.out;rw[hS]at hsm;have had:=λb W (h:aH W b 48 [aj (aK (dN S)),ai (nt (dN S).natAbs),ah (dE S),aj s',ai m',ah e']) (hT:aR W)=>Ml (aK (dN S)) (nt (dN S).natAbs) (dE S) s' m' e' S' 20000000 hsa b 2 48 W ni hf' zo h hT;have qE:=HT.out.below bE;have lsk:=hsm.lt;have wA:Hid (aH wr w1.heap.size 48 (bY S)):=hsm.below hbk;have Hc:Hid (aH wr wk.heap.size 48 [aj s',ai m',ah e']):=pC;obtain⟨qW,iT,HS',tj⟩:=dP had qE Tw hbk;clear had qE hsm pC hv hf' ni hsa hS Tw bE hbk pg uN yj Hxm Hs Hm CQ;have Hb:=hbz wr;obtain⟨ag,aC⟩:=qZ (wA.an<|Hc.an trivial);have eG:Hid (aR wr):=iT.out;obtain⟨W12,aqJ,bi,ag,aC⟩:=cM wr (Hb.an<|eG.an ag) 48 [aj (aK (dN S)),ai (nt (dN S).natAbs),ah (dE S),aj s',ai m',ah e'];go_wp2_with fail;refine aZ ag (qW.out _ _ ag.1.out ag.2.2.1.out) λsS ag aC=>?_;have Qk:Hid (Chg (λb=>b=w1.heap.size) w4 sS):=gV.out.aCk (aO tj.out ag.2.1.out);go_wp2;go_roundw;case rel=>exact⟨k+1,by omega,by go_num,by rw[HS'.out];exact((ag.2.2.2.1.out.set 0 _).set 1 _).set 2 _,((Qk.out.set rfl _).set rfl _).set rfl _⟩
       case measure=>exact bH
  . obtain rfl:k=N:=by omega
    rw[mJ.out]at pS;have wA:Hid (aH wk w1.heap.size 48 (bY Y)):=pS;have Hr:Hid (aH wk (w.heap.size+1) 48 [aj false,.string ⟨#[]⟩,ah 0]):=pg.blk E1.out zo;have Hb:Hid (Bw w wk):=bE;clear pS pg bE DY;obtain⟨ag,aC⟩:=qZ (wA.an<|Hr.an trivial);go_wp2;refine eH (bG wk (w.heap.size+1) 0 (bY Y)) bM ?_;intro xY hs0;have ag:=cH hs0 (Hb.an ag);simp only[cB,List.set]at ag;have aC:=qC ag;refine bodyPost_ret (v:=.tuple #[cw Y,ah 0]) (by simp[results,Tryz.results19,go_sem,aC]) rfl ⟨rfl,ag.1.out⟩
end Go.Proofs.YtnjfebkelecgaaaGreatDoor
