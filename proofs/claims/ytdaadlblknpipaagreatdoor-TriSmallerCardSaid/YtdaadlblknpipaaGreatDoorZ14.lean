/- Package mat: scaled. -/
import Derived.Test.YtdaadlblknpipaaGreatDoorZ13
import Derived.Test.YtdaadlblknpipaaGreatDoorZ1
import Derived.Test.YtdaadlblknpipaaGreatDoorZ12
import Derived.Test.YtdaadlblknpipaaGreatDoorZ7
import Derived.Test.YtdaadlblknpipaaGreatDoorZ10
import Derived.Test.YtdaadlblknpipaaGreatDoorZ6
set_option linter.unusedVariables false
set_option linter.unusedSimpArgs false
set_option maxRecDepth 100000
set_option maxHeartbeats 16000000
namespace Go.Proofs.YtdaadlblknpipaaGreatDoor
open Go.RowKit
attribute [local go_sem ↓] Go.wp_at_zero Go.wp_at_succ
theorem Tryz.aob : (Tryz.prog.info? 28).map (fun i=>(i.zero,i.size,i.bytes)) = some (some (.agg #[.bool false,.string (bs [])]),2,24):=by kernel_rfl
theorem Tryz.aod : (Tryz.prog.info? 134).map (fun i=>(i.zero,i.size,i.bytes)) = some (some (.slice none 0 0),1,24):=by kernel_rfl
def iC (z : Int) : List Value:=[.bool (au z),.string (bs (nt z.natAbs))]
def zC (zs : List Int) : List Value:=zs.flatMap iC
theorem akH (a b : List Int) : zC (a ++ b) = zC a ++ zC b:=by unfold zC;rw [List.flatMap_append]
def gP (w : World) (base n : Nat) (R : List (List Int)) (k : Nat) (v : Value) : Prop:=
 ∃ vals : List Value,vals.length = k /\ w.ownsRow base 134 1 v k vals /\ (∀ i (h : i < vals.length),w.ownsRow base 28 2 vals[i] n (zC (R.getD i []))) /\
  ∀ i j (hi : i < vals.length) (hj : j < vals.length) g,vals[i].ownBlock = some g -> vals[j].ownBlock = some g -> i = j
theorem gP.nil (w : World) (base n : Nat) (R : List (List Int)) : gP w base n R 0 (.slice none 0 0):=
 ⟨[],rfl,World.ownsRow_nil _ _ _ _,fun _ h=>absurd h (Nat.not_lt_zero _),fun _ _ h=>absurd h (Nat.not_lt_zero _)⟩
theorem gP.below {w w' : World} {base n k : Nat} {R : List (List Int)} {v : Value} (h : gP w base n R k v) (hb : Bw w w') : gP w' base n R k v:=by obtain ⟨vals,hl,ho,hi,hd⟩:=h;exact ⟨vals,hl,ownsRow_below ho hb,fun i h=>ownsRow_below (hi i h) hb,hd⟩
theorem BV {W : World} {b1 b2 e1 e2 s1 s2 k1 k2 : Nat} {v1 v2 : Value} {x1 x2 : List Value} (h1 : W.ownsRow b1 e1 s1 v1 k1 x1) (h2 : W.ownsRow b2 e2 s2 v2 k2 x2) (he : e1 ≠ e2) : v1.ownBlock = none \/ v1.ownBlock ≠ v2.ownBlock:=by
 rcases h1.2 with ⟨rfl,_⟩ | ⟨g,cap,cur,rfl,_,hg,_⟩
 . exact .inl rfl
 . refine .inr fun h=>?_;rcases h2.2 with ⟨rfl,_⟩ | ⟨g',cap',cur',rfl,_,hg',_⟩
   . simp [Value.ownBlock] at h
   . simp only [Value.ownBlock,Option.some.injEq] at h;subst h;rw [hg] at hg';simp at hg';exact he hg'.2
theorem ny {W : World} {base base' : Nat} {e : TypeId} {size : Nat} {v : Value} {n : Nat} {xs : List Value} (h : W.ownsRow base e size v n xs) (hb : base' <= base) : W.ownsRow base' e size v n xs:=by
 refine ⟨h.1,?_⟩;rcases h.2 with h2 | ⟨g,cap,cur,h1,h2,h3⟩
 . exact .inl h2
 . exact .inr ⟨g,cap,cur,h1,Nat.le_trans hb h2,h3⟩
theorem gP.push {w w' : World} {base n k : Nat} {R : List (List Int)} {v v' x : Value} {vals : List Value} (hl : vals.length = k) (hov : w.ownsRow base 134 1 v k vals) (hi : ∀ i (h : i < vals.length),w.ownsRow base 28 2 vals[i] n (zC (R.getD i [])))
 (hd : ∀ i j (hi : i < vals.length) (hj : j < vals.length) g,vals[i].ownBlock = some g -> vals[j].ownBlock = some g -> i = j)
 (hx : w.ownsRow base 28 2 x n (zC (R.getD k []))) (kF : ∀ g,x.ownBlock = some g -> ∀ i (h : i < vals.length),vals[i].ownBlock ≠ some g)
 (ho : w'.ownsRow base 134 1 v' (k + 1) (vals ++ [x])) (hg : w.grownBy w' v.ownBlock) : gP w' base n R (k + 1) v':=by
 refine ⟨_,by simp [hl],ho,fun i h=>?_,fun i j h1 h2 g e1 e2=>?_⟩
 . by_cases hk : i < vals.length
   . rw [List.getElem_append_left hk];exact (hi i hk).kept hg (BV (hi i hk) hov zd)
   . have hik : i = k:=by simp at h;omega
     subst hik;rw [List.getElem_append_right zo];simp only [hl,Nat.sub_self,List.getElem_cons_zero];exact hx.kept hg (BV hx hov zd)
 . by_cases k1 : i < vals.length
   . rw [List.getElem_append_left k1] at e1;by_cases k2 : j < vals.length
     . rw [List.getElem_append_left k2] at e2;exact hd i j k1 k2 g e1 e2
     . have hjk : j = k:=by simp at h2;omega
       subst hjk;rw [List.getElem_append_right zo] at e2;simp only [hl,Nat.sub_self,List.getElem_cons_zero] at e2;exact absurd e1 (kF g e2 i k1)
   . have hik : i = k:=by simp at h1;omega
     subst hik;rw [List.getElem_append_right zo] at e1;simp only [hl,Nat.sub_self,List.getElem_cons_zero] at e1;by_cases k2 : j < vals.length
     . rw [List.getElem_append_left k2] at e2;exact absurd e2 (kF g e1 j k2)
     . simp at h2;omega
def jz (l : Int) (ds : List Dyadic) : Int:=ds.foldl (fun l d=>min l (dE d)) l
def jW (l : Int) (R : List (List Dyadic)) : Int:=R.foldl jz l
def nC (low : Int) (d : Dyadic) : Int:=dN d * 2 ^ (dE d - low).toNat
theorem UL (l : Int) (ds : List Dyadic) : jz l ds <= l /\ ∀ d ∈ ds,jz l ds <= dE d:=by
 induction ds generalizing l with
 | nil=>exact ⟨Int.le_refl _,fun d h=>by cases h⟩
 | cons x xs ih =>
   have h:=ih (min l (dE x));have e : jz l (x :: xs) = jz (min l (dE x)) xs:=rfl;rw [e];refine ⟨by omega,fun d hd=>?_⟩;rcases List.mem_cons.1 hd with rfl | hd
   . omega
   . exact h.2 d hd
theorem Lr (l : Int) (R : List (List Dyadic)) : jW l R <= l /\ ∀ r ∈ R,∀ d ∈ r,jW l R <= dE d:=by
 induction R generalizing l with
 | nil=>exact ⟨Int.le_refl _,fun d h=>by cases h⟩
 | cons x xs ih =>
   have h:=ih (jz l x);have h1:=UL l x;have e : jW l (x :: xs) = jW (jz l x) xs:=rfl;rw [e];refine ⟨by omega,fun r hr d hd=>?_⟩;rcases List.mem_cons.1 hr with rfl | hr
   . have:=h1.2 d hd;omega
   . exact h.2 r hr d hd
theorem UK (l : Int) (ds : List Dyadic) (m : Int) (hl : m <= l) (h : ∀ d ∈ ds,m <= dE d) : m <= jz l ds:=by
 induction ds generalizing l with
 | nil=>exact hl
 | cons x xs ih =>have hx:=h x (List.mem_cons_self ..);exact ih (min l (dE x)) zo (fun d hd=>h d (List.mem_cons_of_mem _ hd))
theorem Lq (l : Int) (R : List (List Dyadic)) (m : Int) (hl : m <= l) (h : ∀ r ∈ R,∀ d ∈ r,m <= dE d) : m <= jW l R:=by
 induction R generalizing l with
 | nil=>exact hl
 | cons x xs ih=>exact ih (jz l x) (UK l x m hl (h x (List.mem_cons_self ..))) (fun r hr=>h r (List.mem_cons_of_mem _ hr))
theorem ags (l : Int) (ds : List Dyadic) (k : Nat) (h : k < ds.length) : jz l (ds.take (k + 1)) = min (jz l (ds.take k)) (dE ds[k]):=by unfold jz;rw [List.take_succ_eq_append_getElem h,List.foldl_append];rfl
theorem agt (l : Int) (R : List (List Dyadic)) (k : Nat) (h : k < R.length) : jW l (R.take (k + 1)) = jz (jW l (R.take k)) R[k]:=by unfold jW;rw [List.take_succ_eq_append_getElem h,List.foldl_append];rfl
theorem adH (x y z : Value) (W : World) : (Instr.field 30 (.agg #[x,y,z]) 1).run Tryz.prog W = .ok z W:=by kernel_rfl
theorem aje (low : Int) (d : Dyadic) (h : low <= dE d) : Dyadic.ofIntWithPrec (nC low d) (-low) = d:=by
 have e : -low = -(dE d) + ((dE d - low).toNat : Int):=by omega
 unfold nC;rw [e,nz];exact (qh d).symm
theorem Wk (a : Option Addr) (L cap n : Nat) (rows : List (List Raw)) (B : Nat) (low : Int) (w : World) (hL : rows.length = L) (hL8 : L <= 8) (pM : n <= 8) (hrow : ∀ r ∈ rows,r.length = n) (ha : aY w a rows)
 (hfit : ∀ r ∈ rows,∀ c ∈ r,Fit B c) (hB : B <= 10000000) (hT : aB w) (iE : jW 0 (rows.map fun r=>r.map aC) = low) :
 Calls Tryz.prog 87 #[.slice a L cap] w fun e w'=>∃ v,e = .returned (.tuple #[v,.int .i64 (-low)]) /\
  gP w' w.heap.size n ((rows.map fun r=>r.map aC).map fun r=>r.map (nC low)) L v /\ Bw w w':=by
 obtain ⟨i0,hi,hz0,hz1,hz2⟩:=info_parts Tryz.aob;obtain ⟨j0,hj,hy0,hy1,hy2⟩:=info_parts Tryz.aod;obtain ⟨D,hD⟩ : ∃ D,(rows.map fun r=>r.map aC) = D:=⟨_,rfl⟩;have QK : D.length = L:=by rw [<- hD];simp [hL]
 have QM : ∀ k (h : k < rows.length) (h' : k < D.length),D[k] = rows[k].map aC:=fun k h h'=>by subst hD;simp
 have Al : ∀ r ∈ D,∀ d ∈ r,-268435456 <= dE d /\ dE d <= 268435456:=by intro r hr d hd;rw [<- hD] at hr;obtain ⟨r',hr',rfl⟩:=List.mem_map.1 hr;obtain ⟨x,hx,rfl⟩:=List.mem_map.1 hd;exact (((hfit r' hr' x hx).2).fit zo).1.2
 rw [hD] at iE ⊢;have hlo : low <= 0 /\ ∀ r ∈ D,∀ d ∈ r,low <= dE d:=by rw [<- iE];exact Lr 0 D
 have hlb : -268435456 <= low:=by rw [<- iE];exact Lq 0 D _ zd (fun r hr d hd=>(Al r hr d hd).1)
 have Ba : ∀ k j (h : k < D.length) (h' : j <= D[k].length),-268435456 <= jz (jW 0 (D.take k)) (D[k].take j) /\ jz (jW 0 (D.take k)) (D[k].take j) <= 0:=by intro k j h h';have g1 : -268435456 <= jW 0 (D.take k):=Lq 0 _ _ zd (fun r hr d hd=>(Al r (List.mem_of_mem_take hr) d hd).1);have g2:=(Lr 0 (D.take k)).1;have g3:=(UL (jW 0 (D.take k)) (D[k].take j)).1;exact ⟨UK _ _ _ g1 (fun d hd=>(Al _ (List.getElem_mem h) d (List.mem_of_mem_take hd)).1),by omega⟩
 have Hi:=ah hi;have cO:=ah hz0;have cP:=ah hz1;have cE:=ah hz2;have Hj:=ah hj;have jK:=ah hy0;have lQ:=ah hy1;have lR:=ah hy2;have FM:=ah QK;have Ni:=ah QM;have HDe:=ah Al;have YX:=ah iE;have wO:=ah hlo;have YQ:=ah hlb;have CP:=ah Ba;have Ha:=ah ha;have HT:=ah hT;have uI:=ah hrow;have zu:=ah hfit;have HL:=ah hL;have hnl : IntKind.i64.wrap (-low) = -low:=by rw [IntKind.wrap_i64];omega
 obtain ⟨nl,KE⟩ : ∃ nl,-low = nl:=⟨_,rfl⟩;obtain ⟨S,hS⟩ : ∃ S,(D.map fun r=>r.map (nC low)) = S:=⟨_,rfl⟩;have om : ∀ k (h : k < D.length),S.getD k [] = D[k].map (nC low):=fun k h=>by subst hS;simp [h]
 rw [hS,KE];have Tj : IntKind.i64.wrap (-low) = nl:=by rw [hnl,KE]
 have GP:=ah Tj;have rZ:=ah om;clear hnl KE Tj hS om hi hz0 hz1 hz2 hj hy0 hy1 hy2 Ba hlb hlo Al QM QK iE ha hT hrow hfit hL hD;go_enter Tryz.func87,Tryz.ntmps87;have Hb : Hid (Bw w w):=Below.refl _ _;go_wp2_with fail;go_loopw [4,18] (fun s4 x wr=>∃ k : Nat,k <= L /\ x = .int .i64 (k : Int) /\ s4 = .int .i64 (jW 0 (D.take k)) /\ Bw w wr) (fun _ x _=>L - (intOf x).toNat);case atStart=>exact ⟨0,Nat.zero_le _,rfl,rfl,Hb.out⟩
 case round=>
  clear Hb;obtain ⟨k,hk,rfl,rfl,pb⟩:=hrel;by_cases hlt : k < L
  . have hk2 : k < rows.length:=by rw [HL.out];exact hlt
    have hk3 : k < D.length:=by rw [FM.out];exact hlt
    obtain ⟨p,gT⟩ : ∃ p,rows[k] = p:=⟨_,rfl⟩;obtain ⟨b,o,a1,c1,hab,hc1,hat⟩:=(Ha.out.below pb).row k hk2;have mR : p.length = n:=by rw [<- gT];exact uI.out _ (List.getElem_mem hk2)
    have iu : ∀ x ∈ p,Fit B x:=by rw [<- gT];exact zu.out _ (List.getElem_mem hk2)
    have rf:=Ni.out k hk2 hk3;rw [gT] at hc1 hat rf;rw [mR] at hc1;have kH:=vO L cap k (k : Int) hab hlt rfl;rw [Nat.mul_one] at kH;have hst:=agt 0 D k hk3;have hpt:=fun j (h : j <= n)=>CP.out k j hk3 (by rw [rf,List.length_map,mR];exact h);rw [rf] at hst;simp only [rf] at hpt;obtain ⟨l0,hl0⟩ : ∃ l0,jW 0 (D.take k) = l0:=⟨_,rfl⟩;rw [hl0] at hst ⊢;simp only [hl0] at hpt;have fu:=ah hat;have lf:=ah mR;have pj:=ah iu;have bX:=ah hst;have Hpt:=ah hpt;have aR:=ah pb;clear hat mR iu hst hpt pb hab gT rf hl0 hk2 hk3;obtain ⟨wc,hwc⟩ : ∃ wc,wc = wr:=⟨_,rfl⟩;subst hwc;have gN:=aR.out.size;go_wp2_with fail;go_loopw [4,24] (fun s4 x wr=>∃ j : Nat,j <= n /\ x = .int .i64 (j : Int) /\ s4 = .int .i64 (jz l0 ((p.map aC).take j)) /\ Bw wc wr) (fun _ x _=>n - (intOf x).toNat);case atStart=>exact ⟨0,Nat.zero_le _,rfl,rfl,Below.refl _ _⟩
    case round=>
     clear hc1;obtain ⟨j,hj,rfl,rfl,hb2⟩:=hrel;by_cases bi : j < n
     . have k1 : j < p.length:=by rw [lf.out];exact bi
       obtain ⟨sp,mp,ep,gA⟩ : ∃ s m e,p[j] = (s,m,e):=⟨_,_,_,rfl⟩;have eJ:=pj.out _ (List.getElem_mem k1);have hst:=ags l0 (p.map aC) j (by simpa using k1);rw [List.getElem_map,gA] at hst;rw [gA] at eJ;obtain ⟨X,hX⟩ : ∃ X,aC (sp,mp,ep) = X:=⟨_,rfl⟩;rw [hX] at hst;obtain ⟨l1,AP⟩ : ∃ l1,jz l0 ((p.map aC).take j) = l1:=⟨_,rfl⟩;rw [AP] at hst ⊢;obtain ⟨b1,o1,eI,p0,p1,p2⟩:=(fu.out.below hb2).num j k1 gA;have SP:=lF n c1 j (j : Int) eI bi rfl;have Hp : Hid (bj wr b1 (o1 + j * 3) [.bool sp,.string (bs mp),.int .i64 ep]):=iM p0 p1 p2;have kX:=ah eJ.1;have HX:=ah hX;have uz:=ah hb2;have nO:=ah hst;have cm:=ah ((HT.out.below aR.out).below hb2);clear hb2 eJ hX hst gA eI p0 p1 p2 AP;have Hb : Hid (Bw wr wr):=Below.refl _ _;obtain ⟨p0,p1,p2⟩:=Hp.out.w3;have P0:=p0;have P1:=p1;have P2:=p2;have fl:=adH (.bool (au (dN X))) (.string (bs (nt (dN X).natAbs))) (.int .i64 (dE X));obtain ⟨W4,eP⟩ : ∃ W4,(wr.alloc (.cells #[.bool sp,.string (bs mp),.int .i64 ep] 30)) = W4:=⟨_,rfl⟩;have ae : Bw wr W4:=by rw [<- eP];exact zl
       clear p0 p1 p2;replace Hp:=kW Hp ae;have Hc : Hid (ai W4 (wr.heap.size) 30 [.bool sp,.string (bs mp),.int .i64 ep]):=by rw [<- eP];exact ai.newAt _ _ _ zm
       obtain ⟨p0,p1,p2⟩:=Hp.out.w3;obtain ⟨c0,c1,c2⟩:=Hc.out.c3;replace Hb:=az Hb ae;clear ae;have HT : Hid (aB W4):=cm.out.below Hb.out;go_wp2_with fail;refine (nX sp mp ep X HX.out _ kX.out HT.out).mono ?_;rintro e w5 ⟨rfl,ae⟩;clear p0 p1 p2 c0 c1 c2;replace Hp:=kW Hp ae;replace Hc:=kB Hc ae;replace HT:=kT HT ae;obtain ⟨p0,p1,p2⟩:=Hp.out.w3;obtain ⟨c0,c1,c2⟩:=Hc.out.c3;replace Hb:=az Hb ae;clear ae;go_wp2;go_roundw;case rel=>exact ⟨j + 1,by omega,by go_num,by rw [nO.out],aJ uz.out Hb.out⟩
       case measure=>simp [intOf];omega
     . obtain rfl : j = n:=by omega
       have hpt : (p.map aC).take j = p.map aC:=List.take_of_length_le (by simp [lf.out]);rw [hpt];go_wp2;go_roundw;case rel=>exact ⟨k + 1,by omega,by go_num,by rw [bX.out],aJ aR.out hb2⟩
       case measure=>simp [intOf];omega
  . obtain rfl : k = L:=by omega
    have QN : D.take k = D:=List.take_of_length_le (by rw [FM.out];exact Nat.le_refl _);rw [QN,YX.out];have aR:=ah pb;clear pb QN;obtain ⟨wa,hwa⟩ : ∃ wa,wa = wr:=⟨_,rfl⟩;subst hwa;have MC:=aR.out.size;go_wp2_with fail;go_loopw [9,37] (fun s9 x wr=>∃ (i : Nat) (v : Value),i <= k /\ x = .int .i64 (i : Int) /\ v = s9 /\ gP wr w.heap.size n S i v /\ Bw w wr) (fun _ x _=>k - (intOf x).toNat);case atStart=>exact ⟨0,_,Nat.zero_le _,rfl,rfl,gP.nil _ _ _ _,aR.out⟩
    case round=>
     clear aR MC;obtain ⟨i,v,hk,rfl,rfl,pv,pb⟩:=hrel;by_cases hlt : i < k
     . have hk2 : i < rows.length:=by rw [HL.out];exact hlt
       have hk3 : i < D.length:=by rw [FM.out];exact hlt
       obtain ⟨p,gT⟩ : ∃ p,rows[i] = p:=⟨_,rfl⟩;obtain ⟨b,o,a1,c1,hab,hc1,hat⟩:=(Ha.out.below pb).row i hk2;have mR : p.length = n:=by rw [<- gT];exact uI.out _ (List.getElem_mem hk2)
       have iu : ∀ x ∈ p,Fit B x:=by rw [<- gT];exact zu.out _ (List.getElem_mem hk2)
       have rf:=Ni.out i hk2 hk3;have rq:=rZ.out i hk3;have hpl:=wO.out.2 _ (List.getElem_mem hk3);rw [gT] at hc1 hat rf;rw [rf] at rq hpl;rw [mR] at hc1;have kH:=vO k cap i (i : Int) hab hlt rfl;rw [Nat.mul_one] at kH;obtain ⟨Z,hZ⟩ : ∃ Z,(p.map aC).map (nC low) = Z:=⟨_,rfl⟩;rw [hZ] at rq;have fu:=ah hat;have lf:=ah mR;have pj:=ah iu;have wI:=ah rq;have HZ:=ah hZ;have qV:=ah hpl;have aR:=ah pb;have dm:=ah pv;clear hat mR iu rq hZ hpl pb pv hab gT rf hk2 hk3;obtain ⟨wc,hwc⟩ : ∃ wc,wc = wr:=⟨_,rfl⟩;subst hwc;have gN:=aR.out.size;go_wp2_with fail;go_loopw [12,43] (fun s12 x wr=>∃ (j : Nat) (v2 : Value),j <= n /\ x = .int .i64 (j : Int) /\ v2 = s12 /\ wr.ownsRow wc.heap.size 28 2 v2 j (zC (Z.take j)) /\ Bw wc wr) (fun _ x _=>n - (intOf x).toNat);case atStart=>exact ⟨0,_,Nat.zero_le _,rfl,rfl,World.ownsRow_nil _ _ _ _,Below.refl _ _⟩
       case round=>
        clear hc1;obtain ⟨j,v2,hj,rfl,rfl,ho,hb2⟩:=hrel;by_cases bi : j < n
        . have k1 : j < p.length:=by rw [lf.out];exact bi
          obtain ⟨sp,mp,ep,gA⟩ : ∃ s m e,p[j] = (s,m,e):=⟨_,_,_,rfl⟩;have eJ:=pj.out _ (List.getElem_mem k1);rw [gA] at eJ;obtain ⟨X,hX⟩ : ∃ X,aC (sp,mp,ep) = X:=⟨_,rfl⟩;have hle : low <= dE X:=qV.out X (by rw [<- hX,<- gA];exact List.mem_map_of_mem (List.getElem_mem k1));have gH : Sm B X:=by rw [<- hX];exact eJ.2
          have JV:=(gH.fit zo).1;have mP : (nt (dN X).natAbs).length <= 268435456:=JV.1;have hXe : -268435456 <= dE X /\ dE X <= 268435456:=JV.2;obtain ⟨Y,hY⟩ : ∃ Y,nC low X = Y:=⟨_,rfl⟩;have hlb:=YQ.out;have hl0:=wO.out.1;obtain ⟨t,ht⟩ : ∃ t : Int,dE X - low = t:=⟨_,rfl⟩;have hwr : IntKind.i64.wrap (dE X - low) = t:=by rw [IntKind.wrap_i64];omega
          have hsh : ∀ W,Calls Tryz.prog 106 #[.agg #[.bool (au (dN X)),.string (bs (nt (dN X).natAbs))],.int .i64 t] W fun e w'=>e = .returned (cn Y) /\ Bw W w':=by intro W;have h:=MN (au (dN X)) (nt (dN X).natAbs) (dE X - low).toNat W zo zo;rw [eK,show ((dE X - low).toNat : Int) = t by omega] at h;rw [<- hY];exact h
          have bX : Hid (zC (Z.take (j + 1)) = zC (Z.take j) ++ [.bool (au Y),.string (bs (nt Y.natAbs))]):=by
           show _ = _
           rw [<- HZ.out,List.take_succ_eq_append_getElem (by simpa using k1),akH];congr 1;simp only [List.getElem_map,gA,hX,hY];rfl
          obtain ⟨b1,o1,eI,p0,p1,p2⟩:=(fu.out.below hb2).num j k1 gA;have SP:=lF n c1 j (j : Int) eI bi rfl;have Hp : Hid (bj wr b1 (o1 + j * 3) [.bool sp,.string (bs mp),.int .i64 ep]):=iM p0 p1 p2;have kX:=ah eJ.1;have HX:=ah hX;have Ho:=ah ho;have bS:=ah hb2;have Ig:=ah hsh;have Hwr:=ah hwr;have cm:=ah ((HT.out.below aR.out).below hb2);have yA:=hb2.size;clear ho hb2 eJ hX gA eI p0 p1 p2 hle gH JV mP hXe hY hlb hl0 ht hsh hwr;have Hb : Hid (Bw wr wr):=Below.refl _ _;obtain ⟨p0,p1,p2⟩:=Hp.out.w3;have P0:=p0;have P1:=p1;have P2:=p2;obtain ⟨W4,eP⟩ : ∃ W4,(wr.alloc (.cells #[.bool sp,.string (bs mp),.int .i64 ep] 30)) = W4:=⟨_,rfl⟩;have ae : Bw wr W4:=by rw [<- eP];exact zl
          clear p0 p1 p2;replace Hp:=kW Hp ae;have Hc : Hid (ai W4 (wr.heap.size) 30 [.bool sp,.string (bs mp),.int .i64 ep]):=by rw [<- eP];exact ai.newAt _ _ _ zm
          obtain ⟨p0,p1,p2⟩:=Hp.out.w3;obtain ⟨c0,c1,c2⟩:=Hc.out.c3;replace Hb:=az Hb ae;clear ae;have HT : Hid (aB W4):=cm.out.below Hb.out;go_wp2_with fail;refine (nX sp mp ep X HX.out _ kX.out HT.out).mono ?_;rintro e w5 ⟨rfl,ae⟩;clear p0 p1 p2 c0 c1 c2;replace Hp:=kW Hp ae;replace Hc:=kB Hc ae;replace HT:=kT HT ae;obtain ⟨p0,p1,p2⟩:=Hp.out.w3;obtain ⟨c0,c1,c2⟩:=Hc.out.c3;replace Hb:=az Hb ae;clear ae;have agz:=Hc.out.lt;obtain ⟨W6,eQ⟩ : ∃ W6,(w5.alloc (.cells #[.bool (au (dN X)),.string (bs (nt (dN X).natAbs)),.int .i64 (dE X)] 30)) = W6:=⟨_,rfl⟩;have ae : Bw w5 W6:=by rw [<- eQ];exact zl
          clear p0 p1 p2;replace Hp:=kW Hp ae;clear c0 c1 c2;replace Hc:=kB Hc ae;replace HT:=kT HT ae;have Hy : Hid (ai W6 (w5.heap.size) 30 [.bool (au (dN X)),.string (bs (nt (dN X).natAbs)),.int .i64 (dE X)]):=by rw [<- eQ];exact ai.newAt _ _ _ zm
          obtain ⟨p0,p1,p2⟩:=Hp.out.w3;obtain ⟨c0,c1,c2⟩:=Hc.out.c3;obtain ⟨y0,y1,y2⟩:=Hy.out.c3;replace Hb:=az Hb ae;clear ae;have hwr:=Hwr.out;go_wp2_with fail;refine (Ig.out _).mono ?_;rintro e w7 ⟨rfl,ae⟩;clear p0 p1 p2 c0 c1 c2 y0 y1 y2;replace Hp:=kW Hp ae;replace Hc:=kB Hc ae;replace HT:=kT HT ae;replace Hy:=kB Hy ae;obtain ⟨p0,p1,p2⟩:=Hp.out.w3;obtain ⟨c0,c1,c2⟩:=Hc.out.c3;obtain ⟨y0,y1,y2⟩:=Hy.out.c3;replace Hb:=az Hb ae;clear ae hwr;have amv:=Hc.out.lt;have UW:=Hy.out.lt;obtain ⟨W8,xz⟩ : ∃ W8,(w7.alloc (.cells #[.bool (au Y),.string (bs (nt Y.natAbs))] 28)) = W8:=⟨_,rfl⟩;have ae : Bw w7 W8:=by rw [<- xz];exact zl
          clear p0 p1 p2;replace Hp:=kW Hp ae;clear c0 c1 c2;replace Hc:=kB Hc ae;replace HT:=kT HT ae;clear y0 y1 y2;replace Hy:=kB Hy ae;have Hd : Hid (ai W8 (w7.heap.size) 28 [.bool (au Y),.string (bs (nt Y.natAbs))]):=by rw [<- xz];exact ai.newAt _ _ _ zm
          obtain ⟨p0,p1,p2⟩:=Hp.out.w3;obtain ⟨c0,c1,c2⟩:=Hc.out.c3;obtain ⟨y0,y1,y2⟩:=Hy.out.c3;obtain ⟨d0,d1⟩:=Hd.out.c2;replace Hb:=az Hb ae;clear ae;have cK:=ownsRow_below Ho.out Hb.out;have iW:=Hb.out.size;have hnews:=gb Hd.out;clear d0 d1;go_wp2_with (at_builtin;refine wpList_append_own_at _ rfl _ _ 134 rfl wc.heap.size 28 i0 _ 2 24 Tryz.underlying134 Hi.out cO.out cP.out cE.out rfl zd v2 j (zC (Z.take j)) rfl cK ⟨w7.heap.size,0,none⟩ 1 1 [.bool (au Y),.string (bs (nt Y.natAbs))] rfl rfl hnews zy zx zo zo ?_;intro v' w9 gg pJ _ _;obtain ⟨g',mL,rfl⟩:=ownsRow_succ gg);go_roundw;case rel=>
           refine ⟨j + 1,_,by omega,by go_num,rfl,?_,?_⟩
           . rw [bX.out];exact gg
           . exact (aJ bS.out Hb.out).grown pJ zo (fun j e=>cL cK j e)
          case measure=>simp [intOf];omega
        . obtain rfl : j = n:=by omega
          have lw : Z.take j = Z:=List.take_of_length_le (by rw [<- HZ.out];simp [lf.out]);rw [lw] at ho;obtain ⟨a2,cap2,rfl,_,_⟩:=dA ho;have fU:=ho.lt;obtain ⟨vals,hvl,hov,iX,Bf⟩:=dm.out;have kF : ∀ g,(Value.slice a2 j cap2).ownBlock = some g -> ∀ m (h : m < vals.length),vals[m].ownBlock ≠ some g:=by intro g h1 m h2 h3;have:=(fU g h1).1;have:=((iX m h2).lt g h3).2;omega
          have zw:=ah kF;have lO:=ah hvl;have qW:=ah iX;have cw:=ah hov;have bS:=ah hb2;have Io:=ah Bf;have Ho:=ah ho;have Hb : Hid (Bw wr wr):=Below.refl _ _;have yA:=hb2.size;clear kF hvl hov iX hb2 Bf fU lw ho bi hj;obtain ⟨W6,eQ⟩ : ∃ W6,(wr.alloc (.cells #[.slice a2 j cap2] 134)) = W6:=⟨_,rfl⟩;have ae : Bw wr W6:=by rw [<- eQ];exact zl
          have Hd : Hid (ai W6 (wr.heap.size) 134 [.slice a2 j cap2]):=by rw [<- eQ];exact ai.newAt _ _ _ zm
          have d0:=Hd.out.c1;replace Hb:=az Hb ae;clear ae;have Jt:=aJ bS.out Hb.out;have cK:=ownsRow_below cw.out Jt;have iW:=Hb.out.size;have hnews : ∀ i u,([.slice a2 j cap2] : List Value)[i]? = some u -> W6.cell? ((⟨wr.heap.size,0,none⟩ : Addr).add i) = some u:=gb Hd.out;clear d0;go_wp2_with (at_builtin;refine wpList_append_own_at _ rfl _ _ 116 rfl w.heap.size 134 j0 _ 1 24 Tryz.underlying116 Hj.out jK.out lQ.out lR.out rfl zd v i vals rfl cK ⟨wr.heap.size,0,none⟩ 1 1 [.slice a2 j cap2] rfl rfl hnews zy zx zo zo ?_;intro v' w7 dx eT _ _;obtain ⟨g',mL,rfl⟩:=ownsRow_succ dx);go_roundw;case rel=>
           refine ⟨i + 1,_,by omega,by go_num,rfl,?_,?_⟩
           . refine gP.push (w:=W6) lO.out cK (fun m h=>ownsRow_below (qW.out m h) Jt) Io.out ?_ zw.out dx eT;rw [wI.out];exact ny (ownsRow_below Ho.out Hb.out) zo
           . exact (aJ aR.out Jt).grown eT zo (fun j e=>cL cK j e)
          case measure=>simp [intOf];omega
     . obtain rfl : i = k:=by omega
       have aR:=ah pb;have dm:=ah pv;clear pb pv;have hnl:=GP.out;go_wp2;refine bodyPost_ret (v:=.tuple #[v,.int .i64 nl]) (by simp [results,Tryz.results87,go_sem]) rfl ⟨v,rfl,dm.out,aR.out⟩
end Go.Proofs.YtdaadlblknpipaaGreatDoor
namespace Go.Proofs.YtdaadlblknpipaaGreatDoor
open Go.RowKit
theorem jZ {w : World} {base : Nat} {e : TypeId} {size n cap g : Nat} {xs : List Value} (h : w.ownsRow base e size (.slice (some ⟨g,0,none⟩) n cap) n xs) (j : Nat) (hj : j < xs.length) : w.cell? ⟨g,j,none⟩ = some xs[j]:=by
 rcases h.2 with ⟨h1,_⟩ | ⟨g',cap',cur,h1,_,hg,_,_,_,hx⟩
 . simp at h1
 . simp only [Value.slice.injEq,Option.some.injEq,Addr.mk.injEq,and_true,true_and] at h1;obtain ⟨rfl,rfl⟩:=h1;have h2 : cur.toList.take (n * size) = xs:=hx;have h3 : cur.toList[j]? = some xs[j]:=by rw [<- List.getElem?_eq_getElem hj];simp only [<- h2];rw [List.getElem?_take];rw [<- h2,List.length_take] at hj;rw [if_pos (Nat.lt_of_lt_of_le hj (Nat.min_le_left _ _))]
   have h4 : ai w g e cur.toList:=by unfold ai;simpa using hg
   rw [h4.cell];exact h3
theorem iJ {w : World} {base : Nat} {e : TypeId} {size n cap g : Nat} {xs : List Value} (h : w.ownsRow base e size (.slice (some ⟨g,0,none⟩) n cap) n xs) (j : Nat) (u : Value) : (w.setCell ⟨g,j,none⟩ u).ownsRow base e size (.slice (some ⟨g,0,none⟩) n cap) n (xs.set j u):=by
 refine ⟨by rw [List.length_set];exact h.1,?_⟩;rcases h.2 with ⟨h1,_⟩ | ⟨g',cap',cur,h1,hb,hg,h4,h5,h6,hx⟩
 . simp at h1
 . simp only [Value.slice.injEq,Option.some.injEq,Addr.mk.injEq,and_true,true_and] at h1;obtain ⟨rfl,rfl⟩:=h1;refine .inr ⟨g,cap,cur.setIfInBounds j u,rfl,hb,?_,h4,h5,by simpa using h6,?_⟩
   . simp [World.setCell,Array.getElem?_modify,hg]
   . rw [<- hx];simp [List.take_set]
theorem akJ (zs : List Int) : (zC zs).length = zs.length * 2:=jr iC 2 (fun _=>rfl) zs
theorem akI (zs : List Int) (j : Nat) (hj : j < zs.length) : (zC zs)[j * 2]? = some (.bool (au zs[j])) /\ (zC zs)[j * 2 + 1]? = some (.string (bs (nt zs[j].natAbs))):=by
 induction zs generalizing j with
 | nil=>simp at hj
 | cons z zs ih =>
   have e : zC (z :: zs) = .bool (au z) :: .string (bs (nt z.natAbs)) :: zC zs:=rfl;rw [e];cases j with
   | zero=>exact ⟨rfl,rfl⟩
   | succ j =>have:=ih j (by simpa using hj);rw [show (j + 1) * 2 = j * 2 + 1 + 1 by omega];simpa using this
theorem akK (zs : List Int) (j : Nat) (hj : j < zs.length) (y : Int) : ((zC zs).set (j * 2) (.bool (au y))).set (j * 2 + 1) (.string (bs (nt y.natAbs))) = zC (zs.set j y):=by
 induction zs generalizing j with
 | nil=>simp at hj
 | cons z zs ih =>
   have e : zC (z :: zs) = .bool (au z) :: .string (bs (nt z.natAbs)) :: zC zs:=rfl;rw [e];cases j with
   | zero=>rfl
   | succ j =>have:=ih j (by simpa using hj);rw [show (j + 1) * 2 = j * 2 + 1 + 1 by omega];simp only [List.set_cons_succ];rw [this];rfl
theorem gP.num {w : World} {base n L : Nat} {R : List (List Int)} {v : Value} (h : gP w base n R L v) (i j : Nat) (hi : i < L) (hj : j < n) (hR : R.length = L) (hr : (R.getD i []).length = n) :
 ∃ go cap g c,v = .slice (some ⟨go,0,none⟩) L cap /\ base <= go /\ base <= g /\ g ≠ go /\ w.cell? ⟨go,i,none⟩ = some (.slice (some ⟨g,0,none⟩) n c) /\
  w.cell? ⟨g,j * 2,none⟩ = some (.bool (au ((R.getD i []).getD j 0))) /\ w.cell? ⟨g,j * 2 + 1,none⟩ = some (.string (bs (nt ((R.getD i []).getD j 0).natAbs))) /\
  ∀ y : Int,gP ((w.setCell ⟨g,j * 2,none⟩ (.bool (au y))).setCell ⟨g,j * 2 + 1,none⟩ (.string (bs (nt y.natAbs)))) base n (R.set i ((R.getD i []).set j y)) L v:=by
 obtain ⟨vals,hl,ho,hv,hd⟩:=h;have hi2 : i < vals.length:=by omega
 have hrow:=hv i hi2;have hxl : (zC (R.getD i [])).length = n * 2:=by rw [akJ,hr]
 obtain ⟨a0,cap,rfl,_,_⟩:=dA ho;obtain ⟨a1,c,e1,_,hab⟩:=dA hrow;rw [e1] at hrow;rcases ho.2 with ⟨h1,_⟩ | ⟨go,cap',cur,h1,rD,hgo,_⟩
 . simp at h1;omega
 simp only [Value.slice.injEq,true_and] at h1;obtain ⟨rfl,rfl⟩:=h1;rcases hrow.2 with ⟨h1,_⟩ | ⟨g,c',cur',h1,hbg,hgg,_⟩
 . simp at h1;omega
 simp only [Value.slice.injEq,true_and] at h1;obtain ⟨rfl,rfl⟩:=h1;have hne : g ≠ go:=by rintro rfl;rw [hgo] at hgg;simp at hgg
 have hat:=akI (R.getD i []) j zo;have hg0 : (R.getD i []).getD j 0 = (R.getD i [])[j]'zo:=by rw [List.getD_eq_getElem?_getD,List.getElem?_eq_getElem zo];rfl
 have hc0:=jZ hrow (j * 2) zo;have hc1:=jZ hrow (j * 2 + 1) zo;rw [<- List.getElem?_eq_getElem] at hc0 hc1;rw [hat.1] at hc0;rw [hat.2] at hc1;refine ⟨go,cap,g,c,rfl,rD,hbg,hne,?_,by rw [hg0];exact hc0,by rw [hg0];exact hc1,fun y=>?_⟩
 . rw [jZ ho i zo,e1]
 . refine ⟨vals,hl,?_,fun m hm=>?_,hd⟩
   . exact ownsRow_setCell_other (ownsRow_setCell_other ho (by simpa [Value.ownBlock] using hne.symm) _) (by simpa [Value.ownBlock] using hne.symm) _
   . by_cases rH : m = i
     . subst rH;have hs : (R.set m ((R.getD m []).set j y)).getD m [] = (R.getD m []).set j y:=by rw [List.getD_eq_getElem?_getD,List.getElem?_set_self zo];rfl
       rw [hs,e1,<- akK _ _ zo];exact iJ (iJ hrow _ _) _ _
     . have hs : (R.set i ((R.getD i []).set j y)).getD m [] = R.getD m []:=by rw [List.getD_eq_getElem?_getD,List.getElem?_set_ne (fun e=>rH e.symm),<- List.getD_eq_getElem?_getD]
       rw [hs];have hno : vals[m].ownBlock ≠ some g:=fun e=>rH (hd m i hm hi2 g e (by rw [e1];rfl));exact ownsRow_setCell_other (ownsRow_setCell_other (hv m hm) hno _) hno _
def swp (i m k : Nat) : Nat:=if k = i then m else if k = m then i else k
theorem ajI {i m a b : Nat} (h : swp i m a = swp i m b) : a = b:=by
 unfold swp at h;repeat' split at h
 all_goals omega
theorem FA {i m k L : Nat} (hi : i < L) (hm : m < L) (hk : k < L) : swp i m k < L:=by
 unfold swp;repeat' split
 all_goals omega
theorem Mq {α : Type} (l : List α) (d : α) (i m : Nat) (hi : i < l.length) (hm : m < l.length) (k : Nat) (hk : k < l.length) : ((l.set i (l.getD m d)).set m (l.getD i d)).getD k d = l.getD (swp i m k) d:=by
 unfold swp;by_cases h1 : k = m
 . subst h1;rw [List.getD_eq_getElem?_getD,List.getElem?_set_self (by simpa using hk)];by_cases h2 : k = i
   . subst h2;simp
   . simp [h2]
 . rw [List.getD_eq_getElem?_getD,List.getElem?_set_ne (fun e=>h1 e.symm)];by_cases h2 : k = i
   . subst h2;rw [List.getElem?_set_self (by simpa using hk)];simp
   . rw [List.getElem?_set_ne (fun e=>h2 e.symm)];simp [h1,h2]
theorem gP.swap {w : World} {base n L go cap : Nat} {R : List (List Int)} (h : gP w base n R L (.slice (some ⟨go,0,none⟩) L cap)) (i m : Nat) (hi : i < L) (hm : m < L) (hR : R.length = L) :
 ∃ x y,w.cell? ⟨go,i,none⟩ = some x /\ w.cell? ⟨go,m,none⟩ = some y /\ gP ((w.setCell ⟨go,i,none⟩ y).setCell ⟨go,m,none⟩ x) base n ((R.set i (R.getD m [])).set m (R.getD i [])) L (.slice (some ⟨go,0,none⟩) L cap):=by
 obtain ⟨vals,hl,ho,hv,hd⟩:=h;have hi2 : i < vals.length:=by omega
 have hm2 : m < vals.length:=by omega
 have hgo : ∀ k (hk : k < vals.length),vals[k].ownBlock ≠ some go \/ vals[k].ownBlock = none:=by
  intro k hk;rcases BV (hv k hk) ho zd with e | e
  . exact .inr e
  . exact .inl e
 have hel : ∀ k (hk : k < vals.length),((vals.set i vals[m]).set m vals[i])[k]'(by simpa using hk) = vals[swp i m k]'(FA hi2 hm2 hk):=by intro k hk;have:=Mq vals (.bool false) i m hi2 hm2 k hk;have hs:=FA hi2 hm2 hk;simpa [List.getD_eq_getElem?_getD,List.getElem?_eq_getElem,hi2,hm2,hk,hs] using this
 refine ⟨vals[i],vals[m],jZ ho i zo,jZ ho m zo,_,by simp [hl],iJ (iJ ho i _) m _,fun k hk=>?_,fun a b ha hb g e1 e2=>?_⟩
 . have hk2 : k < vals.length:=by simpa using hk
   have hs:=FA hi2 hm2 hk2;rw [hel k hk2,Mq R [] i m zo zo k zo];have hno : vals[swp i m k].ownBlock ≠ some go:=by
    rcases hgo _ hs with e | e
    . exact e
    . rw [e];simp
   exact ownsRow_setCell_other (ownsRow_setCell_other (hv _ hs) hno _) hno _
 . have ha2 : a < vals.length:=by simpa using ha
   have hb2 : b < vals.length:=by simpa using hb
   rw [hel a ha2] at e1;rw [hel b hb2] at e2;exact ajI (hd _ _ _ _ g e1 e2)
end Go.Proofs.YtdaadlblknpipaaGreatDoor
namespace Go.Proofs.YtdaadlblknpipaaGreatDoor
open Go.RowKit
attribute [local go_sem ↓] Go.wp_at_zero Go.wp_at_succ
theorem LH (X : Dyadic) (s : Bool) (m : List UInt8) (e : Int) (b : Bool) (h : (canon X == (s,m,e)) = !b) (w' : World) :
 (if au (dN X) = s then if (bs (nt (dN X).natAbs)).toList = (bs m).toList then if dE X = e then Result.ok (Next.value (Value.bool false)) w' else Result.ok (Next.value (Value.bool true)) w' else Result.ok (Next.value (Value.bool true)) w' else Result.ok (Next.value (Value.bool true)) w') = Result.ok (Next.value (Value.bool b)) w':=by
 have ht : ∀ x y : List UInt8,(bs x).toList = (bs y).toList ↔ x = y:=fun x y=>by rw [fx,fx]
 have hc : (canon X == (s,m,e)) = decide (au (dN X) = s /\ nt (dN X).natAbs = m /\ dE X = e):=by rw [Bool.eq_iff_iff];simp [canon]
 rw [hc] at h;simp only [ht];cases b with
 | false =>
   have h2 : au (dN X) = s /\ nt (dN X).natAbs = m /\ dE X = e:=by simpa using h
   rw [if_pos h2.1,if_pos h2.2.1,if_pos h2.2.2]
 | true =>
   have h2 : ¬ (au (dN X) = s /\ nt (dN X).natAbs = m /\ dE X = e):=by intro h3;rw [decide_eq_true h3] at h;cases h
   by_cases h3 : au (dN X) = s
   . rw [if_pos h3];by_cases h4 : nt (dN X).natAbs = m
     . rw [if_pos h4,if_neg (fun h5=>h2 ⟨h3,h4,h5⟩)]
     . rw [if_neg h4]
   . rw [if_neg h3]
theorem VH (V : Int) (a : Option Addr) (cap N : Nat) (ts : List aK) (w : World) (hN : ts.length = N) (hn : N <= 1048576) (ha : At w a (ts.flatMap aM)) (hl : ∀ t ∈ ts,t.1.length <= 9223372036854775807 /\ Ok t.2) (hT : aB w) :
 Calls Tryz.prog 77 #[.agg #[.int .i64 V,.slice a N cap]] w fun e w'=>e = .returned (.int .i64 (ww V ts)) /\ Bw w w':=by
 have Ha:=ah ha;have Hl:=ah hl;have HN:=ah hN;have eU:=ah hT;obtain ⟨R,hR⟩ : ∃ R,ww V ts = R:=⟨_,rfl⟩;unfold ww at hR;rw [hN] at hR;rw [show ww V ts = R by unfold ww;rw [hN];exact hR];have HR:=ah hR;clear ha hl hN hR hT;obtain ⟨W,aL⟩ : ∃ W,(w.alloc (.cells #[.int .i64 V,.slice a N cap] 57)) = W:=⟨_,rfl⟩;have Hb : Hid (Bw w W):=by rw [<- aL];exact zl
 have Hp : Hid (ai W (w.heap.size) 57 [.int .i64 V,.slice a N cap]):=by rw [<- aL];exact ai.newAt _ _ _ zm
 obtain ⟨p0,p1⟩:=Hp.out.c2;go_enter Tryz.func77,Tryz.ntmps77;go_wp2_with fail;refine (DJ V _).mono ?_;rintro e w1 ⟨rfl,ae⟩;clear p0 p1;replace Hp:=kB Hp ae;obtain ⟨p0,p1⟩:=Hp.out.c2;replace Hb:=az Hb ae;clear ae;by_cases h1 : 0 <= V /\ V <= 12
 . by_cases h2 : 4096 < N
   . have h3 : (4096 : Int) < (N : Int):=by omega
     have hR:=HR.out;rw [if_neg (fun h=>h h1),if_pos h2] at hR;clear HR;subst hR;go_wp2;refine bodyPost_ret (v:=.int .i64 3) (by simp [results,Tryz.results77,go_sem]) rfl ⟨rfl,?_⟩;(repeat first | exact Hb.out | (refine Below.setCell ?_ (by have:=Hb.out.size;first | (dsimp only;omega) | (show _ <= _;omega) | (simp<;>omega)) _) | (refine Below.alloc ?_ zt _) | refine Below.drew ?_)
   . have h3 : ¬ (4096 : Int) < (N : Int):=by omega
     have h3d : decide ((4096 : Int) < (N : Int)) = false:=by simp;omega
     have hR : Hid ((if (List.range N).all (nY V ts) then (0 : Int) else 1) = R):=by
      show _ = _
      have hR:=HR.out;rw [if_neg (fun h=>h h1),if_neg h2] at hR;exact hR
     clear HR;have bI:=ah Hb.out;have uH:=ah Hp.out;clear Hb Hp p0 p1;have p0 : w1.cell? ⟨w.heap.size,0,none⟩ = some (.int .i64 V):=uH.out.cell 0;have p1 : w1.cell? ⟨w.heap.size,1,none⟩ = some (.slice a N cap):=uH.out.cell 1;go_wp2_with fail;go_loopw [16] (fun x wr=>∃ k : Nat,k <= N /\ x = .int .i64 (k : Int) /\ (List.range k).all (nY V ts) = true /\ ai wr w.heap.size 57 [.int .i64 V,.slice a N cap] /\ Bw w wr) (fun x _=>N - (intOf x).toNat);case atStart=>exact ⟨0,Nat.zero_le _,rfl,rfl,uH.out,bI.out⟩
     case round=>
      clear bI uH p0 p1;obtain ⟨k,hk,rfl,mQ,gT,pb⟩:=hrel;by_cases hlt : k < N
      . have hk2 : k < ts.length:=by rw [HN.out];exact hlt
        obtain ⟨l,s,m,e,hx⟩ : ∃ l s m e,ts[k] = (l,s,m,e):=⟨_,_,_,_,rfl⟩;obtain ⟨b,o,hab,cj⟩:=(Ha.out.below pb).term k hk2 hx;have hl2 : l.length <= 9223372036854775807 /\ Ok (s,m,e):=by have:=Hl.out _ (List.getElem_mem hk2);rw [hx] at this;exact this
        have Qo : ts.getD k default = (l,s,m,e):=by simp [hk2,hx]
        have Kj : (List.range (k + 1)).all (nY V ts) = nY V ts k:=by rw [List.range_succ,List.all_append,mQ];simp
        have hbad : nY V ts k = false -> R = 1:=by intro h;rw [<- hR.out,if_neg];intro h5;rw [List.all_eq_true] at h5;have:=h5 k (List.mem_range.2 hlt);rw [h] at this;cases this
        have tj : nY V ts k = (Ah V l (s,m,e) && (k == 0 || Op.bytesLess (bs (ts.getD (k - 1) default).1).toList (bs l).toList)):=by unfold nY;rw [Qo]
        have bz:=iH N cap k (k : Int) hab hlt rfl;obtain ⟨X,hX⟩ : ∃ X,aC (s,m,e) = X:=⟨_,rfl⟩;obtain ⟨sg,gJ⟩ : ∃ sg,bM X = sg:=⟨_,rfl⟩;have hgt : Ah V l (s,m,e) = (fA l V && !(sg == 0) && (canon X == (s,m,e))):=by unfold Ah;rw [hX,gJ]
        rw [hgt] at tj;have OW:=ah cj;have eF:=ah hl2;have aR:=ah pb;have uD:=ah tj;have Oh:=ah Kj;have CB:=ah hbad;have HX:=ah hX;have jI : Hid (bM (aC (s,m,e)) = sg):=by show _ = _;rw [hX];exact gJ
        have Hp:=ah gT;have HU : Hid (aB wr):=eU.out.below pb;clear cj hl2 tj Kj hbad hX gJ hgt Qo gT hx;have jF:=ah hab;clear hab;have Hb : Hid (Bw wr wr):=Below.refl _ _;have sz:=pb.size;have kv : Hid (bj wr b (o + k * 4) [.string (bs l),.bool s,.string (bs m),.int .i64 e]):=OW.out;obtain ⟨p0,p1⟩:=Hp.out.c2;obtain ⟨rU,rV,rW,rX⟩:=kv.out.w4;have HU : Hid (aB wr):=HU.out;have P0:=rU;have P1:=rV;have P2:=rW;have P3:=rX;have agD:=Hp.out.lt;obtain ⟨W4,eP⟩ : ∃ W4,(wr.alloc (.cells #[.string (bs l),.bool s,.string (bs m),.int .i64 e] 107)) = W4:=⟨_,rfl⟩;have ae : Bw wr W4:=by rw [<- eP];exact zl
        clear p0 p1;replace Hp:=kB Hp ae;clear rU rV rW rX;replace kv:=kW kv ae;replace HU:=kT HU ae;have Ht : Hid (ai W4 (wr.heap.size) 107 [.string (bs l),.bool s,.string (bs m),.int .i64 e]):=by rw [<- eP];exact ai.newAt _ _ _ zm
        obtain ⟨p0,p1⟩:=Hp.out.c2;obtain ⟨rU,rV,rW,rX⟩:=kv.out.w4;obtain ⟨t0,t1,t2,t3⟩:=Ht.out.c4;replace Hb:=az Hb ae;clear ae rU rV rW rX kv OW;cases hmv : fA l V with
        | false =>
          have hr:=CB.out (by rw [uD.out,hmv];rfl);subst hr;have oG:=fun W=>Lx l V W (by have:=eF.out.1;omega);rw [hmv] at oG;have qQ:=ah oG;clear oG;go_wp2_with fail;refine bE (fun w'=>w'.cell? ⟨w.heap.size,0,none⟩ = some (.int .i64 V) /\ w'.cell? ⟨w.heap.size,1,none⟩ = some (.slice a N cap) /\ w'.cell? ⟨wr.heap.size,0,none⟩ = some (.string (bs l)) /\ w'.cell? ⟨wr.heap.size,1,none⟩ = some (.bool s) /\ w'.cell? ⟨wr.heap.size,2,none⟩ = some (.string (bs m)) /\ w'.cell? ⟨wr.heap.size,3,none⟩ = some (.int .i64 e)) (fun i=>Nat.blt i 100000) [(0,true),(1,true),(2,true),(3,true),(4,false),(5,true),(6,true),(7,true),(8,true),(9,false),(10,true),(11,true),(12,true),(13,true),(14,true),(16,true),(17,true),(15,false),(18,true),(19,true),(20,true),(21,true),(22,true),(23,true),(24,true),(25,true),(26,true),(27,true),(28,true),(29,true),(30,true),(31,true),(32,true),(33,true),(34,true),(35,true)] zk zk rfl zk zc ⟨p0,p1,t0,t1,t2,t3⟩ ?_;iterate 4 (refine pT rfl rfl ?_ (by intro w' ⟨q0,q1,q2,q3,q4,q5⟩;go_simp;try with_reducible rfl);try simp only [UU])
          refine aI rfl rfl (fun K hK=>?_);go_simp;with_reducible refine (qQ.out _).mono ?_
          rintro e w5 ⟨rfl,hq⟩;have ae : Bw W4 w5:=by first | exact hq | exact aN hq
          clear p0 p1 t0 t1 t2 t3;replace Hp:=kB Hp ae;replace HU:=kT HU ae;replace Ht:=kB Ht ae;obtain ⟨p0,p1⟩:=Hp.out.c2;obtain ⟨t0,t1,t2,t3⟩:=Ht.out.c4;replace Hb:=az Hb ae;clear ae;refine hK _ _ (fun _=>⟨p0,p1,t0,t1,t2,t3⟩) ?_;clear hK K;try simp only [UU]
          iterate 2 (refine pT rfl rfl ?_;try simp only [UU])
          refine aX rfl rfl ?_;try simp only [UU]
          refine aX rfl rfl ?_;try simp only [UU]
          refine LR rfl rfl (fun _=>⟨p0,p1,t0,t1,t2,t3⟩) ?_;try simp only [UU]
          refine aX rfl rfl ?_;try simp only [UU]
          iterate 2 (refine pT rfl rfl ?_;try simp only [UU])
          refine aX rfl rfl ?_;try simp only [UU]
          refine aX rfl rfl ?_;try simp only [UU]
          refine aX rfl rfl ?_;try simp only [UU]
          refine aX rfl rfl ?_;try simp only [UU]
          refine LR rfl rfl (fun _=>⟨p0,p1,t0,t1,t2,t3⟩) ?_;try simp only [UU]
          refine aX rfl rfl ?_;try simp only [UU]
          iterate 2 (refine pT rfl rfl ?_;try simp only [UU])
          refine aX rfl rfl ?_;try simp only [UU]
          refine aX rfl rfl ?_;try simp only [UU]
          refine aX rfl rfl ?_;try simp only [UU]
          refine aX rfl rfl ?_;try simp only [UU]
          refine aX rfl rfl ?_;try simp only [UU]
          refine aX rfl rfl ?_;try simp only [UU]
          refine aX rfl rfl ?_;try simp only [UU]
          refine aX rfl rfl ?_;try simp only [UU]
          refine aX rfl rfl ?_;try simp only [UU]
          refine aX rfl rfl ?_;try simp only [UU]
          refine aX rfl rfl ?_;try simp only [UU]
          refine aX rfl rfl ?_;try simp only [UU]
          refine aX rfl rfl ?_;try simp only [UU]
          refine aX rfl rfl ?_;try simp only [UU]
          refine pT rfl rfl ?_;try simp only [UU]
          simp only [aV];go_wp2;refine bodyPost_ret (results_tmp rfl _ _ _) rfl ⟨rfl,aJ aR.out Hb.out⟩
        | true =>
          have oG:=fun W=>Lx l V W (by have:=eF.out.1;omega);rw [hmv] at oG;have qQ:=ah oG;clear oG;by_cases hs0 : sg = 0
          . have hr:=CB.out (by rw [uD.out,hmv,hs0];rfl);subst hr hs0;go_wp2_with fail;refine bE (fun w'=>w'.cell? ⟨w.heap.size,0,none⟩ = some (.int .i64 V) /\ w'.cell? ⟨w.heap.size,1,none⟩ = some (.slice a N cap) /\ w'.cell? ⟨wr.heap.size,0,none⟩ = some (.string (bs l)) /\ w'.cell? ⟨wr.heap.size,1,none⟩ = some (.bool s) /\ w'.cell? ⟨wr.heap.size,2,none⟩ = some (.string (bs m)) /\ w'.cell? ⟨wr.heap.size,3,none⟩ = some (.int .i64 e)) (fun i=>Nat.blt i 100000) [(0,true),(1,true),(2,true),(3,true),(4,false),(5,true),(6,true),(7,true),(8,true),(9,false),(10,true),(11,true),(12,true),(13,true),(14,true),(16,true),(17,true),(15,false),(18,true),(19,true),(20,true),(21,true),(22,true),(23,true),(24,true),(25,true),(26,true),(27,true),(28,true),(29,true),(30,true),(31,true),(32,true),(33,true),(34,true),(35,true)] zk zk rfl zk zc ⟨p0,p1,t0,t1,t2,t3⟩ ?_;iterate 4 (refine pT rfl rfl ?_ (by intro w' ⟨q0,q1,q2,q3,q4,q5⟩;go_simp;try with_reducible rfl);try simp only [UU])
            refine aI rfl rfl (fun K hK=>?_);go_simp;with_reducible refine (qQ.out _).mono ?_
            rintro e w5 ⟨rfl,hq⟩;have ae : Bw W4 w5:=by first | exact hq | exact aN hq
            clear p0 p1 t0 t1 t2 t3;replace Hp:=kB Hp ae;replace HU:=kT HU ae;replace Ht:=kB Ht ae;obtain ⟨p0,p1⟩:=Hp.out.c2;obtain ⟨t0,t1,t2,t3⟩:=Ht.out.c4;replace Hb:=az Hb ae;clear ae;refine hK _ _ (fun _=>⟨p0,p1,t0,t1,t2,t3⟩) ?_;clear hK K;try simp only [UU]
            iterate 4 (refine pT rfl rfl ?_ (by intro w' ⟨q0,q1,q2,q3,q4,q5⟩;go_simp;try with_reducible rfl);try simp only [UU])
            refine aI rfl rfl (fun K hK=>?_);go_simp;with_reducible refine (lT s m e 0 jI.out _ eF.out.2).mono ?_
            rintro e w6 ⟨rfl,hq⟩;have ae : Bw w5 w6:=by first | exact hq | exact aN hq
            clear p0 p1 t0 t1 t2 t3;replace Hp:=kB Hp ae;replace HU:=kT HU ae;replace Ht:=kB Ht ae;obtain ⟨p0,p1⟩:=Hp.out.c2;obtain ⟨t0,t1,t2,t3⟩:=Ht.out.c4;replace Hb:=az Hb ae;clear ae;refine hK _ _ (fun _=>⟨p0,p1,t0,t1,t2,t3⟩) ?_;clear hK K;try simp only [UU]
            iterate 3 (refine pT rfl rfl ?_;try simp only [UU])
            refine aX rfl rfl ?_;try simp only [UU]
            refine aX rfl rfl ?_;try simp only [UU]
            refine aX rfl rfl ?_;try simp only [UU]
            refine aX rfl rfl ?_;try simp only [UU]
            refine LR rfl rfl (fun _=>⟨p0,p1,t0,t1,t2,t3⟩) ?_;try simp only [UU]
            refine aX rfl rfl ?_;try simp only [UU]
            iterate 2 (refine pT rfl rfl ?_;try simp only [UU])
            refine aX rfl rfl ?_;try simp only [UU]
            refine aX rfl rfl ?_;try simp only [UU]
            refine aX rfl rfl ?_;try simp only [UU]
            refine aX rfl rfl ?_;try simp only [UU]
            refine aX rfl rfl ?_;try simp only [UU]
            refine aX rfl rfl ?_;try simp only [UU]
            refine aX rfl rfl ?_;try simp only [UU]
            refine aX rfl rfl ?_;try simp only [UU]
            refine aX rfl rfl ?_;try simp only [UU]
            refine aX rfl rfl ?_;try simp only [UU]
            refine aX rfl rfl ?_;try simp only [UU]
            refine aX rfl rfl ?_;try simp only [UU]
            refine aX rfl rfl ?_;try simp only [UU]
            refine aX rfl rfl ?_;try simp only [UU]
            refine pT rfl rfl ?_;try simp only [UU]
            simp only [aV];go_wp2;refine bodyPost_ret (results_tmp rfl _ _ _) rfl ⟨rfl,aJ aR.out Hb.out⟩
          . have hs1 : (sg == 0) = false:=by simpa using hs0
            by_cases hc : canon X = (s,m,e)
            . have hcb : (canon X == (s,m,e)) = true:=by simpa using hc
              have hne:=LH X s m e false hcb;clear hc;by_cases jv : k = 0
              . have hg:=uD.out;rw [hmv,hs1,hcb,jv] at hg;have GD : Hid ((List.range (k + 1)).all (nY V ts) = true):=by show _ = _;rw [Oh.out,jv,hg];rfl
                have hk1 : decide (0 < k) = false:=by simp;omega
                clear hg hcb jv;go_wp2_with fail;refine bE (fun w'=>w'.cell? ⟨w.heap.size,0,none⟩ = some (.int .i64 V) /\ w'.cell? ⟨w.heap.size,1,none⟩ = some (.slice a N cap) /\ w'.cell? ⟨wr.heap.size,0,none⟩ = some (.string (bs l)) /\ w'.cell? ⟨wr.heap.size,1,none⟩ = some (.bool s) /\ w'.cell? ⟨wr.heap.size,2,none⟩ = some (.string (bs m)) /\ w'.cell? ⟨wr.heap.size,3,none⟩ = some (.int .i64 e)) (fun i=>Nat.blt i 100000) [(0,true),(1,true),(2,true),(3,true),(4,false),(5,true),(6,true),(7,true),(8,true),(9,false),(10,true),(11,true),(12,true),(13,true),(14,true),(16,true),(17,true),(15,false),(18,true),(19,true),(20,true),(21,true),(22,true),(23,true),(24,true),(25,true),(26,true),(27,true),(28,true),(29,true),(30,true),(31,true),(32,true),(33,true),(34,true),(35,true)] zk zk rfl zk zc ⟨p0,p1,t0,t1,t2,t3⟩ ?_;iterate 4 (refine pT rfl rfl ?_ (by intro w' ⟨q0,q1,q2,q3,q4,q5⟩;go_simp;try with_reducible rfl);try simp only [UU])
                refine aI rfl rfl (fun K hK=>?_);go_simp;with_reducible refine (qQ.out _).mono ?_
                rintro e w5 ⟨rfl,hq⟩;have ae : Bw W4 w5:=by first | exact hq | exact aN hq
                clear p0 p1 t0 t1 t2 t3;replace Hp:=kB Hp ae;replace HU:=kT HU ae;replace Ht:=kB Ht ae;obtain ⟨p0,p1⟩:=Hp.out.c2;obtain ⟨t0,t1,t2,t3⟩:=Ht.out.c4;replace Hb:=az Hb ae;clear ae;refine hK _ _ (fun _=>⟨p0,p1,t0,t1,t2,t3⟩) ?_;clear hK K;try simp only [UU]
                iterate 4 (refine pT rfl rfl ?_ (by intro w' ⟨q0,q1,q2,q3,q4,q5⟩;go_simp;try with_reducible rfl);try simp only [UU])
                refine aI rfl rfl (fun K hK=>?_);go_simp;with_reducible refine (lT s m e sg jI.out _ eF.out.2).mono ?_
                rintro e w6 ⟨rfl,hq⟩;have ae : Bw w5 w6:=by first | exact hq | exact aN hq
                clear p0 p1 t0 t1 t2 t3;replace Hp:=kB Hp ae;replace HU:=kT HU ae;replace Ht:=kB Ht ae;obtain ⟨p0,p1⟩:=Hp.out.c2;obtain ⟨t0,t1,t2,t3⟩:=Ht.out.c4;replace Hb:=az Hb ae;clear ae;refine hK _ _ (fun _=>⟨p0,p1,t0,t1,t2,t3⟩) ?_;clear hK K;try simp only [UU]
                iterate 7 (refine pT rfl rfl ?_ (by intro w' ⟨q0,q1,q2,q3,q4,q5⟩;go_simp;try with_reducible rfl);try simp only [UU])
                refine aI rfl rfl (fun K hK=>?_);go_simp;with_reducible refine (nX s m e X HX.out _ eF.out.2 (by first | exact HU.out | exact aB.drew HU.out | exact aB.alloc HU.out _ | exact aB.drew (aB.alloc HU.out _) | exact aB.alloc (aB.drew HU.out) _)).mono ?_
                rintro e w7 ⟨rfl,hq⟩;have ae : Bw w6 w7:=by first | exact hq | exact aN hq
                clear p0 p1 t0 t1 t2 t3;replace Hp:=kB Hp ae;replace HU:=kT HU ae;replace Ht:=kB Ht ae;obtain ⟨p0,p1⟩:=Hp.out.c2;obtain ⟨t0,t1,t2,t3⟩:=Ht.out.c4;replace Hb:=az Hb ae;clear ae;refine hK _ _ (fun _=>⟨p0,p1,t0,t1,t2,t3⟩) ?_;clear hK K;try simp only [UU]
                iterate 6 (refine pT rfl rfl ?_;try simp only [UU])
                refine aX rfl rfl ?_;try simp only [UU]
                refine aX rfl rfl ?_;try simp only [UU]
                refine aX rfl rfl ?_;try simp only [UU]
                refine aX rfl rfl ?_;try simp only [UU]
                refine aX rfl rfl ?_;try simp only [UU]
                refine aX rfl rfl ?_;try simp only [UU]
                refine aX rfl rfl ?_;try simp only [UU]
                refine aX rfl rfl ?_;try simp only [UU]
                refine aX rfl rfl ?_;try simp only [UU]
                refine aX rfl rfl ?_;try simp only [UU]
                iterate 2 (refine pT rfl rfl ?_;try simp only [UU])
                simp only [aV];go_wp2;go_roundw;case rel=>exact ⟨k + 1,by omega,by go_num,GD.out,Hp.out,aJ aR.out Hb.out⟩
                case measure=>simp [intOf];omega
              . have lD : k - 1 < ts.length:=by omega
                obtain ⟨l',s',m',e',hx'⟩ : ∃ l s m e,ts[k - 1] = (l,s,m,e):=⟨_,_,_,_,rfl⟩;obtain ⟨b',o',pI,pQ⟩:=(Ha.out.below (aJ aR.out Hb.out)).term (k - 1) lD hx';have hab:=jF.out;rw [hab] at pI;simp only [Option.some.injEq,Addr.mk.injEq,and_true] at pI;obtain ⟨rfl,rfl⟩:=pI;have Qp : ts.getD (k - 1) default = (l',s',m',e'):=by simp [lD,hx']
                have hg:=uD.out;rw [Qp,hmv,hs1,hcb] at hg;have SQ : (k == 0) = false:=by simpa using jv
                rw [SQ] at hg;have hk1 : decide (0 < k) = true:=by simp;omega
                have Kr : IntKind.i64.wrap ((k : Int) - 1) = ((k - 1 : Nat) : Int):=by rw [IntKind.wrap_i64];omega
                have Km:=iH N cap (k - 1) ((k - 1 : Nat) : Int) hab zo rfl;obtain ⟨kp,xK⟩ : ∃ kp,k - 1 = kp:=⟨_,rfl⟩;rw [xK] at Km Kr pQ;have aeX : kp < N:=by omega
                have dm : Hid (bj W4 b (o + kp * 4) [.string (bs l'),.bool s',.string (bs m'),.int .i64 e']):=pQ;have ak1:=ah xK;clear pQ jv SQ hcb Qp hx' xK hab;cases pK : Op.bytesLess (bs l').toList (bs l).toList with
                | true =>
                  have GD : Hid ((List.range (k + 1)).all (nY V ts) = true):=by show _ = _;rw [Oh.out,hg];simpa using pK
                  clear hg;go_wp2_with fail;obtain ⟨p0,p1⟩:=Hp.out.c2;obtain ⟨t0,t1,t2,t3⟩:=Ht.out.c4;have gB : W4.cell? ⟨b,o + kp * 4,none⟩ = some (.string (bs l')):=dm.out.cell 0 zm;have HU : Hid (aB W4):=HU.out;refine bE (fun w'=>w'.cell? ⟨w.heap.size,0,none⟩ = some (.int .i64 V) /\ w'.cell? ⟨w.heap.size,1,none⟩ = some (.slice a N cap) /\ w'.cell? ⟨wr.heap.size,0,none⟩ = some (.string (bs l)) /\ w'.cell? ⟨wr.heap.size,1,none⟩ = some (.bool s) /\ w'.cell? ⟨wr.heap.size,2,none⟩ = some (.string (bs m)) /\ w'.cell? ⟨wr.heap.size,3,none⟩ = some (.int .i64 e) /\ w'.cell? ⟨b,o + kp * 4,none⟩ = some (.string (bs l'))) (fun i=>Nat.blt i 100000) [(0,true),(1,true),(2,true),(3,true),(4,false),(5,true),(6,true),(7,true),(8,true),(9,false),(10,true),(11,true),(12,true),(13,true),(14,true),(16,true),(17,true),(15,false),(18,true),(19,true),(20,true),(21,true),(22,true),(23,true),(24,true),(25,true),(26,true),(27,true),(28,true),(29,true),(30,true),(31,true),(32,true),(33,true),(34,true),(35,true)] zk zk rfl zk zc ⟨p0,p1,t0,t1,t2,t3,gB⟩ ?_;iterate 4 (refine pT rfl rfl ?_ (by intro w' ⟨q0,q1,q2,q3,q4,q5,q6⟩;go_simp;try with_reducible rfl);try simp only [UU])
                  refine aI rfl rfl (fun K hK=>?_);go_simp;with_reducible refine (qQ.out _).mono ?_
                  rintro e w5 ⟨rfl,hq⟩;have ae : Bw W4 w5:=by first | exact hq | exact aN hq
                  clear p0 p1 t0 t1 t2 t3 gB;replace Hp:=kB Hp ae;replace Ht:=kB Ht ae;replace dm:=kW dm ae;replace HU:=kT HU ae;obtain ⟨p0,p1⟩:=Hp.out.c2;obtain ⟨t0,t1,t2,t3⟩:=Ht.out.c4;have gB : w5.cell? ⟨b,o + kp * 4,none⟩ = some (.string (bs l')):=dm.out.cell 0 zm;replace Hb:=az Hb ae;clear ae;refine hK _ _ (fun _=>⟨p0,p1,t0,t1,t2,t3,gB⟩) ?_;clear hK K;try simp only [UU]
                  iterate 4 (refine pT rfl rfl ?_ (by intro w' ⟨q0,q1,q2,q3,q4,q5,q6⟩;go_simp;try with_reducible rfl);try simp only [UU])
                  refine aI rfl rfl (fun K hK=>?_);go_simp;with_reducible refine (lT s m e sg jI.out _ eF.out.2).mono ?_
                  rintro e w6 ⟨rfl,hq⟩;have ae : Bw w5 w6:=by first | exact hq | exact aN hq
                  clear p0 p1 t0 t1 t2 t3 gB;replace Hp:=kB Hp ae;replace Ht:=kB Ht ae;replace dm:=kW dm ae;replace HU:=kT HU ae;obtain ⟨p0,p1⟩:=Hp.out.c2;obtain ⟨t0,t1,t2,t3⟩:=Ht.out.c4;have gB : w6.cell? ⟨b,o + kp * 4,none⟩ = some (.string (bs l')):=dm.out.cell 0 zm;replace Hb:=az Hb ae;clear ae;refine hK _ _ (fun _=>⟨p0,p1,t0,t1,t2,t3,gB⟩) ?_;clear hK K;try simp only [UU]
                  iterate 7 (refine pT rfl rfl ?_ (by intro w' ⟨q0,q1,q2,q3,q4,q5,q6⟩;go_simp;try with_reducible rfl);try simp only [UU])
                  refine aI rfl rfl (fun K hK=>?_);go_simp;with_reducible refine (nX s m e X HX.out _ eF.out.2 (by first | exact HU.out | exact aB.drew HU.out | exact aB.alloc HU.out _ | exact aB.drew (aB.alloc HU.out _) | exact aB.alloc (aB.drew HU.out) _)).mono ?_
                  rintro e w7 ⟨rfl,hq⟩;have ae : Bw w6 w7:=by first | exact hq | exact aN hq
                  clear p0 p1 t0 t1 t2 t3 gB;replace Hp:=kB Hp ae;replace Ht:=kB Ht ae;replace dm:=kW dm ae;replace HU:=kT HU ae;obtain ⟨p0,p1⟩:=Hp.out.c2;obtain ⟨t0,t1,t2,t3⟩:=Ht.out.c4;have gB : w7.cell? ⟨b,o + kp * 4,none⟩ = some (.string (bs l')):=dm.out.cell 0 zm;replace Hb:=az Hb ae;clear ae;refine hK _ _ (fun _=>⟨p0,p1,t0,t1,t2,t3,gB⟩) ?_;clear hK K;try simp only [UU]
                  iterate 18 (refine pT rfl rfl ?_ (by intro w' ⟨q0,q1,q2,q3,q4,q5,q6⟩;go_simp;try with_reducible rfl);try simp only [UU])
                  simp only [aV];go_wp2;go_roundw;case rel=>exact ⟨k + 1,by omega,by go_num,GD.out,Hp.out,aJ aR.out Hb.out⟩
                  case measure=>simp [intOf];omega
                | false =>
                  have hr:=CB.out (by rw [hg];simpa using pK);subst hr;clear hg;go_wp2_with fail;obtain ⟨p0,p1⟩:=Hp.out.c2;obtain ⟨t0,t1,t2,t3⟩:=Ht.out.c4;have gB : W4.cell? ⟨b,o + kp * 4,none⟩ = some (.string (bs l')):=dm.out.cell 0 zm;have HU : Hid (aB W4):=HU.out;refine bE (fun w'=>w'.cell? ⟨w.heap.size,0,none⟩ = some (.int .i64 V) /\ w'.cell? ⟨w.heap.size,1,none⟩ = some (.slice a N cap) /\ w'.cell? ⟨wr.heap.size,0,none⟩ = some (.string (bs l)) /\ w'.cell? ⟨wr.heap.size,1,none⟩ = some (.bool s) /\ w'.cell? ⟨wr.heap.size,2,none⟩ = some (.string (bs m)) /\ w'.cell? ⟨wr.heap.size,3,none⟩ = some (.int .i64 e) /\ w'.cell? ⟨b,o + kp * 4,none⟩ = some (.string (bs l'))) (fun i=>Nat.blt i 100000) [(0,true),(1,true),(2,true),(3,true),(4,false),(5,true),(6,true),(7,true),(8,true),(9,false),(10,true),(11,true),(12,true),(13,true),(14,true),(16,true),(17,true),(15,false),(18,true),(19,true),(20,true),(21,true),(22,true),(23,true),(24,true),(25,true),(26,true),(27,true),(28,true),(29,true),(30,true),(31,true),(32,true),(33,true),(34,true),(35,true)] zk zk rfl zk zc ⟨p0,p1,t0,t1,t2,t3,gB⟩ ?_;iterate 4 (refine pT rfl rfl ?_ (by intro w' ⟨q0,q1,q2,q3,q4,q5,q6⟩;go_simp;try with_reducible rfl);try simp only [UU])
                  refine aI rfl rfl (fun K hK=>?_);go_simp;with_reducible refine (qQ.out _).mono ?_
                  rintro e w5 ⟨rfl,hq⟩;have ae : Bw W4 w5:=by first | exact hq | exact aN hq
                  clear p0 p1 t0 t1 t2 t3 gB;replace Hp:=kB Hp ae;replace Ht:=kB Ht ae;replace dm:=kW dm ae;replace HU:=kT HU ae;obtain ⟨p0,p1⟩:=Hp.out.c2;obtain ⟨t0,t1,t2,t3⟩:=Ht.out.c4;have gB : w5.cell? ⟨b,o + kp * 4,none⟩ = some (.string (bs l')):=dm.out.cell 0 zm;replace Hb:=az Hb ae;clear ae;refine hK _ _ (fun _=>⟨p0,p1,t0,t1,t2,t3,gB⟩) ?_;clear hK K;try simp only [UU]
                  iterate 4 (refine pT rfl rfl ?_ (by intro w' ⟨q0,q1,q2,q3,q4,q5,q6⟩;go_simp;try with_reducible rfl);try simp only [UU])
                  refine aI rfl rfl (fun K hK=>?_);go_simp;with_reducible refine (lT s m e sg jI.out _ eF.out.2).mono ?_
                  rintro e w6 ⟨rfl,hq⟩;have ae : Bw w5 w6:=by first | exact hq | exact aN hq
                  clear p0 p1 t0 t1 t2 t3 gB;replace Hp:=kB Hp ae;replace Ht:=kB Ht ae;replace dm:=kW dm ae;replace HU:=kT HU ae;obtain ⟨p0,p1⟩:=Hp.out.c2;obtain ⟨t0,t1,t2,t3⟩:=Ht.out.c4;have gB : w6.cell? ⟨b,o + kp * 4,none⟩ = some (.string (bs l')):=dm.out.cell 0 zm;replace Hb:=az Hb ae;clear ae;refine hK _ _ (fun _=>⟨p0,p1,t0,t1,t2,t3,gB⟩) ?_;clear hK K;try simp only [UU]
                  iterate 7 (refine pT rfl rfl ?_ (by intro w' ⟨q0,q1,q2,q3,q4,q5,q6⟩;go_simp;try with_reducible rfl);try simp only [UU])
                  refine aI rfl rfl (fun K hK=>?_);go_simp;with_reducible refine (nX s m e X HX.out _ eF.out.2 (by first | exact HU.out | exact aB.drew HU.out | exact aB.alloc HU.out _ | exact aB.drew (aB.alloc HU.out _) | exact aB.alloc (aB.drew HU.out) _)).mono ?_
                  rintro e w7 ⟨rfl,hq⟩;have ae : Bw w6 w7:=by first | exact hq | exact aN hq
                  clear p0 p1 t0 t1 t2 t3 gB;replace Hp:=kB Hp ae;replace Ht:=kB Ht ae;replace dm:=kW dm ae;replace HU:=kT HU ae;obtain ⟨p0,p1⟩:=Hp.out.c2;obtain ⟨t0,t1,t2,t3⟩:=Ht.out.c4;have gB : w7.cell? ⟨b,o + kp * 4,none⟩ = some (.string (bs l')):=dm.out.cell 0 zm;replace Hb:=az Hb ae;clear ae;refine hK _ _ (fun _=>⟨p0,p1,t0,t1,t2,t3,gB⟩) ?_;clear hK K;try simp only [UU]
                  iterate 18 (refine pT rfl rfl ?_ (by intro w' ⟨q0,q1,q2,q3,q4,q5,q6⟩;go_simp;try with_reducible rfl);try simp only [UU])
                  simp only [aV];go_wp2;refine bodyPost_ret (results_tmp rfl _ _ _) rfl ⟨rfl,aJ aR.out Hb.out⟩
            . have hr:=CB.out (by
               rw [uD.out,hmv,hs1];have : (canon X == (s,m,e)) = false:=by simpa using hc
               rw [this];rfl)
              subst hr;have hne:=LH X s m e true (by simpa using hc);clear hc;go_wp2_with fail;refine bE (fun w'=>w'.cell? ⟨w.heap.size,0,none⟩ = some (.int .i64 V) /\ w'.cell? ⟨w.heap.size,1,none⟩ = some (.slice a N cap) /\ w'.cell? ⟨wr.heap.size,0,none⟩ = some (.string (bs l)) /\ w'.cell? ⟨wr.heap.size,1,none⟩ = some (.bool s) /\ w'.cell? ⟨wr.heap.size,2,none⟩ = some (.string (bs m)) /\ w'.cell? ⟨wr.heap.size,3,none⟩ = some (.int .i64 e)) (fun i=>Nat.blt i 100000) [(0,true),(1,true),(2,true),(3,true),(4,false),(5,true),(6,true),(7,true),(8,true),(9,false),(10,true),(11,true),(12,true),(13,true),(14,true),(16,true),(17,true),(15,false),(18,true),(19,true),(20,true),(21,true),(22,true),(23,true),(24,true),(25,true),(26,true),(27,true),(28,true),(29,true),(30,true),(31,true),(32,true),(33,true),(34,true),(35,true)] zk zk rfl zk zc ⟨p0,p1,t0,t1,t2,t3⟩ ?_;iterate 4 (refine pT rfl rfl ?_ (by intro w' ⟨q0,q1,q2,q3,q4,q5⟩;go_simp;try with_reducible rfl);try simp only [UU])
              refine aI rfl rfl (fun K hK=>?_);go_simp;with_reducible refine (qQ.out _).mono ?_
              rintro e w5 ⟨rfl,hq⟩;have ae : Bw W4 w5:=by first | exact hq | exact aN hq
              clear p0 p1 t0 t1 t2 t3;replace Hp:=kB Hp ae;replace HU:=kT HU ae;replace Ht:=kB Ht ae;obtain ⟨p0,p1⟩:=Hp.out.c2;obtain ⟨t0,t1,t2,t3⟩:=Ht.out.c4;replace Hb:=az Hb ae;clear ae;refine hK _ _ (fun _=>⟨p0,p1,t0,t1,t2,t3⟩) ?_;clear hK K;try simp only [UU]
              iterate 4 (refine pT rfl rfl ?_ (by intro w' ⟨q0,q1,q2,q3,q4,q5⟩;go_simp;try with_reducible rfl);try simp only [UU])
              refine aI rfl rfl (fun K hK=>?_);go_simp;with_reducible refine (lT s m e sg jI.out _ eF.out.2).mono ?_
              rintro e w6 ⟨rfl,hq⟩;have ae : Bw w5 w6:=by first | exact hq | exact aN hq
              clear p0 p1 t0 t1 t2 t3;replace Hp:=kB Hp ae;replace HU:=kT HU ae;replace Ht:=kB Ht ae;obtain ⟨p0,p1⟩:=Hp.out.c2;obtain ⟨t0,t1,t2,t3⟩:=Ht.out.c4;replace Hb:=az Hb ae;clear ae;refine hK _ _ (fun _=>⟨p0,p1,t0,t1,t2,t3⟩) ?_;clear hK K;try simp only [UU]
              iterate 7 (refine pT rfl rfl ?_ (by intro w' ⟨q0,q1,q2,q3,q4,q5⟩;go_simp;try with_reducible rfl);try simp only [UU])
              refine aI rfl rfl (fun K hK=>?_);go_simp;with_reducible refine (nX s m e X HX.out _ eF.out.2 (by first | exact HU.out | exact aB.drew HU.out | exact aB.alloc HU.out _ | exact aB.drew (aB.alloc HU.out _) | exact aB.alloc (aB.drew HU.out) _)).mono ?_
              rintro e w7 ⟨rfl,hq⟩;have ae : Bw w6 w7:=by first | exact hq | exact aN hq
              clear p0 p1 t0 t1 t2 t3;replace Hp:=kB Hp ae;replace HU:=kT HU ae;replace Ht:=kB Ht ae;obtain ⟨p0,p1⟩:=Hp.out.c2;obtain ⟨t0,t1,t2,t3⟩:=Ht.out.c4;replace Hb:=az Hb ae;clear ae;refine hK _ _ (fun _=>⟨p0,p1,t0,t1,t2,t3⟩) ?_;clear hK K;try simp only [UU]
              iterate 3 (refine pT rfl rfl ?_;try simp only [UU])
              refine aX rfl rfl ?_;try simp only [UU]
              refine aX rfl rfl ?_;try simp only [UU]
              refine aX rfl rfl ?_;try simp only [UU]
              refine aX rfl rfl ?_;try simp only [UU]
              refine aX rfl rfl ?_;try simp only [UU]
              refine aX rfl rfl ?_;try simp only [UU]
              refine aX rfl rfl ?_;try simp only [UU]
              refine aX rfl rfl ?_;try simp only [UU]
              refine aX rfl rfl ?_;try simp only [UU]
              refine aX rfl rfl ?_;try simp only [UU]
              refine aX rfl rfl ?_;try simp only [UU]
              refine aX rfl rfl ?_;try simp only [UU]
              refine aX rfl rfl ?_;try simp only [UU]
              refine aX rfl rfl ?_;try simp only [UU]
              refine pT rfl rfl ?_;try simp only [UU]
              simp only [aV];go_wp2;refine bodyPost_ret (results_tmp rfl _ _ _) rfl ⟨rfl,aJ aR.out Hb.out⟩
      . obtain rfl : k = N:=by omega
        have hr : R = 0:=by rw [<- hR.out,if_pos mQ]
        subst hr;go_wp2;refine bodyPost_ret (results_tmp rfl _ _ _) rfl ⟨rfl,pb⟩
 . have hR:=HR.out;rw [if_pos h1] at hR;clear HR;subst hR;go_wp2;refine bodyPost_ret (v:=.int .i64 1) (by simp [results,Tryz.results77,go_sem]) rfl ⟨rfl,?_⟩;(repeat first | exact Hb.out | (refine Below.setCell ?_ (by have:=Hb.out.size;first | (dsimp only;omega) | (show _ <= _;omega) | (simp<;>omega)) _) | (refine Below.alloc ?_ zt _) | refine Below.drew ?_)
theorem abx (bk k g n c : Nat) (z : Int) (w : World) (hk : w.cell? ⟨bk,0,none⟩ = some (.int .i64 (k : Int))) (hkn : k < n) (h0 : w.cell? ⟨g,k * 2,none⟩ = some (.bool (au z))) (h1 : w.cell? ⟨g,k * 2 + 1,none⟩ = some (.string (bs (nt z.natAbs)))) (hz : (nt z.natAbs).length <= 1099511627776) :
 Calls Tryz.prog 127 #[.slice (some ⟨g,0,none⟩) n c,.pointer (some ⟨bk,0,none⟩)] w fun e w'=>e = .returned (.bool (decide (z ≠ 0))) /\ Bw w w':=by
 have bz:=rN n c k (k : Int) (show some (⟨g,0,none⟩ : Addr) = some ⟨g,0,none⟩ from rfl) hkn rfl;rw [Nat.zero_add] at bz;have Hz:=ah hz;obtain ⟨s,hs⟩ : ∃ s,au z = s:=⟨_,rfl⟩;obtain ⟨l,hl⟩ : ∃ l,nt z.natAbs = l:=⟨_,rfl⟩;have gJ:=fun W=>Cg (au z) (nt z.natAbs) W hz;rw [eK] at gJ;rw [hs,hl] at gJ;rw [hs] at h0;rw [hl] at h1;obtain ⟨t,ht⟩ : ∃ t,dw z = t:=⟨_,rfl⟩;rw [ht] at gJ;have hd : decide (z ≠ 0) = decide (t ≠ 0):=by
  rw [<- ht];unfold dw;by_cases h : z = 0
  . simp [h]
  . by_cases h2 : z < 0
    . simp [h,h2]
    . simp [h,h2]
 rw [hd];have jI:=ah gJ;clear gJ hd ht hs hl hz Hz;have Hb : Hid (Bw w w):=Below.refl _ _;go_enter Tryz.func127,Tryz.ntmps127;go_wp2_with fail;refine (jI.out _).mono ?_;rintro e w1 ⟨rfl,ae⟩;replace Hb:=az Hb ae;clear ae h0 h1 hk bz;go_wp2;refine bodyPost_ret (results_tmp rfl _ _ _) rfl ⟨?_,Hb.out⟩;by_cases h : t = 0<;>simp [h]
theorem afA (p : Value -> Bool) (vs : List Value) (q : Nat -> Bool) (c : Nat) (h : ∀ i (hi : i < vs.length),p vs[i] = q i) :
 idxFrom p vs c = match (List.range vs.length).find? q with | none=>-1 | some m=>((c + m : Nat) : Int):=by
 induction vs generalizing c q with
 | nil=>rfl
 | cons v vs ih =>
   have h0:=h 0 zm;have hs:=ih (fun i=>q (i + 1)) (c + 1) (fun i hi=>h (i + 1) (by simpa using hi));simp only [List.getElem_cons_zero] at h0;rw [List.length_cons,List.range_succ_eq_map,List.find?_cons];unfold idxFrom;rw [h0];cases hq : q 0 with
   | true=>simp
   | false =>
     rw [hs,List.find?_map];simp only [Bool.false_eq_true,if_false];have e : (q ∘ Nat.succ) = fun i=>q (i + 1):=rfl;rw [e];cases (List.range vs.length).find? fun i=>q (i + 1) with
     | none=>rfl
     | some m=>simp only [Option.map_some];congr 1;omega
theorem ah4 (p : Value -> Bool) (vals : List Value) (f : Nat -> Nat -> Int) (n k : Nat) (hn : vals.length = n) (h : ∀ i (hi : i < vals.length),p vals[i] = decide (f i k ≠ 0)) :
 idxFrom p (vals.drop k) 0 = match mz f n k with | none=>-1 | some m=>(m : Int):=by
 rw [afA p (vals.drop k) (fun i=>f (k + i) k != 0) 0 (fun i hi=>by
  rw [List.getElem_drop,h]
  simp [bne,Bool.beq_eq_decide_eq])]
 unfold mz;rw [List.length_drop,hn];simp only [Nat.zero_add]
theorem aki (x y : Int) (w : World) (hx : (nt x.natAbs).length <= 34359738368) (hy : (nt y.natAbs).length <= 34359738368) (h0 : y ≠ 0) (hd : y ∣ x) :
 Calls Tryz.prog 128 #[.agg #[.bool (au x),.string (bs (nt x.natAbs))],.agg #[.bool (au y),.string (bs (nt y.natAbs))]] w fun e w'=>∃ r,e = .returned (.tuple #[cn (x / y),r,.bool true]) /\ Bw w w':=by
 have h:=akj (au x) (au y) (nt x.natAbs) (nt y.natAbs) w hx hy (by rw [gM];omega) (by rw [gM,gM];exact Nat.mod_eq_zero_of_dvd (Int.natAbs_dvd_natAbs.2 hd));rw [eK,eK] at h;exact h
end Go.Proofs.YtdaadlblknpipaaGreatDoor
namespace Go.Proofs.YtdaadlblknpipaaGreatDoor
open Go.RowKit
def dW (f : Nat -> Nat -> Int) (n : Nat) : List (List Int):=(List.range n).map fun a=>(List.range n).map (f a)
theorem BX (f : Nat -> Nat -> Int) (n : Nat) : (dW f n).length = n:=by simp [dW]
theorem FC (f : Nat -> Nat -> Int) (n i : Nat) (h : i < n) : (dW f n).getD i [] = (List.range n).map (f i):=by simp [dW,List.getD_eq_getElem?_getD,h]
theorem ajO (f : Nat -> Nat -> Int) (n i j : Nat) (h : i < n) (h' : j < n) : ((dW f n).getD i []).getD j 0 = f i j:=by rw [FC f n i h];simp [List.getD_eq_getElem?_getD,h']
theorem ajP (f : Nat -> Nat -> Int) (n i j : Nat) (y : Int) (h : i < n) : (dW f n).set i (((dW f n).getD i []).set j y) = dW (fun a b=>if a = i /\ b = j then y else f a b) n:=by
 rw [FC f n i h];apply List.ext_getElem
 . simp [dW]
 . intro a h1 h2;have ha : a < n:=by simpa [dW] using h2
   rw [List.getElem_set];split
   . rename_i e
     subst e;apply List.ext_getElem
     . simp [dW]
     . intro b h3 h4;have hb : b < n:=by simpa [dW] using h4
       rw [List.getElem_set];by_cases e2 : j = b
       . subst e2;simp [dW]
       . have e3 : ¬ b = j:=fun e=>e2 e.symm;simp [dW,e2,e3]
   . rename_i e
     have e3 : ¬ a = i:=fun e'=>e e'.symm;simp [dW,e3]
theorem ajQ (f : Nat -> Nat -> Int) (n k m : Nat) (h : k < n) (h' : m < n) : ((dW f n).set k ((dW f n).getD m [])).set m ((dW f n).getD k []) = dW (bK f k m) n:=by
 apply List.ext_getElem
 . simp [dW]
 . intro a h1 h2;have ha : a < n:=by simpa [dW] using h2
   have hs:=Mq (dW f n) [] k m (by rw [BX];exact h) (by rw [BX];exact h') a (by rw [BX];exact ha);rw [List.getD_eq_getElem?_getD,List.getElem?_eq_getElem h1] at hs;simp only [Option.getD_some] at hs;rw [hs,FC f n _ (FA h h' ha)];simp [dW,bK,swp]
theorem yl {w : World} {base : Nat} {e : TypeId} {size n cap g : Nat} {xs : List Value} (h : w.ownsRow base e size (.slice (some ⟨g,0,none⟩) n cap) n xs) : base <= g /\ ∃ cur,ai w g e cur:=by
 rcases h.2 with ⟨h1,_⟩ | ⟨g',cap',cur,h1,hb,hg,_,_,_,hx⟩
 . simp at h1
 . simp only [Value.slice.injEq,Option.some.injEq,Addr.mk.injEq,and_true,true_and] at h1;obtain ⟨rfl,rfl⟩:=h1;exact ⟨hb,cur.toList,by unfold ai;simpa using hg⟩
theorem LL {w : World} {base : Nat} {e : TypeId} {size n : Nat} {v : Value} {xs : List Value} (h : w.ownsRow base e size v n xs) (hn : 1 <= n) : ∃ g cap,v = .slice (some ⟨g,0,none⟩) n cap:=by
 rcases h.2 with ⟨h1,h2⟩ | ⟨g',cap',cur,h1,_⟩
 . omega
 . exact ⟨g',cap',h1⟩
theorem ajN {f g : Nat -> Nat -> Int} (n : Nat) (h : ∀ a b,a < n -> b < n -> f a b = g a b) : dW f n = dW g n:=by unfold dW;refine List.map_congr_left (fun a ha=>List.map_congr_left (fun b hb=>h a b (List.mem_range.1 ha) (List.mem_range.1 hb)))
def aaF (w : World) (go L top : Nat) : Prop:=go < top /\ ∀ m g n c,m < L -> w.cell? ⟨go,m,none⟩ = some (.slice (some ⟨g,0,none⟩) n c) -> g < top
def BS (w0 w : World) (base n go cap top : Nat) (f : Nat -> Nat -> Int) : Prop:=
 gP w base n (dW f n) n (.slice (some ⟨go,0,none⟩) n cap) /\ aaF w go n top /\ Below base w0 w /\ top <= w.heap.size
theorem BS.begin {w : World} {base n : Nat} {f : Nat -> Nat -> Int} {v : Value} (h : gP w base n (dW f n) n v) (hn : 1 <= n) : ∃ go cap,v = .slice (some ⟨go,0,none⟩) n cap /\ n <= cap /\ BS w w base n go cap w.heap.size f:=by
 have h0:=h;obtain ⟨vals,hl,ho,hv,_⟩:=h;obtain ⟨go,cap,rfl⟩:=LL ho hn;refine ⟨go,cap,rfl,Fl ho,h0,⟨?_,fun m g n' c hm hc=>?_⟩,Below.refl _ _,Nat.le_refl _⟩
 . obtain ⟨_,cur,hb⟩:=yl ho;exact hb.lt
 . have hm2 : m < vals.length:=by omega
   rw [jZ ho m hm2] at hc;simp only [Option.some.injEq] at hc;have hrow:=hv m hm2;obtain ⟨g',cap',e⟩:=LL hrow hn;rw [e] at hrow hc;simp at hc;obtain ⟨rfl,rfl,rfl⟩:=hc;exact (yl hrow).2.choose_spec.lt
theorem BS.below {w0 w w' : World} {base n go cap top : Nat} {f : Nat -> Nat -> Int} (h : BS w0 w base n go cap top f) (hb : Bw w w') (vk : base <= top) : BS w0 w' base n go cap top f:=by
 obtain ⟨h1,⟨h2,h3⟩,h4,h5⟩:=h;have hs:=hb.size;refine ⟨h1.below hb,⟨h2,fun m g n' c hm hc=>h3 m g n' c hm ?_⟩,?_,by omega⟩
 . rw [World.cell?_of_block (a:=⟨go,m,none⟩) (w:=w) (hb.block go zo)] at hc;exact hc
 . exact h4.trans (hb.mono zo)
theorem BS.congr {w0 w : World} {base n go cap top : Nat} {f g : Nat -> Nat -> Int} (h : BS w0 w base n go cap top f) (he : ∀ a b,a < n -> b < n -> f a b = g a b) : BS w0 w base n go cap top g:=by unfold BS at *;rw [<- ajN n he];exact h
theorem BS.row {w0 w : World} {base n go cap top : Nat} {f : Nat -> Nat -> Int} (h : BS w0 w base n go cap top f) (i : Nat) (hi : i < n) :
 ∃ g c,base <= g /\ g < top /\ w.cell? ⟨go,i,none⟩ = some (.slice (some ⟨g,0,none⟩) n c) /\ (∀ j,j < n -> w.cell? ⟨g,j * 2,none⟩ = some (.bool (au (f i j))) /\ w.cell? ⟨g,j * 2 + 1,none⟩ = some (.string (bs (nt (f i j).natAbs)))) /\
  (∀ q,w.frozen? ⟨g,q,none⟩ = false) /\
  ∀ j,j < n -> ∀ y : Int,BS w0 ((w.setCell ⟨g,j * 2,none⟩ (.bool (au y))).setCell ⟨g,j * 2 + 1,none⟩ (.string (bs (nt y.natAbs)))) base n go cap top (fun a b=>if a = i /\ b = j then y else f a b):=by
 obtain ⟨h1,⟨h2,h3⟩,h4,h5⟩:=h;have hR : (dW f n).length = n:=BX f n;have hr : ((dW f n).getD i []).length = n:=by rw [FC f n i hi];simp
 obtain ⟨vals,hl,ho,hv,hd⟩:=id h1;have hi2 : i < vals.length:=by omega
 have hrow:=hv i hi2;obtain ⟨g,c,e⟩:=LL hrow zo;rw [e] at hrow;obtain ⟨hbg,cur,hblk⟩:=yl hrow;have hc0 : w.cell? ⟨go,i,none⟩ = some (.slice (some ⟨g,0,none⟩) n c):=by rw [jZ ho i hi2,e]
 refine ⟨g,c,hbg,h3 i g n c hi hc0,hc0,fun j hj=>?_,fun q=>hblk.free q,fun j hj y=>?_⟩
 . obtain ⟨go',cap',g',c',e0,_,_,_,e1,e2,e3,_⟩:=h1.num i j hi hj hR hr;simp at e0;obtain ⟨rfl,rfl⟩:=e0;rw [hc0] at e1;simp at e1;obtain ⟨rfl,rfl⟩:=e1;rw [ajO f n i j hi hj] at e2 e3;exact ⟨e2,e3⟩
 . obtain ⟨go',cap',g',c',e0,hb1,hb2,hne,e1,e2,e3,hw⟩:=h1.num i j hi hj hR hr;simp at e0;obtain ⟨rfl,rfl⟩:=e0;rw [hc0] at e1;simp at e1;obtain ⟨rfl,rfl⟩:=e1;have h6:=hw y;rw [ajP f n i j y hi] at h6;refine ⟨h6,⟨h2,fun m g' n' c' hm hc=>h3 m g' n' c' hm ?_⟩,(h4.setCell hb2 _).setCell hb2 _,by simpa using h5⟩;rw [World.cell?_setCell_far _ _ _ _ (by simpa using hne),World.cell?_setCell_far _ _ _ _ (by simpa using hne)] at hc;exact hc
theorem BS.swap {w0 w : World} {base n go cap top : Nat} {f : Nat -> Nat -> Int} (h : BS w0 w base n go cap top f) (i m : Nat) (hi : i < n) (hm : m < n) :
 ∃ g1 c1 g2 c2,w.cell? ⟨go,i,none⟩ = some (.slice (some ⟨g1,0,none⟩) n c1) /\ w.cell? ⟨go,m,none⟩ = some (.slice (some ⟨g2,0,none⟩) n c2) /\ (∀ q,w.frozen? ⟨go,q,none⟩ = false) /\
  BS w0 ((w.setCell ⟨go,i,none⟩ (.slice (some ⟨g2,0,none⟩) n c2)).setCell ⟨go,m,none⟩ (.slice (some ⟨g1,0,none⟩) n c1)) base n go cap top (bK f i m):=by
 have hb:=h;obtain ⟨g1,c1,_,t1,e1,_⟩:=hb.row i hi;obtain ⟨g2,c2,_,t2,e2,_⟩:=hb.row m hm;obtain ⟨h1,⟨h2,h3⟩,h4,h5⟩:=h;obtain ⟨_,_,ho,_,_⟩:=id h1;obtain ⟨rD,cur,hblk⟩:=yl ho;obtain ⟨x,y,q1,q2,hw⟩:=h1.swap i m hi hm (BX f n);rw [e1] at q1;rw [e2] at q2;simp only [Option.some.injEq] at q1 q2;subst q1 q2;rw [ajQ f n i m hi hm] at hw;refine ⟨g1,c1,g2,c2,e1,e2,fun q=>hblk.free q,hw,⟨h2,fun m' g' n' c' hm' hc=>?_⟩,(h4.setCell rD _).setCell rD _,by simpa using h5⟩;by_cases h7 : m' = m
 . subst h7;rw [ai.cell ((hblk.set i _).set m' _)] at hc;rw [List.getElem?_set_self'] at hc;have : g' = g1:=by
    cases hq : (cur.set i (.slice (some ⟨g2,0,none⟩) n c2))[m']? with
    | none=>rw [hq] at hc;simp at hc
    | some z=>rw [hq] at hc;simp at hc;exact hc.1.symm
   omega
 . rw [World.cell?_setCell_other _ _ _ _ (show (⟨go,m,none⟩ : Addr) ≠ ⟨go,m',none⟩ from fun e=>h7 (by simpa using e.symm))] at hc;by_cases h8 : m' = i
   . subst h8;rw [ai.cell (hblk.set m' _),List.getElem?_set_self'] at hc;have : g' = g2:=by
      cases hq : cur[m']? with
      | none=>rw [hq] at hc;simp at hc
      | some z=>rw [hq] at hc;simp at hc;exact hc.1.symm
     omega
   . rw [World.cell?_setCell_other _ _ _ _ (show (⟨go,i,none⟩ : Addr) ≠ ⟨go,m',none⟩ from fun e=>h8 (by simpa using e.symm))] at hc;exact h3 m' g' n' c' hm' hc
end Go.Proofs.YtdaadlblknpipaaGreatDoor
namespace Go.Proofs.YtdaadlblknpipaaGreatDoor
open Go.RowKit
attribute [local go_sem ↓] Go.wp_at_zero Go.wp_at_succ
def BT (w0 w : World) (base n go cap top : Nat) (f : Nat -> Nat -> Int) (r l kb : Nat) (last : Int) (k : Nat) : Prop:=
 BS w0 w base n go cap top f /\ ai w r 28 [.bool false,.string ⟨#[]⟩] /\ ai w l 28 [.bool (au last),.string (bs (nt last.natAbs))] /\ ai w kb 3 [.int .i64 (k : Int)] /\ base <= top /\ top <= r /\ top <= l /\ top <= kb
theorem BT.below {w0 w w' : World} {base n go cap top : Nat} {f : Nat -> Nat -> Int} {r l kb : Nat} {last : Int} {k : Nat} (h : BT w0 w base n go cap top f r l kb last k) (hb : Bw w w') : BT w0 w' base n go cap top f r l kb last k:=by obtain ⟨h1,h2,h3,h4,h5,h6⟩:=h;exact ⟨h1.below hb h5,h2.below hb,h3.below hb,h4.below hb,h5,h6⟩
theorem BT.congr {w0 w : World} {base n go cap top : Nat} {f g : Nat -> Nat -> Int} {r l kb : Nat} {last : Int} {k : Nat} (h : BT w0 w base n go cap top f r l kb last k) (he : ∀ a b,a < n -> b < n -> f a b = g a b) : BT w0 w base n go cap top g r l kb last k:=
 ⟨h.1.congr he,h.2⟩
theorem BT.drew {w0 w : World} {base n go cap top : Nat} {f : Nat -> Nat -> Int} {r l kb : Nat} {last : Int} {k : Nat} (h : BT w0 w base n go cap top f r l kb last k) : BT w0 w.drew base n go cap top f r l kb last k:=h.below ((Below.refl _ _).drew)
theorem BT.row {w0 w : World} {base n go cap top : Nat} {f : Nat -> Nat -> Int} {r l kb : Nat} {last : Int} {k : Nat} (h : BT w0 w base n go cap top f r l kb last k) (i : Nat) (hi : i < n) :
 ∃ g c,g < w.heap.size /\ g < top /\ w.cell? ⟨go,i,none⟩ = some (.slice (some ⟨g,0,none⟩) n c) /\ (∀ j,j < n -> w.cell? ⟨g,j * 2,none⟩ = some (.bool (au (f i j))) /\ w.cell? ⟨g,j * 2 + 1,none⟩ = some (.string (bs (nt (f i j).natAbs)))) /\
  (∀ q,w.frozen? ⟨g,q,none⟩ = false) /\
  ∀ j,j < n -> ∀ y : Int,BT w0 ((w.setCell ⟨g,j * 2,none⟩ (.bool (au y))).setCell ⟨g,j * 2 + 1,none⟩ (.string (bs (nt y.natAbs)))) base n go cap top (fun a b=>if a = i /\ b = j then y else f a b) r l kb last k:=by
 obtain ⟨h1,h2,h3,h4,h5,h6,h7,h8⟩:=h;have h9:=h1.2.2.2;obtain ⟨g,c,hb,ht,e1,e2,e3,hw⟩:=h1.row i hi;refine ⟨g,c,by omega,ht,e1,e2,e3,fun j hj y=>⟨hw j hj y,?_,?_,?_,h5,h6,h7,h8⟩⟩
 . exact (h2.so _ _ zo _).so _ _ zo _
 . exact (h3.so _ _ zo _).so _ _ zo _
 . exact (h4.so _ _ zo _).so _ _ zo _
theorem BT.swap {w0 w : World} {base n go cap top : Nat} {f : Nat -> Nat -> Int} {r l kb : Nat} {last : Int} {k : Nat} (h : BT w0 w base n go cap top f r l kb last k) (i m : Nat) (hi : i < n) (hm : m < n) :
 ∃ g1 c1 g2 c2,w.cell? ⟨go,i,none⟩ = some (.slice (some ⟨g1,0,none⟩) n c1) /\ w.cell? ⟨go,m,none⟩ = some (.slice (some ⟨g2,0,none⟩) n c2) /\ (∀ q,w.frozen? ⟨go,q,none⟩ = false) /\
  BT w0 ((w.setCell ⟨go,i,none⟩ (.slice (some ⟨g2,0,none⟩) n c2)).setCell ⟨go,m,none⟩ (.slice (some ⟨g1,0,none⟩) n c1)) base n go cap top (bK f i m) r l kb last k:=by
 obtain ⟨h1,h2,h3,h4,h5,h6,h7,h8⟩:=h;have h9:=h1.2.1.1;obtain ⟨g1,c1,g2,c2,e1,e2,e3,hw⟩:=h1.swap i m hi hm;refine ⟨g1,c1,g2,c2,e1,e2,e3,hw,?_,?_,?_,h5,h6,h7,h8⟩
 . exact (h2.so _ _ zo _).so _ _ zo _
 . exact (h3.so _ _ zo _).so _ _ zo _
 . exact (h4.so _ _ zo _).so _ _ zo _
theorem BT.aog {w0 w : World} {base n go cap top : Nat} {f : Nat -> Nat -> Int} {r l kb : Nat} {last : Int} {k : Nat} (h : BT w0 w base n go cap top f r l kb last k) (i : Nat) (hi : i < n) :
 ∃ g c,g < w.heap.size /\ g < top /\ w.cell? ⟨go,i,none⟩ = some (.slice (some ⟨g,0,none⟩) n c) /\ (∀ j,j < n -> w.cell? ⟨g,j * 2,none⟩ = some (.bool (au (f i j))) /\ w.cell? ⟨g,j * 2 + 1,none⟩ = some (.string (bs (nt (f i j).natAbs)))) /\
  ∀ w',Bw w w' -> (∀ q,w'.frozen? ⟨g,q,none⟩ = false) /\ ∀ j,j < n -> ∀ y : Int,BT w0 ((w'.setCell ⟨g,j * 2,none⟩ (.bool (au y))).setCell ⟨g,j * 2 + 1,none⟩ (.string (bs (nt y.natAbs)))) base n go cap top (fun a b=>if a = i /\ b = j then y else f a b) r l kb last k:=by
 obtain ⟨g,c,h1,h2,h3,h4,_,_⟩:=h.row i hi;refine ⟨g,c,h1,h2,h3,h4,fun w' hb=>?_⟩;obtain ⟨g',c',_,_,e3,_,e5,e6⟩:=(h.below hb).row i hi;have:=cell_later hb h3;rw [e3] at this;simp at this;obtain ⟨rfl,rfl⟩:=this;exact ⟨e5,e6⟩
theorem BS.setOther {w0 w : World} {base n go cap top : Nat} {f : Nat -> Nat -> Int} (h : BS w0 w base n go cap top f) (vk : base <= top) (p o : Nat) (u : Value) (hp : top <= p) : BS w0 (w.setCell ⟨p,o,none⟩ u) base n go cap top f:=by
 have hbs:=h;obtain ⟨⟨vals,hl,ho,hv,hd⟩,⟨h2,h3⟩,h4,h5⟩:=h;refine ⟨⟨vals,hl,ownsRow_setCell_other ho (by simp [Value.ownBlock];omega) _,fun i hi=>?_,hd⟩,⟨h2,fun m g n' c hm hc=>h3 m g n' c hm ?_⟩,h4.setCell zp _,by simpa using h5⟩
 . obtain ⟨g,c,_,ht,e,_⟩:=hbs.row i zo;rw [jZ ho i hi] at e;have e1 : vals[i] = .slice (some ⟨g,0,none⟩) n c:=by simpa using e
   exact ownsRow_setCell_other (hv i hi) (by rw [e1];simp [Value.ownBlock];omega) _
 . rw [World.cell?_setCell_far _ _ _ _ zp] at hc;exact hc
theorem BT.setLast {w0 w : World} {base n go cap top : Nat} {f : Nat -> Nat -> Int} {r l kb : Nat} {last : Int} {k : Nat} (h : BT w0 w base n go cap top f r l kb last k) (x : Int) (h1 : l ≠ r) (h2 : l ≠ kb) :
 BT w0 ((w.setCell ⟨l,0,none⟩ (.bool (au x))).setCell ⟨l,1,none⟩ (.string (bs (nt x.natAbs)))) base n go cap top f r l kb x k:=by
 obtain ⟨q1,q2,q3,q4,q5,q6,q7,q8⟩:=h;exact ⟨(q1.setOther q5 l 0 _ q7).setOther q5 l 1 _ q7,(q2.so _ _ h1 _).so _ _ h1 _,(q3.set 0 _).set 1 _,(q4.so _ _ h2 _).so _ _ h2 _,q5,q6,q7,q8⟩
theorem akn (x y N : Int) (h : x - y = N) (w : World) (hx : (nt x.natAbs).length <= 34359738368) (hy : (nt y.natAbs).length <= 34359738368) :
 Calls Tryz.prog 109 #[.agg #[.bool (au x),.string (bs (nt x.natAbs))],.agg #[.bool (au y),.string (bs (nt y.natAbs))]] w fun e w'=>e = .returned (cn N) /\ Bw w w':=by
 have:=MO (au x) (nt x.natAbs) (au y) (nt y.natAbs) w hx hy;rw [eK,eK,h] at this;exact this
theorem WS (x y N : Int) (h : x * y = N) (b cap : Nat) (ty : TypeId) (w : World) (hx : (nt x.natAbs).length <= 17179869184) (hy : (nt y.natAbs).length <= 17179869184) (ha : ai w b ty [.bool (au x),.string (bs (nt x.natAbs)),.bool (au y),.string (bs (nt y.natAbs))]) :
 Calls Tryz.prog 73 #[.slice (some ⟨b,0,none⟩) 2 cap] w fun e w'=>e = .returned (cn N) /\ Bw w w':=
 WT _ _ _ _ N (by rw [eK,eK,h]) b cap ty w hx hy ha
theorem BS.row_ne {w0 w : World} {base n go cap top : Nat} {f : Nat -> Nat -> Int} (h : BS w0 w base n go cap top f) (i : Nat) (hi : i < n) {g c : Nat} (hc : w.cell? ⟨go,i,none⟩ = some (.slice (some ⟨g,0,none⟩) n c)) : g ≠ go:=by
 obtain ⟨⟨vals,hl,ho,hv,hd⟩,_⟩:=h;have hi2 : i < vals.length:=by omega
 rw [jZ ho i hi2] at hc;simp only [Option.some.injEq] at hc;have hrow:=hv i hi2;rw [hc] at hrow;obtain ⟨_,c1,b1⟩:=yl hrow;obtain ⟨_,c2,b2⟩:=yl ho;rintro rfl;have:=b1.symm.trans b2;simp at this
def BC (f : Nat -> Nat -> Int) (n k : Nat) : Int:=match mz f n k with | none=>-1 | some m=>(m : Int)
open Classical in
theorem BS.index {w0 w : World} {base n go cap top : Nat} {f : Nat -> Nat -> Int} (h : BS w0 w base n go cap top f) (k kb : Nat) (hk : k < n) (hn : n <= 8) (hkb : w.cell? ⟨kb,0,none⟩ = some (.int .i64 (k : Int))) (hz : ∀ a b,a < n -> b < n -> (nt (f a b).natAbs).length <= 1099511627776) :
 Calls Tryz.prog 126 #[.slice (some ⟨go,k,none⟩) (n - k) (cap - k),.func (.func 127) #[] #[.pointer (some ⟨kb,0,none⟩)]] w fun e w'=>e = .returned (.int .i64 (BC f n k)) /\ Bw w w':=by
 have hbs:=h;obtain ⟨h1,_,_,_⟩:=h;obtain ⟨vals,hl,ho,hv,hd⟩:=h1;have hrow : ∀ i (hi : i < vals.length),∃ g c,vals[i] = .slice (some ⟨g,0,none⟩) n c /\ ∀ j,j < n -> w.cell? ⟨g,j * 2,none⟩ = some (.bool (au (f i j))) /\ w.cell? ⟨g,j * 2 + 1,none⟩ = some (.string (bs (nt (f i j).natAbs))):=by intro i hi;obtain ⟨g,c,_,_,e1,e2,_⟩:=hbs.row i zo;rw [jZ ho i hi] at e1;exact ⟨g,c,by simpa using e1,e2⟩
 have hinj : ∀ i j (hi : i < vals.length) (hj : j < vals.length),vals[i] = vals[j] -> i = j:=by intro i j hi hj e;obtain ⟨g,c,e1,_⟩:=hrow i hi;exact hd i j hi hj g (by rw [e1];rfl) (by rw [<- e,e1];rfl)
 obtain ⟨p,hp⟩ : ∃ p : Value -> Bool,∀ i (hi : i < vals.length),p vals[i] = decide (f i k ≠ 0):=by
  refine ⟨fun v=>decide (∃ i,∃ hi : i < vals.length,vals[i] = v /\ f i k ≠ 0),fun i hi=>?_⟩;by_cases h0 : f i k ≠ 0
  . have : ∃ j,∃ hj : j < vals.length,vals[j] = vals[i] /\ f j k ≠ 0:=⟨i,hi,rfl,h0⟩;show decide _ = decide _
    rw [decide_eq_true this,decide_eq_true h0]
  . have : ¬ ∃ j,∃ hj : j < vals.length,vals[j] = vals[i] /\ f j k ≠ 0:=by rintro ⟨j,hj,e,h2⟩;exact h0 (by rw [<- hinj j i hj hi e];exact h2)
    simp only [this,h0,decide_false]
 have hpv:=ah4 p vals f n k zo hp;have hat : At w (some ⟨go,k,none⟩) (vals.drop k):=by refine .inr ⟨go,k,rfl,fun j hj=>?_⟩;rw [List.length_drop] at hj;rw [jZ ho (k + j) zo,List.getElem?_drop,List.getElem?_eq_getElem]
 have:=afw (some ⟨go,k,none⟩) (n - k) (cap - k) (vals.drop k) 127 #[.pointer (some ⟨kb,0,none⟩)] p w (by rw [List.length_drop,hl]) zo hat (enters_of Tryz.func127 zk rfl) (fun v hv W hb=>by
  obtain ⟨i,hi,rfl⟩:=List.mem_iff_getElem.1 hv;rw [List.getElem_drop];have hi2 : k + i < vals.length:=by rw [List.length_drop] at hi;omega
  obtain ⟨g,c,e1,e2⟩:=hrow (k + i) hi2;obtain ⟨e3,e4⟩:=e2 k hk;rw [hp (k + i) hi2,e1]
  exact abx kb k g n c (f (k + i) k) W (cell_later hb hkb) hk (cell_later hb e3) (cell_later hb e4) (hz _ _ zo hk))
 rw [hpv] at this;exact this
end Go.Proofs.YtdaadlblknpipaaGreatDoor
namespace Go.Proofs.YtdaadlblknpipaaGreatDoor
open Go.RowKit
def fe (w : World) (base n : Nat) (R : List (List Dyadic)) (k : Nat) (v : Value) : Prop:=
 ∃ vals : List Value,vals.length = k /\ w.ownsRow base 45 1 v k vals /\ (∀ i (h : i < vals.length),w.ownsRow base 30 3 vals[i] n (dC (R.getD i []))) /\
  ∀ i j (hi : i < vals.length) (hj : j < vals.length) g,vals[i].ownBlock = some g -> vals[j].ownBlock = some g -> i = j
theorem fe.nil (w : World) (base n : Nat) (R : List (List Dyadic)) : fe w base n R 0 (.slice none 0 0):=
 ⟨[],rfl,World.ownsRow_nil _ _ _ _,fun _ h=>absurd h (Nat.not_lt_zero _),fun _ _ h=>absurd h (Nat.not_lt_zero _)⟩
theorem fe.below {w w' : World} {base n k : Nat} {R : List (List Dyadic)} {v : Value} (h : fe w base n R k v) (hb : Bw w w') : fe w' base n R k v:=by obtain ⟨vals,hl,ho,hi,hd⟩:=h;exact ⟨vals,hl,ownsRow_below ho hb,fun i h=>ownsRow_below (hi i h) hb,hd⟩
theorem fe.push {w w' : World} {base n k : Nat} {R : List (List Dyadic)} {v v' x : Value} {vals : List Value} (hl : vals.length = k) (hov : w.ownsRow base 45 1 v k vals) (hi : ∀ i (h : i < vals.length),w.ownsRow base 30 3 vals[i] n (dC (R.getD i [])))
 (hd : ∀ i j (hi : i < vals.length) (hj : j < vals.length) g,vals[i].ownBlock = some g -> vals[j].ownBlock = some g -> i = j)
 (hx : w.ownsRow base 30 3 x n (dC (R.getD k []))) (kF : ∀ g,x.ownBlock = some g -> ∀ i (h : i < vals.length),vals[i].ownBlock ≠ some g)
 (ho : w'.ownsRow base 45 1 v' (k + 1) (vals ++ [x])) (hg : w.grownBy w' v.ownBlock) : fe w' base n R (k + 1) v':=by
 refine ⟨_,by simp [hl],ho,fun i h=>?_,fun i j h1 h2 g e1 e2=>?_⟩
 . by_cases hk : i < vals.length
   . rw [List.getElem_append_left hk];exact (hi i hk).kept hg (BV (hi i hk) hov zd)
   . have hik : i = k:=by simp at h;omega
     subst hik;rw [List.getElem_append_right zo];simp only [hl,Nat.sub_self,List.getElem_cons_zero];exact hx.kept hg (BV hx hov zd)
 . by_cases k1 : i < vals.length
   . rw [List.getElem_append_left k1] at e1;by_cases k2 : j < vals.length
     . rw [List.getElem_append_left k2] at e2;exact hd i j k1 k2 g e1 e2
     . have hjk : j = k:=by simp at h2;omega
       subst hjk;rw [List.getElem_append_right zo] at e2;simp only [hl,Nat.sub_self,List.getElem_cons_zero] at e2;exact absurd e1 (kF g e2 i k1)
   . have hik : i = k:=by simp at h1;omega
     subst hik;rw [List.getElem_append_right zo] at e1;simp only [hl,Nat.sub_self,List.getElem_cons_zero] at e1;by_cases k2 : j < vals.length
     . rw [List.getElem_append_left k2] at e2;exact absurd e2 (kF g e1 j k2)
     . simp at h2;omega
theorem fe.tbl {w : World} {base n k : Nat} {R : List (List Dyadic)} {v : Value} (h : fe w base n R k v) (hk : R.length = k) (hn : ∀ r ∈ R,r.length = n) : ∃ a c,v = .slice a k c /\ k <= c /\ aY w a (R.map fun r=>r.map canon):=by
 obtain ⟨vals,hl,ho,hi,hd⟩:=h;obtain ⟨a,c,hv,hat,_⟩:=dA ho;subst hv;refine ⟨a,c,rfl,Fl ho,vals,by simp [hl,hk],hat,fun i h1 h2=>?_⟩;obtain ⟨a1,c1,e1,e2,_⟩:=dA (hi i h2);have hi1 : i < R.length:=by simpa using h1
 have eg : R.getD i [] = R[i]:=by simp [hi1]
 rw [eg] at e2;refine ⟨a1,c1,?_,?_⟩
 . rw [e1];simp [hn _ (List.getElem_mem hi1)]
 . rw [List.getElem_map,<- sN];exact e2
theorem acN (ds : List Dyadic) (j : Nat) (hj : j < ds.length) : (dC ds)[j * 3]? = some (.bool (au (dN ds[j]))) /\ (dC ds)[j * 3 + 1]? = some (.string (bs (nt (dN ds[j]).natAbs))) /\ (dC ds)[j * 3 + 2]? = some (.int .i64 (dE ds[j])):=by have h:=fun i (hi : i < 3)=>flat_get (fun d=>bD (canon d)) 3 (fun _=>rfl) ds j i hj hi;unfold dC;exact ⟨(h 0 zd),(h 1 zd),(h 2 zd)⟩
theorem fe.num {w : World} {base n L : Nat} {R : List (List Dyadic)} {v : Value} (h : fe w base n R L v) (i j : Nat) (hi : i < L) (hj : j < n) (hR : R.length = L) (hr : (R.getD i []).length = n) :
 ∃ go cap g c,v = .slice (some ⟨go,0,none⟩) L cap /\ base <= go /\ base <= g /\ g ≠ go /\ w.cell? ⟨go,i,none⟩ = some (.slice (some ⟨g,0,none⟩) n c) /\
  bj w g (j * 3) [.bool (au (dN ((R.getD i []).getD j 0))),.string (bs (nt (dN ((R.getD i []).getD j 0)).natAbs)),.int .i64 (dE ((R.getD i []).getD j 0))] /\ (∀ o,w.frozen? ⟨g,o,none⟩ = false) /\
  ∀ y : Dyadic,fe (((w.setCell ⟨g,j * 3,none⟩ (.bool (au (dN y)))).setCell ⟨g,j * 3 + 1,none⟩ (.string (bs (nt (dN y).natAbs)))).setCell ⟨g,j * 3 + 2,none⟩ (.int .i64 (dE y))) base n (R.set i ((R.getD i []).set j y)) L v:=by
 obtain ⟨vals,hl,ho,hv,hd⟩:=h;have hi2 : i < vals.length:=by omega
 have hrow:=hv i hi2;have hxl : (dC (R.getD i [])).length = n * 3:=by rw [acO,hr]
 obtain ⟨a0,cap,rfl,_,_⟩:=dA ho;obtain ⟨a1,c,e1,_,hab⟩:=dA hrow;rw [e1] at hrow;rcases ho.2 with ⟨h1,_⟩ | ⟨go,cap',cur,h1,rD,hgo,_⟩
 . simp at h1;omega
 simp only [Value.slice.injEq,true_and] at h1;obtain ⟨rfl,rfl⟩:=h1;have hrow2:=hrow;rcases hrow.2 with ⟨h1,_⟩ | ⟨g,c',cur',h1,hbg,hgg,_⟩
 . simp at h1;omega
 simp only [Value.slice.injEq,true_and] at h1;obtain ⟨rfl,rfl⟩:=h1;have hne : g ≠ go:=by rintro rfl;rw [hgo] at hgg;simp at hgg
 have hat:=acN (R.getD i []) j zo;have hg0 : (R.getD i []).getD j 0 = (R.getD i [])[j]'zo:=by rw [List.getD_eq_getElem?_getD,List.getElem?_eq_getElem zo];rfl
 have hc0:=jZ hrow (j * 3) zo;have hc1:=jZ hrow (j * 3 + 1) zo;have hc2:=jZ hrow (j * 3 + 2) zo;rw [<- List.getElem?_eq_getElem] at hc0 hc1 hc2;rw [hat.1] at hc0;rw [hat.2.1] at hc1;rw [hat.2.2] at hc2;refine ⟨go,cap,g,c,rfl,rD,hbg,hne,?_,by rw [hg0];exact iM hc0 hc1 hc2,fun o=>?_,fun y=>?_⟩
 . rw [jZ ho i zo,e1]
 . have h4 : ai w g 30 cur'.toList:=by unfold ai;simpa using hgg
   exact h4.free o
 . refine ⟨vals,hl,?_,fun m hm=>?_,hd⟩
   . have hn : ∀ (o : Nat) (u : Value) (W : World),W.ownsRow base 45 1 (.slice (some ⟨go,0,none⟩) L cap) L vals -> (W.setCell ⟨g,o,none⟩ u).ownsRow base 45 1 (.slice (some ⟨go,0,none⟩) L cap) L vals:=fun o u W h=>ownsRow_setCell_other h (by simpa [Value.ownBlock] using hne.symm) _;exact hn _ _ _ (hn _ _ _ (hn _ _ _ ho))
   . by_cases rH : m = i
     . subst rH;have hs : (R.set m ((R.getD m []).set j y)).getD m [] = (R.getD m []).set j y:=by rw [List.getD_eq_getElem?_getD,List.getElem?_set_self zo];rfl
       rw [hs,e1,<- PY];exact iJ (iJ (iJ hrow _ _) _ _) _ _
     . have hs : (R.set i ((R.getD i []).set j y)).getD m [] = R.getD m []:=by rw [List.getD_eq_getElem?_getD,List.getElem?_set_ne (fun e=>rH e.symm),<- List.getD_eq_getElem?_getD]
       rw [hs];have hno : vals[m].ownBlock ≠ some g:=fun e=>rH (hd m i hm hi2 g e (by rw [e1];rfl));exact ownsRow_setCell_other (ownsRow_setCell_other (ownsRow_setCell_other (hv m hm) hno _) hno _) hno _
end Go.Proofs.YtdaadlblknpipaaGreatDoor
