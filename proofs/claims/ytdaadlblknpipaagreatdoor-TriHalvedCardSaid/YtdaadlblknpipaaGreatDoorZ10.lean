/- The weights of a point in a simplex,and in its halves. No program here. -/
import Derived.Test.YtdaadlblknpipaaGreatDoorZ9
import Derived.Test.YtdaadlblknpipaaGreatDoorZ1
import Derived.Test.YtdaadlblknpipaaGreatDoorZ7
import Derived.Test.YtdaadlblknpipaaGreatDoorZ8
set_option linter.unusedVariables false
set_option linter.unusedSimpArgs false
set_option maxRecDepth 100000
set_option maxHeartbeats 16000000
namespace Go.Proofs.YtdaadlblknpipaaGreatDoor
theorem ahE (n k : Int) : Dyadic.ofIntWithPrec n k < 0 ↔ n < 0:=by
 rw [<- Dyadic.toRat_lt_toRat_iff,Dyadic.toRat_ofIntWithPrec_eq_mul_two_pow,Dyadic.toRat_zero];have h2 : (0 : Rat) < 2 ^ (-k):=Rat.zpow_pos zd;constructor
 . intro h;by_cases h3 : n < 0
   . exact h3
   . exfalso
     have h4 : (0 : Rat) <= (n : Rat):=by exact_mod_cast Int.not_lt.1 h3
     have h5:=Rat.mul_nonneg h4 (Rat.le_of_lt h2);grind
 . intro h;have h4 : (n : Rat) < 0:=by exact_mod_cast h
   have:=Rat.mul_lt_mul_of_pos_right h4 h2;grind
theorem uM (X : Dyadic) : bR X < 0 ↔ X < 0:=by
 conv=>rhs;rw [pQ X]
 rw [ahE];unfold bR dz;split
 . rename_i h;simp [h]
 . rename_i h
   split<;>simp<;>omega
theorem ac2 (X : Dyadic) : bR X = 0 ↔ X = 0:=by
 constructor
 . intro h;have h1 : dN X = 0:=by
    unfold bR dz at h;by_cases h1 : dN X < 0
    . rw [if_pos h1] at h;cases h
    . rw [if_neg h1] at h;by_cases h2 : dN X = 0
      . exact h2
      . rw [if_neg h2] at h;cases h
   have h2:=pQ X;rw [h1,tX] at h2;exact h2
 . rintro rfl;rfl
def jD (X : Dyadic) : Dyadic:=Dyadic.ofIntWithPrec (bR X) 0
theorem Fu (X : Dyadic) : jD X = if X < 0 then -1 else if X = 0 then 0 else 1:=by
 unfold jD;have h1:=uM X;have h2:=ac2 X;have h3 : bR X = -1 \/ bR X = 0 \/ bR X = 1:=by
  unfold bR dz;split
  . exact .inl rfl
  . split
    . exact .inr (.inl rfl)
    . exact .inr (.inr rfl)
 rcases h3 with h | h | h
 . rw [if_pos (h1.1 zo),h];rfl
 . rw [if_neg (fun h4=>by have:=h1.2 h4;omega),if_pos (h2.1 h),h];rfl
 . rw [if_neg (fun h4=>by have:=h1.2 h4;omega),if_neg (fun h4=>by have:=h2.2 h4;omega),h];rfl
def fC (n : Nat) (p : Nat -> Nat -> Dyadic) (x : Nat -> Dyadic) (k : Nat) : Dyadic:=jD (bB n p) * bB n (bA p k x)
def mW (n : Nat) (p : Nat -> Nat -> Dyadic) (x : Nat -> Dyadic) : Prop:=∀ k,k <= n -> ¬ fC n p x k < 0
theorem aeo (n : Nat) (hn : 1 <= n) (bj : n <= 4) (p : Nat -> Nat -> Dyadic) (h : Dyadic) (hh : h + h = 1) (i j : Nat) (hij : i ≠ j) (hi : i <= n) (hj : j <= n) (x : Nat -> Dyadic) (k : Nat) (hk : k <= n) :
 bB n (bA (bA p j fun b=>(p i b + p j b) * h) k x) = if k = j then bB n (bA p j x) else if k = i then (bB n (bA p i x) - bB n (bA p j x)) * h else bB n (bA p k x) * h:=by
 by_cases hkj : k = j
 . subst hkj;rw [if_pos rfl,ajN]
 . rw [if_neg hkj,Cb _ j k _ _ (fun e=>hkj e.symm)];by_cases oD : k = i
   . subst oD;rw [if_pos rfl,Dy n hn bj _ h hh j hj (p k) (p j)];rw [Qm n hn bj p k j hij hk hj x (p k),wh,Cb p k j x (p j) hij,wh];grind
   . rw [if_neg oD,Dy n hn bj _ h hh j hj (p i) (p j)];have e1 : bB n (bA (bA p k x) j (p i)) = 0:=by have:=Dx n hn bj (bA p k x) i j hij hi hj;rwa [ajM p k i x (fun e=>oD e.symm)] at this
     rw [e1,Cb p k j x (p j) hkj,wh];grind
theorem ai4 (X h : Dyadic) (hh : h + h = 1) : jD (X * h) = jD X:=by
 have e : X * h + X * h = X:=by grind
 rw [Fu,Fu];have h1 : X * h < 0 ↔ X < 0:=by grind
 have h2 : X * h = 0 ↔ X = 0:=by grind
 simp only [h1,h2]
theorem Ur (n : Nat) (hn : 1 <= n) (bj : n <= 4) (p : Nat -> Nat -> Dyadic) (h : Dyadic) (hh : h + h = 1) (i j : Nat) (hij : i ≠ j) (hi : i <= n) (hj : j <= n) (x : Nat -> Dyadic) :
 mW n (bA p j fun b=>(p i b + p j b) * h) x ↔ (∀ k,k <= n -> k ≠ i -> ¬ fC n p x k < 0) /\ ¬ fC n p x i - fC n p x j < 0:=by
 have hd : bB n (bA p j fun b=>(p i b + p j b) * h) = bB n p * h:=by rw [Dy n hn bj p h hh j hj (p i) (p j),wh,Dx n hn bj p i j hij hi hj];grind
 have hw : ∀ k,k <= n -> fC n (bA p j fun b=>(p i b + p j b) * h) x k = if k = j then fC n p x j else if k = i then (fC n p x i - fC n p x j) * h else fC n p x k * h:=by
  intro k hk;unfold fC;rw [hd,ai4 _ _ hh,aeo n hn bj p h hh i j hij hi hj x k hk];split
  . rfl
  . split
    . grind
    . grind
 have hp : ∀ y : Dyadic,y * h < 0 ↔ y < 0:=by
  intro y;have e : y * h + y * h = y:=by grind
  grind
 unfold mW;constructor
 . intro h1;refine ⟨fun k hk oD=>?_,?_⟩
   . have:=h1 k hk;rw [hw k hk] at this;by_cases e : k = j
     . subst e;rwa [if_pos rfl] at this
     . rw [if_neg e,if_neg oD,hp] at this;exact this
   . have:=h1 i hi;rw [hw i hi,if_neg hij,if_pos rfl,hp] at this;exact this
 . rintro ⟨h1,h2⟩ k hk;rw [hw k hk];by_cases e : k = j
   . rw [if_pos e];exact h1 j hj (fun e=>hij e.symm)
   . rw [if_neg e];by_cases e2 : k = i
     . rw [if_pos e2,hp];exact h2
     . rw [if_neg e2,hp];exact h1 k hk e2
theorem afB (n : Nat) (hn : 1 <= n) (bj : n <= 4) (p : Nat -> Nat -> Dyadic) (h : Dyadic) (hh : h + h = 1) (i j : Nat) (hij : i ≠ j) (hi : i <= n) (hj : j <= n) (x : Nat -> Dyadic) :
 mW n p x ↔ mW n (tL p h i j j) x \/ mW n (tL p h i j i) x:=by
 have e2 : tL p h i j i = bA p i fun b=>(p j b + p i b) * h:=by rw [LA];congr 1;funext b;grind
 rw [LA,e2,Ur n hn bj p h hh i j hij hi hj x,Ur n hn bj p h hh j i (fun e=>hij e.symm) hj hi x];constructor
 . intro h1;by_cases h2 : fC n p x i - fC n p x j < 0
   . right;exact ⟨fun k hk _=>h1 k hk,by grind⟩
   . left;exact ⟨fun k hk _=>h1 k hk,h2⟩
 . rintro (⟨h1,h2⟩ | ⟨h1,h2⟩) k hk
   . by_cases e : k = i
     . have:=h1 j hj (fun e=>hij e.symm);subst e;grind
     . exact h1 k hk e
   . by_cases e : k = j
     . have:=h1 i hi hij;subst e;grind
     . exact h1 k hk e
def jz (e : Nat -> Nat -> Dyadic) (r c : Nat) : Nat -> Nat -> Dyadic:=fun a b=>e (if a < r then a else a + 1) (if b < c then b else b + 1)
def xQ (n : Nat) (e : Nat -> Nat -> Dyadic) (y : Nat -> Dyadic) (i : Nat) : Nat -> Dyadic
 | 0=>0
 | k + 1=>xQ n e y i k + y k * (if (k + i) % 2 = 1 then -cZ (n - 1) (jz e i k) else cZ (n - 1) (jz e i k))
theorem afS (n : Nat) (hn : 1 <= n) (bj : n <= 4) (e : Nat -> Nat -> Dyadic) (y : Nat -> Dyadic) (i : Nat) (hi : i < n) : xQ n e y i n = cZ n fun a b=>if a = i then y b else e a b:=by
 have hc : (n = 1 /\ i = 0) \/ (n = 2 /\ i = 0) \/ (n = 2 /\ i = 1) \/ (n = 3 /\ i = 0) \/ (n = 3 /\ i = 1) \/ (n = 3 /\ i = 2) \/ (n = 4 /\ i = 0) \/ (n = 4 /\ i = 1) \/ (n = 4 /\ i = 2) \/ (n = 4 /\ i = 3):=by omega
 rcases hc with ⟨rfl,rfl⟩ | ⟨rfl,rfl⟩ | ⟨rfl,rfl⟩ | ⟨rfl,rfl⟩ | ⟨rfl,rfl⟩ | ⟨rfl,rfl⟩ | ⟨rfl,rfl⟩ | ⟨rfl,rfl⟩ | ⟨rfl,rfl⟩ | ⟨rfl,rfl⟩<;>(simp [xQ,cZ,jz];try grind)
theorem adg (n : Nat) (p : Nat -> Nat -> Dyadic) (x : Nat -> Dyadic) (i : Nat) : bB n (bA p (i + 1) x) = cZ n fun a b=>if a = i then x b - p 0 b else p (a + 1) b - p 0 b:=by
 unfold bB bA;congr 1;funext a b
 by_cases h : a = i
 . rw [if_pos h,if_pos zo,if_neg zo]
 . rw [if_neg h,if_neg zo,if_neg zo]
def pX (f : Nat -> Dyadic) : Nat -> Dyadic
 | 0=>0
 | k + 1=>pX f k + f k
theorem akm (n : Nat) (hn : 1 <= n) (bj : n <= 4) (p : Nat -> Nat -> Dyadic) (x : Nat -> Dyadic) : bB n (bA p 0 x) = bB n p - pX (fun i=>bB n (bA p (i + 1) x)) n:=by
 have hc : n = 1 \/ n = 2 \/ n = 3 \/ n = 4:=by omega
 rcases hc with rfl | rfl | rfl | rfl<;>(simp [pX,bB,cZ,bA];grind)
theorem aji (f : Nat -> Dyadic) (c : Dyadic) (n : Nat) : pX (fun i=>c * f i) n = c * pX f n:=by
 induction n with
 | zero=>simp [pX]
 | succ n ih=>simp only [pX,ih];grind
end Go.Proofs.YtdaadlblknpipaaGreatDoor
namespace Go.Proofs.YtdaadlblknpipaaGreatDoor
open Go.RowKit
theorem ag5 (l m : List UInt8) (w : World) (hl : l.length <= 68719476736) (hm : m.length <= 68719476736) (hlt : nv l < nv m) :
 Calls Tryz.prog 156 #[.string (bs l),.string (bs m)] w fun e w'=>e = .returned (.tuple #[.string (bs []),.string (bs (nt (nv l))),.bool true]) /\ Bw w w':=by
 have h1:=fun W=>jY l W zo;have h2:=fun W=>jY m W zo;have AL:=EQ (show 0 < nv m by omega);have EA:=gL (CV l);have EB:=gL (CV m);have mO:=dP (nv l);have qY:=dP (nv m);obtain ⟨X,hX⟩ : ∃ X,nv l = X:=⟨_,rfl⟩;obtain ⟨Y,hY⟩ : ∃ Y,nv m = Y:=⟨_,rfl⟩;rw [hX] at h1 hlt EA mO ⊢;rw [hY] at h2 hlt EB qY AL;obtain ⟨lx,uZ⟩ : ∃ lx,ln X = lx:=⟨_,rfl⟩;obtain ⟨ly,vd⟩ : ∃ ly,ln Y = ly:=⟨_,rfl⟩;obtain ⟨cx,iT⟩ : ∃ cx,(l.length + 7) / 8 = cx:=⟨_,rfl⟩;obtain ⟨cy,sM⟩ : ∃ cy,(m.length + 7) / 8 = cy:=⟨_,rfl⟩;rw [uZ] at h1 EA mO;rw [vd] at h2 EB qY AL;rw [iT] at h1 EA;rw [sM] at h2 EB;have aeD : cx <= 8589934593:=by omega
 have El : cy <= 8589934593:=by omega
 have jR : cG X Y = -1:=by unfold cG;rw [if_pos hlt]
 have H1:=ah h1;have H2:=ah h2;have Ct:=ah mO;have FZ:=ah qY;clear h1 h2 mO qY hX hY uZ vd iT sM hlt;have aeT : ((ly : Int) == 0) = false:=by simp;omega
 go_enter Tryz.func156,Tryz.ntmps156;go_wp2_with fail;refine (H1.out w).mono ?_;rintro e w1 ⟨rfl,bK,hb1,eT⟩;have dH:=ah bK;have bL:=ah hb1;clear bK hb1;go_wp2_with fail;refine (H2.out w1).mono ?_;rintro e w2 ⟨rfl,dL,hb2,xD⟩;have eJ:=ah dL;have bV:=ah (aI bL.out hb2);replace dH:=ah (dH.out.below hb2);clear dL hb2;go_wp2_with fail;refine (vI w.heap.size 0 lx cx X w1.heap.size 0 ly cy Y w2 zo eT (dH.out.lim _ eT) Ct.out zo xD (eJ.out.lim _ xD) FZ.out).mono ?_;rintro e w3 ⟨rfl,hb3⟩;replace dH:=ah (dH.out.below hb3);have dA:=ah (aI bV.out hb3);clear hb3;rw [jR];go_wp2_with fail;refine (ub w.heap.size 0 lx cx X w3 zo eT (dH.out.lim _ eT) Ct.out).mono ?_;rintro e w4 ⟨rfl,hb4⟩;have jH:=ah (aI dA.out hb4);clear hb4;go_wp2;refine bodyPost_ret (v:=.tuple #[.string (bs []),.string (bs (nt X)),.bool true]) (by simp [results,Tryz.results156,go_sem];rfl) rfl ⟨rfl,jH.out⟩
theorem ag3 (l m : List UInt8) (w : World) (hl : l.length <= 68719476736) (hm : m.length <= 68719476736) (hm0 : 0 < nv m) :
 Calls Tryz.prog 156 #[.string (bs l),.string (bs m)] w fun e w'=>e = .returned (.tuple #[.string (bs (nt (nv l / nv m))),.string (bs (nt (nv l % nv m))),.bool true]) /\ Bw w w':=by
 rcases Nat.lt_or_ge (nv l) (nv m) with h | h
 . have:=ag5 l m w hl hm h;rw [Nat.div_eq_of_lt h,Nat.mod_eq_of_lt h,vR];exact this
 . exact ag4 l m w hl hm hm0 h
theorem adj (s t : Bool) (l m : List UInt8) (hm : 0 < nv m) (hd : nv l % nv m = 0) : iv s l / iv t m = if s = t then iv false (nt (nv l / nv m)) else -iv false (nt (nv l / nv m)):=by
 obtain ⟨q,hq⟩:=Nat.dvd_of_mod_eq_zero hd;have e : nv l / nv m = q:=by rw [hq];exact Nat.mul_div_cancel_left _ hm
 have sU : (nv m : Int) ≠ 0:=by omega
 rw [e,kJ];unfold iv;rw [hq];simp only [Bool.false_eq_true,if_false,Int.natCast_mul];cases s<;>cases t<;>simp only [Bool.false_eq_true,if_false,if_true,reduceCtorEq]
 . exact Int.mul_ediv_cancel_left _ sU
 . rw [Int.ediv_neg,Int.mul_ediv_cancel_left _ sU]
 . rw [Int.neg_ediv_of_dvd ⟨_,rfl⟩,Int.mul_ediv_cancel_left _ sU]
 . rw [Int.ediv_neg,Int.neg_ediv_of_dvd ⟨_,rfl⟩,Int.mul_ediv_cancel_left _ sU,Int.neg_neg]
theorem ajZ (s t : Bool) (l m : List UInt8) (w : World) (hl : l.length <= 34359738368) (hm : m.length <= 34359738368) (hm0 : 0 < nv m) (hd : nv l % nv m = 0) :
 Calls Tryz.prog 128 #[.agg #[.bool s,.string (bs l)],.agg #[.bool t,.string (bs m)]] w fun e w'=>∃ r,e = .returned (.tuple #[cp (iv s l / iv t m),r,.bool true]) /\ Bw w w':=by
 have h1:=fun W=>ag3 l m W zo zo hm0;have hq:=adj s t l m hm0 hd;have hlen : (nt (nv l / nv m)).length <= 34359738368:=by obtain ⟨B,hB⟩ : ∃ B,34359738368 = B:=⟨_,rfl⟩;rw [hB] at hl ⊢;exact gU (Nat.lt_of_le_of_lt (Nat.div_le_self _ _) (Nat.lt_of_lt_of_le (fA l) (Nat.pow_le_pow_right zd hl)))
 rw [hd,vR] at h1;obtain ⟨Q,hQ⟩ : ∃ Q,nt (nv l / nv m) = Q:=⟨_,rfl⟩;rw [hQ] at h1 hq hlen;obtain ⟨N,hN⟩ : ∃ N,iv s l / iv t m = N:=⟨_,rfl⟩;rw [hN] at hq ⊢;have H1:=ah h1;have HQ:=ah hq;have hem : (bs []).toList.isEmpty = true:=by rw [qR];rfl
 clear h1 hq hQ hN hd hm0;cases s with
 | false =>
   cases t with
   | false =>
     have hN:=HQ.out;rw [if_pos rfl] at hN;have HN:=ah hN;clear hN;obtain ⟨W,aK⟩ : ∃ W,((((w.alloc (.cells #[.bool false,.string (bs l)] 28)).alloc (.cells #[.bool false,.string (bs m)] 28)).alloc (.cells #[.bool false,.string ⟨#[]⟩] 28)).alloc (.cells #[.bool false,.string ⟨#[]⟩] 28)) = W:=⟨_,rfl⟩;have Hb : Hid (Bw w W):=by rw [<- aK];exact (((zl.alloc zj _).alloc zj _).alloc zj _)
     have Ha : Hid (ai W (w.heap.size) 28 [.bool false,.string (bs l)]):=by rw [<- aK];exact (((ai.newAt _ _ _ zm).alloc _).alloc _).alloc _
     have Hc : Hid (ai W (w.heap.size + 1) 28 [.bool false,.string (bs m)]):=by rw [<- aK];exact ((ai.newAt _ _ _ zm).alloc _).alloc _
     have Hq : Hid (ai W (w.heap.size + 1 + 1) 28 [.bool false,.string ⟨#[]⟩]):=by rw [<- aK];exact (ai.newAt _ _ _ zm).alloc _
     have Hr : Hid (ai W (w.heap.size + 1 + 1 + 1) 28 [.bool false,.string ⟨#[]⟩]):=by rw [<- aK];exact ai.newAt _ _ _ zm
     obtain ⟨a0,a1⟩:=Ha.out.c2;obtain ⟨c0,c1⟩:=Hc.out.c2;obtain ⟨q0,bP,q1,bQ⟩:=Hq.out.g2;obtain ⟨r0,aj,r1,ak⟩:=Hr.out.g2;go_enter Tryz.func128,Tryz.ntmps128;go_wp2_with fail;refine (H1.out _).mono ?_;rintro e w1 ⟨rfl,ae⟩;clear a0 a1 c0 c1 q0 bP q1 bQ r0 aj r1 ak;replace Ha:=kB Ha ae;replace Hc:=kB Hc ae;replace Hq:=kB Hq ae;replace Hr:=kB Hr ae;obtain ⟨a0,a1⟩:=Ha.out.c2;obtain ⟨c0,c1⟩:=Hc.out.c2;obtain ⟨q0,bP,q1,bQ⟩:=Hq.out.g2;obtain ⟨r0,aj,r1,ak⟩:=Hr.out.g2;replace Hb:=au Hb ae;clear ae;go_wp2_with fail;clear a0 a1 c0 c1 q0 bP q1 bQ r0 aj r1 ak;obtain ⟨R,hR⟩ : ∃ R : World -> Prop,(fun w2=>ai w2 (w.heap.size) 28 [.bool false,.string (bs l)] /\ ai w2 (w.heap.size + 1) 28 [.bool false,.string (bs m)] /\ ai w2 (w.heap.size + 1 + 1) 28 [.bool false,.string (bs Q)] /\ ai w2 (w.heap.size + 1 + 1 + 1) 28 [.bool false,.string (bs [])] /\ Bw w w2) = R:=⟨_,rfl⟩;first | refine bE R ?hR ?_ | refine bC R ?hR ?_
     case hR=>subst hR;exact ⟨((((Ha.out.so (w.heap.size + 1 + 1) 0 zo _).so (w.heap.size + 1 + 1) 1 zo _).so (w.heap.size + 1 + 1 + 1) 0 zo _).so (w.heap.size + 1 + 1 + 1) 1 zo _),((((Hc.out.so (w.heap.size + 1 + 1) 0 zo _).so (w.heap.size + 1 + 1) 1 zo _).so (w.heap.size + 1 + 1 + 1) 0 zo _).so (w.heap.size + 1 + 1 + 1) 1 zo _),((((Hq.out.set 0 _).set 1 _).so (w.heap.size + 1 + 1 + 1) 0 zo _).so (w.heap.size + 1 + 1 + 1) 1 zo _),((((Hr.out.so (w.heap.size + 1 + 1) 0 zo _).so (w.heap.size + 1 + 1) 1 zo _).set 0 _).set 1 _),((((Hb.out.sc (w.heap.size + 1 + 1) 0 ZS _).sc (w.heap.size + 1 + 1) 1 ZS _).sc (w.heap.size + 1 + 1 + 1) 0 ZS _).sc (w.heap.size + 1 + 1 + 1) 1 ZS _)⟩
     subst hR;rintro w2 ⟨qa,qc,qq,qr,ae⟩;replace Ha:=ah qa;clear qa;replace Hc:=ah qc;clear qc;replace Hq:=ah qq;clear qq;replace Hr:=ah qr;clear qr;obtain ⟨a0,a1⟩:=Ha.out.c2;obtain ⟨c0,c1⟩:=Hc.out.c2;obtain ⟨q0,bP,q1,bQ⟩:=Hq.out.g2;obtain ⟨r0,aj,r1,ak⟩:=Hr.out.g2;replace Hb:=ah ae;clear ae;have hF:=fun W=>wn false Q W (Nat.le_trans hlen zd);rw [<- HN.out] at hF;have HF:=ah hF;clear hF;refine bG (fun w'=>w'.cell? ⟨w.heap.size + 1 + 1 + 1,0,none⟩ = some (.bool false) /\ w'.cell? ⟨w.heap.size + 1 + 1 + 1,1,none⟩ = some (.string (bs []))) (fun i=>Nat.blt i 4) [(2,true),(0,false),(1,false),(3,false),(4,false),(5,false)] zk zk rfl zk zc ⟨r0,r1⟩ ?_;refine pT rfl rfl ?_ (by intro w' ⟨q0,q1⟩;go_simp;try with_reducible rfl);try simp only [UU]
     refine aH rfl rfl (fun K hK=>?_);go_simp;refine hK _ _ (fun _=>⟨r0,r1⟩) ?_;clear hK K;try simp only [UU]
     refine aH rfl rfl (fun K hK=>?_);go_simp;with_reducible refine (HF.out _).mono ?_
     rintro e w5 ⟨rfl,hq⟩;have ae : Bw w2 w5:=by first | exact hq | exact aM hq
     clear a0 a1 c0 c1 q0 bP q1 bQ r0 aj r1 ak;replace Ha:=kB Ha ae;replace Hc:=kB Hc ae;replace Hq:=kB Hq ae;replace Hr:=kB Hr ae;obtain ⟨a0,a1⟩:=Ha.out.c2;obtain ⟨c0,c1⟩:=Hc.out.c2;obtain ⟨q0,bP,q1,bQ⟩:=Hq.out.g2;obtain ⟨r0,aj,r1,ak⟩:=Hr.out.g2;replace Hb:=au Hb ae;clear ae;refine hK _ _ (fun _=>⟨r0,r1⟩) ?_;clear hK K;try simp only [UU]
     refine aH rfl rfl (fun K hK=>?_);go_simp;refine hK _ _ (fun _=>⟨(aF zf (aF zf r0)),(aF zf (aF zf r1))⟩) ?_;clear hK K;try simp only [UU]
     clear a0 a1 c0 c1 q0 bP q1 bQ r0 aj r1 ak;refine bJ (fun w6=>ai w6 (w.heap.size) 28 [.bool false,.string (bs l)] /\ ai w6 (w.heap.size + 1) 28 [.bool false,.string (bs m)] /\ ai w6 (w.heap.size + 1 + 1) 28 [.bool (ar N),.string (bs (nt N.natAbs))] /\ ai w6 (w.heap.size + 1 + 1 + 1) 28 [.bool false,.string (bs [])] /\ Bw w w6) ⟨((Ha.out.so (w.heap.size + 1 + 1) 0 zo _).so (w.heap.size + 1 + 1) 1 zo _),((Hc.out.so (w.heap.size + 1 + 1) 0 zo _).so (w.heap.size + 1 + 1) 1 zo _),((Hq.out.set 0 _).set 1 _),((Hr.out.so (w.heap.size + 1 + 1) 0 zo _).so (w.heap.size + 1 + 1) 1 zo _),by first | exact ((Hb.out.sc (w.heap.size + 1 + 1) 0 ZS _).sc (w.heap.size + 1 + 1) 1 ZS _) | exact Below.drew ((Hb.out.sc (w.heap.size + 1 + 1) 0 ZS _).sc (w.heap.size + 1 + 1) 1 ZS _)⟩ ?_;rintro w6 ⟨qa,qc,qq,qr,ae⟩;replace Ha:=ah qa;clear qa;replace Hc:=ah qc;clear qc;replace Hq:=ah qq;clear qq;replace Hr:=ah qr;clear qr;obtain ⟨a0,a1⟩:=Ha.out.c2;obtain ⟨c0,c1⟩:=Hc.out.c2;obtain ⟨q0,bP,q1,bQ⟩:=Hq.out.g2;obtain ⟨r0,aj,r1,ak⟩:=Hr.out.g2;replace Hb:=ah ae;clear ae;refine aH rfl rfl (fun K hK=>?_);go_simp;refine hK _ _ (fun h=>absurd h zd) ?_;clear hK K;try simp only [UU]
     clear a0 a1 c0 c1 q0 bP q1 bQ r0 aj r1 ak;refine bJ (fun w7=>ai w7 (w.heap.size) 28 [.bool false,.string (bs l)] /\ ai w7 (w.heap.size + 1) 28 [.bool false,.string (bs m)] /\ ai w7 (w.heap.size + 1 + 1) 28 [.bool (ar N),.string (bs (nt N.natAbs))] /\ ai w7 (w.heap.size + 1 + 1 + 1) 28 [.bool false,.string (bs [])] /\ Bw w w7) ⟨((Ha.out.so (w.heap.size + 1 + 1 + 1) 0 zo _).so (w.heap.size + 1 + 1 + 1) 1 zo _),((Hc.out.so (w.heap.size + 1 + 1 + 1) 0 zo _).so (w.heap.size + 1 + 1 + 1) 1 zo _),((Hq.out.so (w.heap.size + 1 + 1 + 1) 0 zo _).so (w.heap.size + 1 + 1 + 1) 1 zo _),((Hr.out.set 0 _).set 1 _),by first | exact ((Hb.out.sc (w.heap.size + 1 + 1 + 1) 0 ZS _).sc (w.heap.size + 1 + 1 + 1) 1 ZS _) | exact Below.drew ((Hb.out.sc (w.heap.size + 1 + 1 + 1) 0 ZS _).sc (w.heap.size + 1 + 1 + 1) 1 ZS _)⟩ ?_;rintro w7 ⟨qa,qc,qq,qr,ae⟩;replace Ha:=ah qa;clear qa;replace Hc:=ah qc;clear qc;replace Hq:=ah qq;clear qq;replace Hr:=ah qr;clear qr;obtain ⟨a0,a1⟩:=Ha.out.c2;obtain ⟨c0,c1⟩:=Hc.out.c2;obtain ⟨q0,bP,q1,bQ⟩:=Hq.out.g2;obtain ⟨r0,aj,r1,ak⟩:=Hr.out.g2;replace Hb:=ah ae;clear ae;refine aH rfl rfl (fun K hK=>?_);go_simp;refine hK _ _ (fun h=>absurd h zd) ?_;clear hK K;try simp only [UU]
     simp only [aU];go_wp2;refine bodyPost_ret (v:=.tuple #[cp N,.agg #[.bool false,.string (bs [])],.bool true]) (by simp [results,Tryz.results128,go_sem,q0,q1,r0,r1]) rfl ⟨_,rfl,Hb.out⟩
   | true =>
     have hN:=HQ.out;rw [if_neg zd] at hN;have HN:=ah hN;clear hN;obtain ⟨W,aK⟩ : ∃ W,((((w.alloc (.cells #[.bool false,.string (bs l)] 28)).alloc (.cells #[.bool true,.string (bs m)] 28)).alloc (.cells #[.bool false,.string ⟨#[]⟩] 28)).alloc (.cells #[.bool false,.string ⟨#[]⟩] 28)) = W:=⟨_,rfl⟩;have Hb : Hid (Bw w W):=by rw [<- aK];exact (((zl.alloc zj _).alloc zj _).alloc zj _)
     have Ha : Hid (ai W (w.heap.size) 28 [.bool false,.string (bs l)]):=by rw [<- aK];exact (((ai.newAt _ _ _ zm).alloc _).alloc _).alloc _
     have Hc : Hid (ai W (w.heap.size + 1) 28 [.bool true,.string (bs m)]):=by rw [<- aK];exact ((ai.newAt _ _ _ zm).alloc _).alloc _
     have Hq : Hid (ai W (w.heap.size + 1 + 1) 28 [.bool false,.string ⟨#[]⟩]):=by rw [<- aK];exact (ai.newAt _ _ _ zm).alloc _
     have Hr : Hid (ai W (w.heap.size + 1 + 1 + 1) 28 [.bool false,.string ⟨#[]⟩]):=by rw [<- aK];exact ai.newAt _ _ _ zm
     obtain ⟨a0,a1⟩:=Ha.out.c2;obtain ⟨c0,c1⟩:=Hc.out.c2;obtain ⟨q0,bP,q1,bQ⟩:=Hq.out.g2;obtain ⟨r0,aj,r1,ak⟩:=Hr.out.g2;go_enter Tryz.func128,Tryz.ntmps128;go_wp2_with fail;refine (H1.out _).mono ?_;rintro e w1 ⟨rfl,ae⟩;clear a0 a1 c0 c1 q0 bP q1 bQ r0 aj r1 ak;replace Ha:=kB Ha ae;replace Hc:=kB Hc ae;replace Hq:=kB Hq ae;replace Hr:=kB Hr ae;obtain ⟨a0,a1⟩:=Ha.out.c2;obtain ⟨c0,c1⟩:=Hc.out.c2;obtain ⟨q0,bP,q1,bQ⟩:=Hq.out.g2;obtain ⟨r0,aj,r1,ak⟩:=Hr.out.g2;replace Hb:=au Hb ae;clear ae;go_wp2_with fail;clear a0 a1 c0 c1 q0 bP q1 bQ r0 aj r1 ak;obtain ⟨R,hR⟩ : ∃ R : World -> Prop,(fun w2=>ai w2 (w.heap.size) 28 [.bool false,.string (bs l)] /\ ai w2 (w.heap.size + 1) 28 [.bool true,.string (bs m)] /\ ai w2 (w.heap.size + 1 + 1) 28 [.bool false,.string (bs Q)] /\ ai w2 (w.heap.size + 1 + 1 + 1) 28 [.bool false,.string (bs [])] /\ Bw w w2) = R:=⟨_,rfl⟩;first | refine bE R ?hR ?_ | refine bC R ?hR ?_
     case hR=>subst hR;exact ⟨((((Ha.out.so (w.heap.size + 1 + 1) 0 zo _).so (w.heap.size + 1 + 1) 1 zo _).so (w.heap.size + 1 + 1 + 1) 0 zo _).so (w.heap.size + 1 + 1 + 1) 1 zo _),((((Hc.out.so (w.heap.size + 1 + 1) 0 zo _).so (w.heap.size + 1 + 1) 1 zo _).so (w.heap.size + 1 + 1 + 1) 0 zo _).so (w.heap.size + 1 + 1 + 1) 1 zo _),((((Hq.out.set 0 _).set 1 _).so (w.heap.size + 1 + 1 + 1) 0 zo _).so (w.heap.size + 1 + 1 + 1) 1 zo _),((((Hr.out.so (w.heap.size + 1 + 1) 0 zo _).so (w.heap.size + 1 + 1) 1 zo _).set 0 _).set 1 _),((((Hb.out.sc (w.heap.size + 1 + 1) 0 ZS _).sc (w.heap.size + 1 + 1) 1 ZS _).sc (w.heap.size + 1 + 1 + 1) 0 ZS _).sc (w.heap.size + 1 + 1 + 1) 1 ZS _)⟩
     subst hR;rintro w2 ⟨qa,qc,qq,qr,ae⟩;replace Ha:=ah qa;clear qa;replace Hc:=ah qc;clear qc;replace Hq:=ah qq;clear qq;replace Hr:=ah qr;clear qr;obtain ⟨a0,a1⟩:=Ha.out.c2;obtain ⟨c0,c1⟩:=Hc.out.c2;obtain ⟨q0,bP,q1,bQ⟩:=Hq.out.g2;obtain ⟨r0,aj,r1,ak⟩:=Hr.out.g2;replace Hb:=ah ae;clear ae;have hG:=fun W=>FC false Q N HN.out.symm W (Nat.le_trans hlen zd);have hF:=fun W=>wn (ar N) (nt N.natAbs) W (by rw [HN.out];exact Nat.le_trans (Bp false Q 34359738368 hlen) zd);have e : iv (ar N) (nt N.natAbs) = N:=eI N;rw [e] at hF;have HG:=ah hG;have HF:=ah hF;clear hG hF e;go_wp2_with fail;refine (HG.out _).mono ?_;rintro e w3 ⟨rfl,ae⟩;clear a0 a1 c0 c1 q0 bP q1 bQ r0 aj r1 ak;replace Ha:=kB Ha ae;replace Hc:=kB Hc ae;replace Hq:=kB Hq ae;replace Hr:=kB Hr ae;obtain ⟨a0,a1⟩:=Ha.out.c2;obtain ⟨c0,c1⟩:=Hc.out.c2;obtain ⟨q0,bP,q1,bQ⟩:=Hq.out.g2;obtain ⟨r0,aj,r1,ak⟩:=Hr.out.g2;replace Hb:=au Hb ae;clear ae;go_wp2_with fail;clear a0 a1 c0 c1 q0 bP q1 bQ r0 aj r1 ak;obtain ⟨R,hR⟩ : ∃ R : World -> Prop,(fun w4=>ai w4 (w.heap.size) 28 [.bool false,.string (bs l)] /\ ai w4 (w.heap.size + 1) 28 [.bool true,.string (bs m)] /\ ai w4 (w.heap.size + 1 + 1) 28 [.bool (ar N),.string (bs (nt N.natAbs))] /\ ai w4 (w.heap.size + 1 + 1 + 1) 28 [.bool false,.string (bs [])] /\ Bw w w4) = R:=⟨_,rfl⟩;first | refine bE R ?hR ?_ | refine bC R ?hR ?_
     case hR=>subst hR;exact ⟨((Ha.out.so (w.heap.size + 1 + 1) 0 zo _).so (w.heap.size + 1 + 1) 1 zo _),((Hc.out.so (w.heap.size + 1 + 1) 0 zo _).so (w.heap.size + 1 + 1) 1 zo _),((Hq.out.set 0 _).set 1 _),((Hr.out.so (w.heap.size + 1 + 1) 0 zo _).so (w.heap.size + 1 + 1) 1 zo _),((Hb.out.sc (w.heap.size + 1 + 1) 0 ZS _).sc (w.heap.size + 1 + 1) 1 ZS _)⟩
     subst hR;rintro w4 ⟨qa,qc,qq,qr,ae⟩;replace Ha:=ah qa;clear qa;replace Hc:=ah qc;clear qc;replace Hq:=ah qq;clear qq;replace Hr:=ah qr;clear qr;obtain ⟨a0,a1⟩:=Ha.out.c2;obtain ⟨c0,c1⟩:=Hc.out.c2;obtain ⟨q0,bP,q1,bQ⟩:=Hq.out.g2;obtain ⟨r0,aj,r1,ak⟩:=Hr.out.g2;replace Hb:=ah ae;clear ae;refine bG (fun w'=>w'.cell? ⟨w.heap.size + 1 + 1 + 1,0,none⟩ = some (.bool false) /\ w'.cell? ⟨w.heap.size + 1 + 1 + 1,1,none⟩ = some (.string (bs []))) (fun i=>Nat.blt i 4) [(2,true),(0,false),(1,false),(3,false),(4,false),(5,false)] zk zk rfl zk zc ⟨r0,r1⟩ ?_;refine pT rfl rfl ?_ (by intro w' ⟨q0,q1⟩;go_simp;try with_reducible rfl);try simp only [UU]
     refine aH rfl rfl (fun K hK=>?_);go_simp;refine hK _ _ (fun _=>⟨r0,r1⟩) ?_;clear hK K;try simp only [UU]
     refine aH rfl rfl (fun K hK=>?_);go_simp;with_reducible refine (HF.out _).mono ?_
     rintro e w5 ⟨rfl,hq⟩;have ae : Bw w4 w5:=by first | exact hq | exact aM hq
     clear a0 a1 c0 c1 q0 bP q1 bQ r0 aj r1 ak;replace Ha:=kB Ha ae;replace Hc:=kB Hc ae;replace Hq:=kB Hq ae;replace Hr:=kB Hr ae;obtain ⟨a0,a1⟩:=Ha.out.c2;obtain ⟨c0,c1⟩:=Hc.out.c2;obtain ⟨q0,bP,q1,bQ⟩:=Hq.out.g2;obtain ⟨r0,aj,r1,ak⟩:=Hr.out.g2;replace Hb:=au Hb ae;clear ae;refine hK _ _ (fun _=>⟨r0,r1⟩) ?_;clear hK K;try simp only [UU]
     refine aH rfl rfl (fun K hK=>?_);go_simp;refine hK _ _ (fun _=>⟨(aF zf (aF zf r0)),(aF zf (aF zf r1))⟩) ?_;clear hK K;try simp only [UU]
     clear a0 a1 c0 c1 q0 bP q1 bQ r0 aj r1 ak;refine bJ (fun w6=>ai w6 (w.heap.size) 28 [.bool false,.string (bs l)] /\ ai w6 (w.heap.size + 1) 28 [.bool true,.string (bs m)] /\ ai w6 (w.heap.size + 1 + 1) 28 [.bool (ar N),.string (bs (nt N.natAbs))] /\ ai w6 (w.heap.size + 1 + 1 + 1) 28 [.bool false,.string (bs [])] /\ Bw w w6) ⟨((Ha.out.so (w.heap.size + 1 + 1) 0 zo _).so (w.heap.size + 1 + 1) 1 zo _),((Hc.out.so (w.heap.size + 1 + 1) 0 zo _).so (w.heap.size + 1 + 1) 1 zo _),((Hq.out.set 0 _).set 1 _),((Hr.out.so (w.heap.size + 1 + 1) 0 zo _).so (w.heap.size + 1 + 1) 1 zo _),by first | exact ((Hb.out.sc (w.heap.size + 1 + 1) 0 ZS _).sc (w.heap.size + 1 + 1) 1 ZS _) | exact Below.drew ((Hb.out.sc (w.heap.size + 1 + 1) 0 ZS _).sc (w.heap.size + 1 + 1) 1 ZS _)⟩ ?_;rintro w6 ⟨qa,qc,qq,qr,ae⟩;replace Ha:=ah qa;clear qa;replace Hc:=ah qc;clear qc;replace Hq:=ah qq;clear qq;replace Hr:=ah qr;clear qr;obtain ⟨a0,a1⟩:=Ha.out.c2;obtain ⟨c0,c1⟩:=Hc.out.c2;obtain ⟨q0,bP,q1,bQ⟩:=Hq.out.g2;obtain ⟨r0,aj,r1,ak⟩:=Hr.out.g2;replace Hb:=ah ae;clear ae;refine aH rfl rfl (fun K hK=>?_);go_simp;refine hK _ _ (fun h=>absurd h zd) ?_;clear hK K;try simp only [UU]
     clear a0 a1 c0 c1 q0 bP q1 bQ r0 aj r1 ak;refine bJ (fun w7=>ai w7 (w.heap.size) 28 [.bool false,.string (bs l)] /\ ai w7 (w.heap.size + 1) 28 [.bool true,.string (bs m)] /\ ai w7 (w.heap.size + 1 + 1) 28 [.bool (ar N),.string (bs (nt N.natAbs))] /\ ai w7 (w.heap.size + 1 + 1 + 1) 28 [.bool false,.string (bs [])] /\ Bw w w7) ⟨((Ha.out.so (w.heap.size + 1 + 1 + 1) 0 zo _).so (w.heap.size + 1 + 1 + 1) 1 zo _),((Hc.out.so (w.heap.size + 1 + 1 + 1) 0 zo _).so (w.heap.size + 1 + 1 + 1) 1 zo _),((Hq.out.so (w.heap.size + 1 + 1 + 1) 0 zo _).so (w.heap.size + 1 + 1 + 1) 1 zo _),((Hr.out.set 0 _).set 1 _),by first | exact ((Hb.out.sc (w.heap.size + 1 + 1 + 1) 0 ZS _).sc (w.heap.size + 1 + 1 + 1) 1 ZS _) | exact Below.drew ((Hb.out.sc (w.heap.size + 1 + 1 + 1) 0 ZS _).sc (w.heap.size + 1 + 1 + 1) 1 ZS _)⟩ ?_;rintro w7 ⟨qa,qc,qq,qr,ae⟩;replace Ha:=ah qa;clear qa;replace Hc:=ah qc;clear qc;replace Hq:=ah qq;clear qq;replace Hr:=ah qr;clear qr;obtain ⟨a0,a1⟩:=Ha.out.c2;obtain ⟨c0,c1⟩:=Hc.out.c2;obtain ⟨q0,bP,q1,bQ⟩:=Hq.out.g2;obtain ⟨r0,aj,r1,ak⟩:=Hr.out.g2;replace Hb:=ah ae;clear ae;refine aH rfl rfl (fun K hK=>?_);go_simp;refine hK _ _ (fun h=>absurd h zd) ?_;clear hK K;try simp only [UU]
     simp only [aU];go_wp2;refine bodyPost_ret (v:=.tuple #[cp N,.agg #[.bool false,.string (bs [])],.bool true]) (by simp [results,Tryz.results128,go_sem,q0,q1,r0,r1]) rfl ⟨_,rfl,Hb.out⟩
 | true =>
   cases t with
   | false =>
     have hN:=HQ.out;rw [if_neg zd] at hN;have HN:=ah hN;clear hN;obtain ⟨W,aK⟩ : ∃ W,((((w.alloc (.cells #[.bool true,.string (bs l)] 28)).alloc (.cells #[.bool false,.string (bs m)] 28)).alloc (.cells #[.bool false,.string ⟨#[]⟩] 28)).alloc (.cells #[.bool false,.string ⟨#[]⟩] 28)) = W:=⟨_,rfl⟩;have Hb : Hid (Bw w W):=by rw [<- aK];exact (((zl.alloc zj _).alloc zj _).alloc zj _)
     have Ha : Hid (ai W (w.heap.size) 28 [.bool true,.string (bs l)]):=by rw [<- aK];exact (((ai.newAt _ _ _ zm).alloc _).alloc _).alloc _
     have Hc : Hid (ai W (w.heap.size + 1) 28 [.bool false,.string (bs m)]):=by rw [<- aK];exact ((ai.newAt _ _ _ zm).alloc _).alloc _
     have Hq : Hid (ai W (w.heap.size + 1 + 1) 28 [.bool false,.string ⟨#[]⟩]):=by rw [<- aK];exact (ai.newAt _ _ _ zm).alloc _
     have Hr : Hid (ai W (w.heap.size + 1 + 1 + 1) 28 [.bool false,.string ⟨#[]⟩]):=by rw [<- aK];exact ai.newAt _ _ _ zm
     obtain ⟨a0,a1⟩:=Ha.out.c2;obtain ⟨c0,c1⟩:=Hc.out.c2;obtain ⟨q0,bP,q1,bQ⟩:=Hq.out.g2;obtain ⟨r0,aj,r1,ak⟩:=Hr.out.g2;go_enter Tryz.func128,Tryz.ntmps128;go_wp2_with fail;refine (H1.out _).mono ?_;rintro e w1 ⟨rfl,ae⟩;clear a0 a1 c0 c1 q0 bP q1 bQ r0 aj r1 ak;replace Ha:=kB Ha ae;replace Hc:=kB Hc ae;replace Hq:=kB Hq ae;replace Hr:=kB Hr ae;obtain ⟨a0,a1⟩:=Ha.out.c2;obtain ⟨c0,c1⟩:=Hc.out.c2;obtain ⟨q0,bP,q1,bQ⟩:=Hq.out.g2;obtain ⟨r0,aj,r1,ak⟩:=Hr.out.g2;replace Hb:=au Hb ae;clear ae;go_wp2_with fail;clear a0 a1 c0 c1 q0 bP q1 bQ r0 aj r1 ak;obtain ⟨R,hR⟩ : ∃ R : World -> Prop,(fun w2=>ai w2 (w.heap.size) 28 [.bool true,.string (bs l)] /\ ai w2 (w.heap.size + 1) 28 [.bool false,.string (bs m)] /\ ai w2 (w.heap.size + 1 + 1) 28 [.bool false,.string (bs Q)] /\ ai w2 (w.heap.size + 1 + 1 + 1) 28 [.bool false,.string (bs [])] /\ Bw w w2) = R:=⟨_,rfl⟩;first | refine bE R ?hR ?_ | refine bC R ?hR ?_
     case hR=>subst hR;exact ⟨((((Ha.out.so (w.heap.size + 1 + 1) 0 zo _).so (w.heap.size + 1 + 1) 1 zo _).so (w.heap.size + 1 + 1 + 1) 0 zo _).so (w.heap.size + 1 + 1 + 1) 1 zo _),((((Hc.out.so (w.heap.size + 1 + 1) 0 zo _).so (w.heap.size + 1 + 1) 1 zo _).so (w.heap.size + 1 + 1 + 1) 0 zo _).so (w.heap.size + 1 + 1 + 1) 1 zo _),((((Hq.out.set 0 _).set 1 _).so (w.heap.size + 1 + 1 + 1) 0 zo _).so (w.heap.size + 1 + 1 + 1) 1 zo _),((((Hr.out.so (w.heap.size + 1 + 1) 0 zo _).so (w.heap.size + 1 + 1) 1 zo _).set 0 _).set 1 _),((((Hb.out.sc (w.heap.size + 1 + 1) 0 ZS _).sc (w.heap.size + 1 + 1) 1 ZS _).sc (w.heap.size + 1 + 1 + 1) 0 ZS _).sc (w.heap.size + 1 + 1 + 1) 1 ZS _)⟩
     subst hR;rintro w2 ⟨qa,qc,qq,qr,ae⟩;replace Ha:=ah qa;clear qa;replace Hc:=ah qc;clear qc;replace Hq:=ah qq;clear qq;replace Hr:=ah qr;clear qr;obtain ⟨a0,a1⟩:=Ha.out.c2;obtain ⟨c0,c1⟩:=Hc.out.c2;obtain ⟨q0,bP,q1,bQ⟩:=Hq.out.g2;obtain ⟨r0,aj,r1,ak⟩:=Hr.out.g2;replace Hb:=ah ae;clear ae;have hG:=fun W=>FC false Q N HN.out.symm W (Nat.le_trans hlen zd);have hF:=fun W=>wn (ar N) (nt N.natAbs) W (by rw [HN.out];exact Nat.le_trans (Bp false Q 34359738368 hlen) zd);have e : iv (ar N) (nt N.natAbs) = N:=eI N;rw [e] at hF;have HG:=ah hG;have HF:=ah hF;clear hG hF e;go_wp2_with fail;refine (HG.out _).mono ?_;rintro e w3 ⟨rfl,ae⟩;clear a0 a1 c0 c1 q0 bP q1 bQ r0 aj r1 ak;replace Ha:=kB Ha ae;replace Hc:=kB Hc ae;replace Hq:=kB Hq ae;replace Hr:=kB Hr ae;obtain ⟨a0,a1⟩:=Ha.out.c2;obtain ⟨c0,c1⟩:=Hc.out.c2;obtain ⟨q0,bP,q1,bQ⟩:=Hq.out.g2;obtain ⟨r0,aj,r1,ak⟩:=Hr.out.g2;replace Hb:=au Hb ae;clear ae;go_wp2_with fail;clear a0 a1 c0 c1 q0 bP q1 bQ r0 aj r1 ak;obtain ⟨R,hR⟩ : ∃ R : World -> Prop,(fun w4=>ai w4 (w.heap.size) 28 [.bool true,.string (bs l)] /\ ai w4 (w.heap.size + 1) 28 [.bool false,.string (bs m)] /\ ai w4 (w.heap.size + 1 + 1) 28 [.bool (ar N),.string (bs (nt N.natAbs))] /\ ai w4 (w.heap.size + 1 + 1 + 1) 28 [.bool false,.string (bs [])] /\ Bw w w4) = R:=⟨_,rfl⟩;first | refine bE R ?hR ?_ | refine bC R ?hR ?_
     case hR=>subst hR;exact ⟨((Ha.out.so (w.heap.size + 1 + 1) 0 zo _).so (w.heap.size + 1 + 1) 1 zo _),((Hc.out.so (w.heap.size + 1 + 1) 0 zo _).so (w.heap.size + 1 + 1) 1 zo _),((Hq.out.set 0 _).set 1 _),((Hr.out.so (w.heap.size + 1 + 1) 0 zo _).so (w.heap.size + 1 + 1) 1 zo _),((Hb.out.sc (w.heap.size + 1 + 1) 0 ZS _).sc (w.heap.size + 1 + 1) 1 ZS _)⟩
     subst hR;rintro w4 ⟨qa,qc,qq,qr,ae⟩;replace Ha:=ah qa;clear qa;replace Hc:=ah qc;clear qc;replace Hq:=ah qq;clear qq;replace Hr:=ah qr;clear qr;obtain ⟨a0,a1⟩:=Ha.out.c2;obtain ⟨c0,c1⟩:=Hc.out.c2;obtain ⟨q0,bP,q1,bQ⟩:=Hq.out.g2;obtain ⟨r0,aj,r1,ak⟩:=Hr.out.g2;replace Hb:=ah ae;clear ae;refine bG (fun w'=>w'.cell? ⟨w.heap.size + 1 + 1 + 1,0,none⟩ = some (.bool false) /\ w'.cell? ⟨w.heap.size + 1 + 1 + 1,1,none⟩ = some (.string (bs []))) (fun i=>Nat.blt i 4) [(2,true),(0,false),(1,false),(3,false),(4,false),(5,false)] zk zk rfl zk zc ⟨r0,r1⟩ ?_;refine pT rfl rfl ?_ (by intro w' ⟨q0,q1⟩;go_simp;try with_reducible rfl);try simp only [UU]
     refine aH rfl rfl (fun K hK=>?_);go_simp;refine hK _ _ (fun _=>⟨r0,r1⟩) ?_;clear hK K;try simp only [UU]
     refine aH rfl rfl (fun K hK=>?_);go_simp;with_reducible refine (HF.out _).mono ?_
     rintro e w5 ⟨rfl,hq⟩;have ae : Bw w4 w5:=by first | exact hq | exact aM hq
     clear a0 a1 c0 c1 q0 bP q1 bQ r0 aj r1 ak;replace Ha:=kB Ha ae;replace Hc:=kB Hc ae;replace Hq:=kB Hq ae;replace Hr:=kB Hr ae;obtain ⟨a0,a1⟩:=Ha.out.c2;obtain ⟨c0,c1⟩:=Hc.out.c2;obtain ⟨q0,bP,q1,bQ⟩:=Hq.out.g2;obtain ⟨r0,aj,r1,ak⟩:=Hr.out.g2;replace Hb:=au Hb ae;clear ae;refine hK _ _ (fun _=>⟨r0,r1⟩) ?_;clear hK K;try simp only [UU]
     refine aH rfl rfl (fun K hK=>?_);go_simp;refine hK _ _ (fun _=>⟨(aF zf (aF zf r0)),(aF zf (aF zf r1))⟩) ?_;clear hK K;try simp only [UU]
     clear a0 a1 c0 c1 q0 bP q1 bQ r0 aj r1 ak;refine bJ (fun w6=>ai w6 (w.heap.size) 28 [.bool true,.string (bs l)] /\ ai w6 (w.heap.size + 1) 28 [.bool false,.string (bs m)] /\ ai w6 (w.heap.size + 1 + 1) 28 [.bool (ar N),.string (bs (nt N.natAbs))] /\ ai w6 (w.heap.size + 1 + 1 + 1) 28 [.bool false,.string (bs [])] /\ Bw w w6) ⟨((Ha.out.so (w.heap.size + 1 + 1) 0 zo _).so (w.heap.size + 1 + 1) 1 zo _),((Hc.out.so (w.heap.size + 1 + 1) 0 zo _).so (w.heap.size + 1 + 1) 1 zo _),((Hq.out.set 0 _).set 1 _),((Hr.out.so (w.heap.size + 1 + 1) 0 zo _).so (w.heap.size + 1 + 1) 1 zo _),by first | exact ((Hb.out.sc (w.heap.size + 1 + 1) 0 ZS _).sc (w.heap.size + 1 + 1) 1 ZS _) | exact Below.drew ((Hb.out.sc (w.heap.size + 1 + 1) 0 ZS _).sc (w.heap.size + 1 + 1) 1 ZS _)⟩ ?_;rintro w6 ⟨qa,qc,qq,qr,ae⟩;replace Ha:=ah qa;clear qa;replace Hc:=ah qc;clear qc;replace Hq:=ah qq;clear qq;replace Hr:=ah qr;clear qr;obtain ⟨a0,a1⟩:=Ha.out.c2;obtain ⟨c0,c1⟩:=Hc.out.c2;obtain ⟨q0,bP,q1,bQ⟩:=Hq.out.g2;obtain ⟨r0,aj,r1,ak⟩:=Hr.out.g2;replace Hb:=ah ae;clear ae;refine aH rfl rfl (fun K hK=>?_);go_simp;refine hK _ _ (fun h=>absurd h zd) ?_;clear hK K;try simp only [UU]
     clear a0 a1 c0 c1 q0 bP q1 bQ r0 aj r1 ak;refine bJ (fun w7=>ai w7 (w.heap.size) 28 [.bool true,.string (bs l)] /\ ai w7 (w.heap.size + 1) 28 [.bool false,.string (bs m)] /\ ai w7 (w.heap.size + 1 + 1) 28 [.bool (ar N),.string (bs (nt N.natAbs))] /\ ai w7 (w.heap.size + 1 + 1 + 1) 28 [.bool false,.string (bs [])] /\ Bw w w7) ⟨((Ha.out.so (w.heap.size + 1 + 1 + 1) 0 zo _).so (w.heap.size + 1 + 1 + 1) 1 zo _),((Hc.out.so (w.heap.size + 1 + 1 + 1) 0 zo _).so (w.heap.size + 1 + 1 + 1) 1 zo _),((Hq.out.so (w.heap.size + 1 + 1 + 1) 0 zo _).so (w.heap.size + 1 + 1 + 1) 1 zo _),((Hr.out.set 0 _).set 1 _),by first | exact ((Hb.out.sc (w.heap.size + 1 + 1 + 1) 0 ZS _).sc (w.heap.size + 1 + 1 + 1) 1 ZS _) | exact Below.drew ((Hb.out.sc (w.heap.size + 1 + 1 + 1) 0 ZS _).sc (w.heap.size + 1 + 1 + 1) 1 ZS _)⟩ ?_;rintro w7 ⟨qa,qc,qq,qr,ae⟩;replace Ha:=ah qa;clear qa;replace Hc:=ah qc;clear qc;replace Hq:=ah qq;clear qq;replace Hr:=ah qr;clear qr;obtain ⟨a0,a1⟩:=Ha.out.c2;obtain ⟨c0,c1⟩:=Hc.out.c2;obtain ⟨q0,bP,q1,bQ⟩:=Hq.out.g2;obtain ⟨r0,aj,r1,ak⟩:=Hr.out.g2;replace Hb:=ah ae;clear ae;refine aH rfl rfl (fun K hK=>?_);go_simp;refine hK _ _ (fun h=>absurd h zd) ?_;clear hK K;try simp only [UU]
     simp only [aU];go_wp2;refine bodyPost_ret (v:=.tuple #[cp N,.agg #[.bool false,.string (bs [])],.bool true]) (by simp [results,Tryz.results128,go_sem,q0,q1,r0,r1]) rfl ⟨_,rfl,Hb.out⟩
   | true =>
     have hN:=HQ.out;rw [if_pos rfl] at hN;have HN:=ah hN;clear hN;obtain ⟨W,aK⟩ : ∃ W,((((w.alloc (.cells #[.bool true,.string (bs l)] 28)).alloc (.cells #[.bool true,.string (bs m)] 28)).alloc (.cells #[.bool false,.string ⟨#[]⟩] 28)).alloc (.cells #[.bool false,.string ⟨#[]⟩] 28)) = W:=⟨_,rfl⟩;have Hb : Hid (Bw w W):=by rw [<- aK];exact (((zl.alloc zj _).alloc zj _).alloc zj _)
     have Ha : Hid (ai W (w.heap.size) 28 [.bool true,.string (bs l)]):=by rw [<- aK];exact (((ai.newAt _ _ _ zm).alloc _).alloc _).alloc _
     have Hc : Hid (ai W (w.heap.size + 1) 28 [.bool true,.string (bs m)]):=by rw [<- aK];exact ((ai.newAt _ _ _ zm).alloc _).alloc _
     have Hq : Hid (ai W (w.heap.size + 1 + 1) 28 [.bool false,.string ⟨#[]⟩]):=by rw [<- aK];exact (ai.newAt _ _ _ zm).alloc _
     have Hr : Hid (ai W (w.heap.size + 1 + 1 + 1) 28 [.bool false,.string ⟨#[]⟩]):=by rw [<- aK];exact ai.newAt _ _ _ zm
     obtain ⟨a0,a1⟩:=Ha.out.c2;obtain ⟨c0,c1⟩:=Hc.out.c2;obtain ⟨q0,bP,q1,bQ⟩:=Hq.out.g2;obtain ⟨r0,aj,r1,ak⟩:=Hr.out.g2;go_enter Tryz.func128,Tryz.ntmps128;go_wp2_with fail;refine (H1.out _).mono ?_;rintro e w1 ⟨rfl,ae⟩;clear a0 a1 c0 c1 q0 bP q1 bQ r0 aj r1 ak;replace Ha:=kB Ha ae;replace Hc:=kB Hc ae;replace Hq:=kB Hq ae;replace Hr:=kB Hr ae;obtain ⟨a0,a1⟩:=Ha.out.c2;obtain ⟨c0,c1⟩:=Hc.out.c2;obtain ⟨q0,bP,q1,bQ⟩:=Hq.out.g2;obtain ⟨r0,aj,r1,ak⟩:=Hr.out.g2;replace Hb:=au Hb ae;clear ae;go_wp2_with fail;clear a0 a1 c0 c1 q0 bP q1 bQ r0 aj r1 ak;obtain ⟨R,hR⟩ : ∃ R : World -> Prop,(fun w2=>ai w2 (w.heap.size) 28 [.bool true,.string (bs l)] /\ ai w2 (w.heap.size + 1) 28 [.bool true,.string (bs m)] /\ ai w2 (w.heap.size + 1 + 1) 28 [.bool false,.string (bs Q)] /\ ai w2 (w.heap.size + 1 + 1 + 1) 28 [.bool false,.string (bs [])] /\ Bw w w2) = R:=⟨_,rfl⟩;first | refine bE R ?hR ?_ | refine bC R ?hR ?_
     case hR=>subst hR;exact ⟨((((Ha.out.so (w.heap.size + 1 + 1) 0 zo _).so (w.heap.size + 1 + 1) 1 zo _).so (w.heap.size + 1 + 1 + 1) 0 zo _).so (w.heap.size + 1 + 1 + 1) 1 zo _),((((Hc.out.so (w.heap.size + 1 + 1) 0 zo _).so (w.heap.size + 1 + 1) 1 zo _).so (w.heap.size + 1 + 1 + 1) 0 zo _).so (w.heap.size + 1 + 1 + 1) 1 zo _),((((Hq.out.set 0 _).set 1 _).so (w.heap.size + 1 + 1 + 1) 0 zo _).so (w.heap.size + 1 + 1 + 1) 1 zo _),((((Hr.out.so (w.heap.size + 1 + 1) 0 zo _).so (w.heap.size + 1 + 1) 1 zo _).set 0 _).set 1 _),((((Hb.out.sc (w.heap.size + 1 + 1) 0 ZS _).sc (w.heap.size + 1 + 1) 1 ZS _).sc (w.heap.size + 1 + 1 + 1) 0 ZS _).sc (w.heap.size + 1 + 1 + 1) 1 ZS _)⟩
     subst hR;rintro w2 ⟨qa,qc,qq,qr,ae⟩;replace Ha:=ah qa;clear qa;replace Hc:=ah qc;clear qc;replace Hq:=ah qq;clear qq;replace Hr:=ah qr;clear qr;obtain ⟨a0,a1⟩:=Ha.out.c2;obtain ⟨c0,c1⟩:=Hc.out.c2;obtain ⟨q0,bP,q1,bQ⟩:=Hq.out.g2;obtain ⟨r0,aj,r1,ak⟩:=Hr.out.g2;replace Hb:=ah ae;clear ae;have hF:=fun W=>wn false Q W (Nat.le_trans hlen zd);rw [<- HN.out] at hF;have HF:=ah hF;clear hF;refine bG (fun w'=>w'.cell? ⟨w.heap.size + 1 + 1 + 1,0,none⟩ = some (.bool false) /\ w'.cell? ⟨w.heap.size + 1 + 1 + 1,1,none⟩ = some (.string (bs []))) (fun i=>Nat.blt i 4) [(2,true),(0,false),(1,false),(3,false),(4,false),(5,false)] zk zk rfl zk zc ⟨r0,r1⟩ ?_;refine pT rfl rfl ?_ (by intro w' ⟨q0,q1⟩;go_simp;try with_reducible rfl);try simp only [UU]
     refine aH rfl rfl (fun K hK=>?_);go_simp;refine hK _ _ (fun _=>⟨r0,r1⟩) ?_;clear hK K;try simp only [UU]
     refine aH rfl rfl (fun K hK=>?_);go_simp;with_reducible refine (HF.out _).mono ?_
     rintro e w5 ⟨rfl,hq⟩;have ae : Bw w2 w5:=by first | exact hq | exact aM hq
     clear a0 a1 c0 c1 q0 bP q1 bQ r0 aj r1 ak;replace Ha:=kB Ha ae;replace Hc:=kB Hc ae;replace Hq:=kB Hq ae;replace Hr:=kB Hr ae;obtain ⟨a0,a1⟩:=Ha.out.c2;obtain ⟨c0,c1⟩:=Hc.out.c2;obtain ⟨q0,bP,q1,bQ⟩:=Hq.out.g2;obtain ⟨r0,aj,r1,ak⟩:=Hr.out.g2;replace Hb:=au Hb ae;clear ae;refine hK _ _ (fun _=>⟨r0,r1⟩) ?_;clear hK K;try simp only [UU]
     refine aH rfl rfl (fun K hK=>?_);go_simp;refine hK _ _ (fun _=>⟨(aF zf (aF zf r0)),(aF zf (aF zf r1))⟩) ?_;clear hK K;try simp only [UU]
     clear a0 a1 c0 c1 q0 bP q1 bQ r0 aj r1 ak;refine bJ (fun w6=>ai w6 (w.heap.size) 28 [.bool true,.string (bs l)] /\ ai w6 (w.heap.size + 1) 28 [.bool true,.string (bs m)] /\ ai w6 (w.heap.size + 1 + 1) 28 [.bool (ar N),.string (bs (nt N.natAbs))] /\ ai w6 (w.heap.size + 1 + 1 + 1) 28 [.bool false,.string (bs [])] /\ Bw w w6) ⟨((Ha.out.so (w.heap.size + 1 + 1) 0 zo _).so (w.heap.size + 1 + 1) 1 zo _),((Hc.out.so (w.heap.size + 1 + 1) 0 zo _).so (w.heap.size + 1 + 1) 1 zo _),((Hq.out.set 0 _).set 1 _),((Hr.out.so (w.heap.size + 1 + 1) 0 zo _).so (w.heap.size + 1 + 1) 1 zo _),by first | exact ((Hb.out.sc (w.heap.size + 1 + 1) 0 ZS _).sc (w.heap.size + 1 + 1) 1 ZS _) | exact Below.drew ((Hb.out.sc (w.heap.size + 1 + 1) 0 ZS _).sc (w.heap.size + 1 + 1) 1 ZS _)⟩ ?_;rintro w6 ⟨qa,qc,qq,qr,ae⟩;replace Ha:=ah qa;clear qa;replace Hc:=ah qc;clear qc;replace Hq:=ah qq;clear qq;replace Hr:=ah qr;clear qr;obtain ⟨a0,a1⟩:=Ha.out.c2;obtain ⟨c0,c1⟩:=Hc.out.c2;obtain ⟨q0,bP,q1,bQ⟩:=Hq.out.g2;obtain ⟨r0,aj,r1,ak⟩:=Hr.out.g2;replace Hb:=ah ae;clear ae;refine aH rfl rfl (fun K hK=>?_);go_simp;refine hK _ _ (fun h=>absurd h zd) ?_;clear hK K;try simp only [UU]
     clear a0 a1 c0 c1 q0 bP q1 bQ r0 aj r1 ak;refine bJ (fun w7=>ai w7 (w.heap.size) 28 [.bool true,.string (bs l)] /\ ai w7 (w.heap.size + 1) 28 [.bool true,.string (bs m)] /\ ai w7 (w.heap.size + 1 + 1) 28 [.bool (ar N),.string (bs (nt N.natAbs))] /\ ai w7 (w.heap.size + 1 + 1 + 1) 28 [.bool false,.string (bs [])] /\ Bw w w7) ⟨((Ha.out.so (w.heap.size + 1 + 1 + 1) 0 zo _).so (w.heap.size + 1 + 1 + 1) 1 zo _),((Hc.out.so (w.heap.size + 1 + 1 + 1) 0 zo _).so (w.heap.size + 1 + 1 + 1) 1 zo _),((Hq.out.so (w.heap.size + 1 + 1 + 1) 0 zo _).so (w.heap.size + 1 + 1 + 1) 1 zo _),((Hr.out.set 0 _).set 1 _),by first | exact ((Hb.out.sc (w.heap.size + 1 + 1 + 1) 0 ZS _).sc (w.heap.size + 1 + 1 + 1) 1 ZS _) | exact Below.drew ((Hb.out.sc (w.heap.size + 1 + 1 + 1) 0 ZS _).sc (w.heap.size + 1 + 1 + 1) 1 ZS _)⟩ ?_;rintro w7 ⟨qa,qc,qq,qr,ae⟩;replace Ha:=ah qa;clear qa;replace Hc:=ah qc;clear qc;replace Hq:=ah qq;clear qq;replace Hr:=ah qr;clear qr;obtain ⟨a0,a1⟩:=Ha.out.c2;obtain ⟨c0,c1⟩:=Hc.out.c2;obtain ⟨q0,bP,q1,bQ⟩:=Hq.out.g2;obtain ⟨r0,aj,r1,ak⟩:=Hr.out.g2;replace Hb:=ah ae;clear ae;refine aH rfl rfl (fun K hK=>?_);go_simp;refine hK _ _ (fun h=>absurd h zd) ?_;clear hK K;try simp only [UU]
     simp only [aU];go_wp2;refine bodyPost_ret (v:=.tuple #[cp N,.agg #[.bool false,.string (bs [])],.bool true]) (by simp [results,Tryz.results128,go_sem,q0,q1,r0,r1]) rfl ⟨_,rfl,Hb.out⟩
end Go.Proofs.YtdaadlblknpipaaGreatDoor
