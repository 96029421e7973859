/- Package whole,on: Sub,Cmp,Mul,Shift. -/
import Derived.Test.YtdaadlblknpipaaGreatDoorZ6
import Derived.Deep.DeepCutAuto
set_option linter.unusedVariables false
set_option linter.unusedSimpArgs false
set_option maxRecDepth 100000
set_option maxHeartbeats 16000000
namespace Go.Proofs.YtdaadlblknpipaaGreatDoor
open Go.RowKit
attribute [local go_sem ↓] Go.wp_at_zero Go.wp_at_succ
theorem WQ (s : Bool) (l : List UInt8) (t : Bool) (m : List UInt8) (b cap : Nat) (ty : TypeId) (w : World) (hl : l.length <= 34359738368) (hm : m.length <= 34359738368)
 (ha : ai w b ty [.bool s,.string (bs l),.bool t,.string (bs m)]) :
 Calls Tryz.prog 76 #[.slice (some ⟨b,0,none⟩) 2 cap] w fun e w'=>e = .returned (cn (iv s l + iv t m)) /\ Bw w w':=by
 have:=ake [(s,l),(t,m)] (some ⟨b,0,none⟩) cap w (by simp [hl,hm]) zm (At.anV ha);have e : jy [(s,l),(t,m)] = iv s l + iv t m:=by simp [jy]
 rw [e] at this;exact this
theorem Bt (s : Bool) (m : List UInt8) (B : Nat) (hm : m.length <= B) : (nt (-(iv s m)).natAbs).length <= B:=by rw [Int.natAbs_neg,mn];exact gV (Nat.lt_of_lt_of_le (fB m) (Nat.pow_le_pow_right zd hm))
theorem FE (s : Bool) (l : List UInt8) (N : Int) (hN : -(iv s l) = N) (w : World) (hl : l.length <= 1099511627776) :
 Calls Tryz.prog 107 #[.agg #[.bool s,.string (bs l)]] w fun e w'=>e = .returned (cn N) /\ Bw w w':=by
 subst hN;exact WU s l w hl
theorem MO (s : Bool) (l : List UInt8) (t : Bool) (m : List UInt8) (w : World) (hl : l.length <= 34359738368) (hm : m.length <= 34359738368) :
 Calls Tryz.prog 109 #[.agg #[.bool s,.string (bs l)],.agg #[.bool t,.string (bs m)]] w fun e w'=>e = .returned (cn (iv s l - iv t m)) /\ Bw w w':=by
 have hm2:=Bt t m 34359738368 hm;have He : Hid (iv s l + iv (au (-(iv t m))) (nt (-(iv t m)).natAbs) = iv s l - iv t m):=by show _ = _;rw [eK];omega
 generalize hN : -(iv t m) = N at *;have HN:=ah hN;clear hN;go_enter Tryz.func109,Tryz.ntmps109;have Hb : Hid (Bw w w):=Below.refl _ _;go_wp2_with fail;obtain ⟨R,hR⟩ : ∃ R : World -> Prop,(fun W=>ai W (w.heap.size) 28 [.bool s,.string (bs l)] /\ ai W (w.heap.size + 1) 28 [.bool t,.string (bs m)] /\ ai W (w.heap.size + 1 + 1) 28 [.bool false,.string (bs [])] /\ Bw w W) = R:=⟨_,rfl⟩;first | refine bB R ?hR ?_ | refine bA R ?hR ?_
 case hR=>subst hR;exact ⟨(((ai.newAt w _ _ (b:=w.heap.size) rfl).alloc _).alloc _),((ai.newAt (w.alloc _) _ _ (b:=w.heap.size + 1) zm).alloc _),(ai.newAt ((w.alloc _).alloc _) _ _ (b:=w.heap.size + 1 + 1) zm),((zl.alloc zj _).alloc zj _)⟩
 subst hR;rintro W ⟨qx,qy,qr,ae⟩;have Hx:=ah qx;clear qx;have Hy:=ah qy;clear qy;have Hr:=ah qr;clear qr;obtain ⟨x0,x1⟩:=Hx.out.c2;obtain ⟨y0,y1⟩:=Hy.out.c2;obtain ⟨r0,aj,r1,ar⟩:=Hr.out.g2;replace Hb:=az Hb ae;clear ae;have LC : w.heap.size ≠ w.heap.size + 1 + 1:=by omega
 have Vp : w.heap.size + 1 ≠ w.heap.size + 1 + 1:=by omega
 go_region_held3 (fun w'=>w'.cell? ⟨w.heap.size,0,none⟩ = some (.bool s) /\ w'.cell? ⟨w.heap.size,1,none⟩ = some (.string (bs l)) /\ w'.cell? ⟨w.heap.size + 1,0,none⟩ = some (.bool t) /\ w'.cell? ⟨w.heap.size + 1,1,none⟩ = some (.string (bs m))) (((try dsimp only);go_split_ands;(repeat' apply And.intro)<;>(first | exact True.intro | with_reducible assumption | ((with_reducible refine eV zg ?_);(repeat (with_reducible refine eV zg ?_));with_reducible assumption) | exact cell_later (by with_reducible assumption) (by with_reducible assumption) | exact aH (by with_reducible assumption) | go_keep))) (first | (go_at_call 107;(with_reducible refine (FE t m N HN.out _ zo).mono ?_);rintro e w1 ⟨rfl,hq⟩;have hw1 : Bw W w1:=(by first | exact aN hq | exact hq | exact nS hq | exact nR hq | exact qY hq);clear hq;have jk:=ah (Hx.out.below hw1);have wF : w1.cell? ⟨w.heap.size,0,none⟩ = some (.bool s):=jk.out.cell 0;have wG : w1.cell? ⟨w.heap.size,1,none⟩ = some (.string (bs l)):=jk.out.cell 1;have mI:=ah (Hy.out.below hw1);have Cl : w1.cell? ⟨w.heap.size + 1,0,none⟩ = some (.bool t):=mI.out.cell 0;have Cm : w1.cell? ⟨w.heap.size + 1,1,none⟩ = some (.string (bs m)):=mI.out.cell 1;have fS:=ah (Hr.out.below hw1);have wz : w1.cell? ⟨w.heap.size + 1 + 1,0,none⟩ = some (.bool false):=fS.out.cell 0;have uZ : w1.frozen? ⟨w.heap.size + 1 + 1,0,none⟩ = false:=fS.out.free 0;have wA : w1.cell? ⟨w.heap.size + 1 + 1,1,none⟩ = some (.string (bs [])):=fS.out.cell 1;have vd : w1.frozen? ⟨w.heap.size + 1 + 1,1,none⟩ = false:=fS.out.free 1) | (go_at_call 76;(with_reducible refine (WQ s l (au N) (nt N.natAbs) w1.heap.size 2 28 _ hl hm2 (by first | exact ai.drew (ai.new _ _ _) | exact ai.new _ _ _)).mono ?_);rintro e w2 ⟨rfl,hq⟩;have hw2 : Bw w1 w2:=(by first | exact aN hq | exact hq | exact nS hq | exact nR hq | exact qY hq);clear hq;have uN:=ah (jk.out.below hw2);have MU : w2.cell? ⟨w.heap.size,0,none⟩ = some (.bool s):=uN.out.cell 0;have MV : w2.cell? ⟨w.heap.size,1,none⟩ = some (.string (bs l)):=uN.out.cell 1;have Iu:=ah (mI.out.below hw2);have akF : w2.cell? ⟨w.heap.size + 1,0,none⟩ = some (.bool t):=Iu.out.cell 0;have akG : w2.cell? ⟨w.heap.size + 1,1,none⟩ = some (.string (bs m)):=Iu.out.cell 1;have nK:=ah (fS.out.below hw2);have Ma : w2.cell? ⟨w.heap.size + 1 + 1,0,none⟩ = some (.bool false):=nK.out.cell 0;have Jm : w2.frozen? ⟨w.heap.size + 1 + 1,0,none⟩ = false:=nK.out.free 0;have Mb : w2.cell? ⟨w.heap.size + 1 + 1,1,none⟩ = some (.string (bs [])):=nK.out.cell 1;have Jn : w2.frozen? ⟨w.heap.size + 1 + 1,1,none⟩ = false:=nK.out.free 1))
 replace Hb:=ah (aJ Hb.out hw1);clear hw1;replace Hb:=ah (aJ Hb.out hw2);clear hw2 x0 x1 y0 y1 r0 aj r1 ar;replace Hx:=uN;clear jk wF wG MU MV;replace Hy:=Iu;clear mI Cl Cm akF akG;replace Hr:=nK;clear fS wz uZ wA vd Ma Jm Mb Jn;obtain ⟨x0,x1⟩:=Hx.out.c2;obtain ⟨y0,y1⟩:=Hy.out.c2;obtain ⟨r0,aj,r1,ar⟩:=Hr.out.g2;rw [He.out];go_wp2;refine bodyPost_ret (v:=cn (iv s l - iv t m)) (by simp [results,Tryz.results109,go_sem,r0,r1]) rfl ⟨rfl,?_⟩;(repeat first | exact Hb.out | (refine Below.setCell ?_ (by have:=Hb.out.size;first | (dsimp only;omega) | (show _ <= _;omega) | (simp<;>omega)) _) | (refine Below.alloc ?_ zt _) | refine Below.drew ?_)
theorem akh (s : Bool) (l : List UInt8) (t : Bool) (m : List UInt8) (w : World) (hl : l.length <= 34359738368) (hm : m.length <= 34359738368) (hd : (nt (iv s l - iv t m).natAbs).length <= 1099511627776) :
 Calls Tryz.prog 72 #[.agg #[.bool s,.string (bs l)],.agg #[.bool t,.string (bs m)]] w fun e w'=>e = .returned (.int .i64 (dw (iv s l - iv t m))) /\ Bw w w':=by
 have Hi:=ah (eK (iv s l - iv t m));go_enter Tryz.func72,Tryz.ntmps72;have Hb : Hid (Bw w w):=Below.refl _ _;go_wp2_with fail;obtain ⟨R,hR⟩ : ∃ R : World -> Prop,(fun W=>ai W (w.heap.size) 28 [.bool s,.string (bs l)] /\ ai W (w.heap.size + 1) 28 [.bool t,.string (bs m)] /\ Bw w W) = R:=⟨_,rfl⟩;first | refine bB R ?hR ?_ | refine bA R ?hR ?_
 case hR=>subst hR;exact ⟨((ai.newAt w _ _ (b:=w.heap.size) rfl).alloc _),(ai.newAt (w.alloc _) _ _ (b:=w.heap.size + 1) zm),(zl.alloc zj _)⟩
 subst hR;rintro W ⟨qx,qy,ae⟩;have Hx:=ah qx;clear qx;have Hy:=ah qy;clear qy;obtain ⟨x0,x1⟩:=Hx.out.c2;obtain ⟨y0,y1⟩:=Hy.out.c2;replace Hb:=az Hb ae;clear ae;go_wp2_with fail;refine (MO s l t m _ hl hm).mono ?_;rintro e w1 ⟨rfl,ae⟩;clear x0 x1 y0 y1;replace Hx:=kB Hx ae;replace Hy:=kB Hy ae;obtain ⟨x0,x1⟩:=Hx.out.c2;obtain ⟨y0,y1⟩:=Hy.out.c2;replace Hb:=az Hb ae;clear ae;go_wp2_with fail;refine (Cg (au (iv s l - iv t m)) (nt (iv s l - iv t m).natAbs) _ hd).mono ?_;rintro e w2 ⟨rfl,ae⟩;clear x0 x1 y0 y1;replace Hx:=kB Hx ae;replace Hy:=kB Hy ae;obtain ⟨x0,x1⟩:=Hx.out.c2;obtain ⟨y0,y1⟩:=Hy.out.c2;replace Hb:=az Hb ae;clear ae;rw [Hi.out];go_wp2;go_ret;exact ⟨rfl,Hb.out⟩
theorem MN (s : Bool) (l : List UInt8) (n : Nat) (w : World) (hl : l.length <= 68719476736) (hn : n <= 549755813888) :
 Calls Tryz.prog 106 #[.agg #[.bool s,.string (bs l)],.int .i64 (n : Int)] w fun e w'=>e = .returned (cn (iv s l * 2 ^ n)) /\ Bw w w':=by
 have hlen : (nt (nv l * 2 ^ n)).length <= 1099511627776:=by
  have h1 : nv l * 2 ^ n < 2 ^ (8 * l.length + n):=by rw [Nat.pow_add,Nat.pow_mul];exact Nat.mul_lt_mul_of_pos_right (fB l) (Nat.pow_pos zd)
  have h2:=fE h1;rw [ahu];omega
 have He : Hid (iv s (nt (nv l * 2 ^ n)) = iv s l * 2 ^ n):=by
  show _ = _
  rw [kK];unfold iv;cases s<;>simp [Int.natCast_mul,Int.natCast_pow,Int.neg_mul]
 go_enter Tryz.func106,Tryz.ntmps106;have Hb : Hid (Bw w w):=Below.refl _ _;go_wp2_with fail;obtain ⟨R,hR⟩ : ∃ R : World -> Prop,(fun W=>ai W (w.heap.size) 28 [.bool s,.string (bs l)] /\ ai W (w.heap.size + 1) 28 [.bool false,.string (bs [])] /\ Bw w W) = R:=⟨_,rfl⟩;first | refine bB R ?hR ?_ | refine bA R ?hR ?_
 case hR=>subst hR;exact ⟨((ai.newAt w _ _ (b:=w.heap.size) rfl).alloc _),(ai.newAt (w.alloc _) _ _ (b:=w.heap.size + 1) zm),(zl.alloc zj _)⟩
 subst hR;rintro W ⟨qx,qr,ae⟩;have Hx:=ah qx;clear qx;have Hr:=ah qr;clear qr;obtain ⟨x0,x1⟩:=Hx.out.c2;obtain ⟨r0,aj,r1,ar⟩:=Hr.out.g2;replace Hb:=az Hb ae;clear ae;have LC : w.heap.size ≠ w.heap.size + 1:=by omega
 go_region_held3 (fun w'=>w'.cell? ⟨w.heap.size,0,none⟩ = some (.bool s) /\ w'.cell? ⟨w.heap.size,1,none⟩ = some (.string (bs l))) (((try dsimp only);go_split_ands;(repeat' apply And.intro)<;>(first | exact True.intro | with_reducible assumption | ((with_reducible refine eV zg ?_);(repeat (with_reducible refine eV zg ?_));with_reducible assumption) | exact cell_later (by with_reducible assumption) (by with_reducible assumption) | exact aH (by with_reducible assumption) | go_keep))) (first | (go_at_call 143;(with_reducible refine (ahi l n _ hl hn).mono ?_);rintro e w1 ⟨rfl,hq⟩;have hw1 : Bw W w1:=(by first | exact aN hq | exact hq | exact nS hq | exact nR hq | exact qY hq);clear hq;have jk:=ah (Hx.out.below hw1);have wF : w1.cell? ⟨w.heap.size,0,none⟩ = some (.bool s):=jk.out.cell 0;have wG : w1.cell? ⟨w.heap.size,1,none⟩ = some (.string (bs l)):=jk.out.cell 1;have fS:=ah (Hr.out.below hw1);have wz : w1.cell? ⟨w.heap.size + 1,0,none⟩ = some (.bool false):=fS.out.cell 0;have uZ : w1.frozen? ⟨w.heap.size + 1,0,none⟩ = false:=fS.out.free 0;have wA : w1.cell? ⟨w.heap.size + 1,1,none⟩ = some (.string (bs [])):=fS.out.cell 1;have vd : w1.frozen? ⟨w.heap.size + 1,1,none⟩ = false:=fS.out.free 1) | (go_at_call 112;(with_reducible refine (tT (nt (nv l * 2 ^ n)) s _ hlen).mono ?_);rintro e w2 ⟨rfl,hq⟩;have hw2 : Bw w1 w2:=(by first | exact aN hq | exact hq | exact nS hq | exact nR hq | exact qY hq);clear hq;have uN:=ah (jk.out.below hw2);have MU : w2.cell? ⟨w.heap.size,0,none⟩ = some (.bool s):=uN.out.cell 0;have MV : w2.cell? ⟨w.heap.size,1,none⟩ = some (.string (bs l)):=uN.out.cell 1;have nK:=ah (fS.out.below hw2);have Ma : w2.cell? ⟨w.heap.size + 1,0,none⟩ = some (.bool false):=nK.out.cell 0;have Jm : w2.frozen? ⟨w.heap.size + 1,0,none⟩ = false:=nK.out.free 0;have Mb : w2.cell? ⟨w.heap.size + 1,1,none⟩ = some (.string (bs [])):=nK.out.cell 1;have Jn : w2.frozen? ⟨w.heap.size + 1,1,none⟩ = false:=nK.out.free 1))
 replace Hb:=ah (aJ Hb.out hw1);clear hw1;replace Hb:=ah (aJ Hb.out hw2);clear hw2 x0 x1 r0 aj r1 ar;replace Hx:=uN;clear jk wF wG MU MV;replace Hr:=nK;clear fS wz uZ wA vd Ma Jm Mb Jn;obtain ⟨x0,x1⟩:=Hx.out.c2;obtain ⟨r0,aj,r1,ar⟩:=Hr.out.g2;rw [He.out];go_wp2;refine bodyPost_ret (v:=cn (iv s l * 2 ^ n)) (by simp [results,Tryz.results106,go_sem,r0,r1]) rfl ⟨rfl,?_⟩;(repeat first | exact Hb.out | (refine Below.setCell ?_ (by have:=Hb.out.size;first | (dsimp only;omega) | (show _ <= _;omega) | (simp<;>omega)) _) | (refine Below.alloc ?_ zt _) | refine Below.drew ?_)
theorem ML (n N : Int) (hN : n = N) (w : World) (h0 : -9223372036854775808 <= n) (h1 : n <= 9223372036854775807) :
 Calls Tryz.prog 74 #[.int .i64 n] w fun e w'=>e = .returned (cn N) /\ Bw w w':=by
 subst hN;exact MK n w h0 h1
def fP : List (Bool × List UInt8) -> Int
 | []=>1
 | x :: xs=>iv x.1 x.2 * fP xs
theorem afH (xs ys : List (Bool × List UInt8)) : fP (xs ++ ys) = fP xs * fP ys:=by
 induction xs with
 | nil=>simp [fP]
 | cons x xs ih=>simp [fP,ih,Int.mul_assoc]
theorem afK (xs : List (Bool × List UInt8)) (k : Nat) (hk : k < xs.length) : fP (xs.take (k + 1)) = fP (xs.take k) * iv xs[k].1 xs[k].2:=by rw [List.take_succ_eq_append_getElem hk,afH];simp [fP]
def ml (xs : List (Bool × List UInt8)) : Nat:=(xs.map fun x=>x.2.length).sum
theorem afG (xs : List (Bool × List UInt8)) (k : Nat) : ml (xs.take k) <= ml xs:=by
 unfold ml;induction xs generalizing k with
 | nil=>simp
 | cons x xs ih=>cases k with
   | zero=>simp
   | succ k=>simp only [List.take_succ_cons,List.map_cons,List.sum_cons];have:=ih k;omega
theorem afF (xs : List (Bool × List UInt8)) (x) (h : x ∈ xs) : x.2.length <= ml xs:=by
 unfold ml;induction xs with
 | nil=>simp at h
 | cons y xs ih =>
   simp at h ⊢;rcases h with h | h
   . subst h;omega
   . have:=ih h;omega
theorem afJ (xs : List (Bool × List UInt8)) : (fP xs).natAbs <= 256 ^ ml xs:=by
 induction xs with
 | nil=>simp [fP,ml]
 | cons x xs ih =>
   simp only [fP,Int.natAbs_mul,mn];have h1:=fB x.2;have : ml (x :: xs) = x.2.length + ml xs:=by simp [ml]
   rw [this,Nat.pow_add];exact Nat.mul_le_mul (Nat.le_of_lt h1) ih
theorem afI (xs : List (Bool × List UInt8)) (N : Nat) (h : ml xs + 1 <= N) : (nt (fP xs).natAbs).length <= N:=by refine gV (Nat.lt_of_le_of_lt (afJ xs) ?_);exact Nat.pow_lt_pow_right zd zo
theorem akk (xs : List (Bool × List UInt8)) (a : Option Addr) (cap : Nat) (w : World) (hl : ml xs <= 34359738368) (hx : xs.length <= 1048576)
 (ha : At w a (xs.flatMap EP)) :
 Calls Tryz.prog 73 #[.slice a xs.length cap] w fun e w'=>e = .returned (cn (fP xs)) /\ Bw w w':=by
 have Hl:=ah hl;clear hl;have Ha:=ah ha;clear ha;have oY : Hid (∀ k,(nt (fP (xs.take k)).natAbs).length <= 68719476736):=fun k=>afI _ _ (by have:=afG xs k;have:=Hl.out;omega);obtain ⟨one,hone⟩ : ∃ one : Int,1 = one:=⟨_,rfl⟩;have zG:=ah hone;clear hone;go_enter Tryz.func73,Tryz.ntmps73;have Hb : Hid (Bw w w):=Below.refl _ _;go_wp2_with fail;obtain ⟨R,hR⟩ : ∃ R : World -> Prop,(fun W=>ai W (w.heap.size) 28 [.bool false,.string (bs [])] /\ Bw w W) = R:=⟨_,rfl⟩;first | refine bB R ?hR ?_ | refine bA R ?hR ?_
 case hR=>subst hR;exact ⟨(ai.newAt w _ _ (b:=w.heap.size) rfl),zl⟩
 subst hR;rintro W ⟨qr,ae⟩;have Hr:=ah qr;clear qr;obtain ⟨r0,aj,r1,ar⟩:=Hr.out.g2;replace Hb:=az Hb ae;clear ae;go_wp2_with fail;refine (ML 1 one zG.out _ zo zo).mono ?_;rintro e w1 ⟨rfl,ae⟩;clear r0 aj r1 ar;replace Hr:=kB Hr ae;obtain ⟨r0,aj,r1,ar⟩:=Hr.out.g2;replace Hb:=az Hb ae;clear ae;go_wp2_with fail;refine (FI (nt one.natAbs) (au one) _).mono ?_;rintro e w2 ⟨rfl,ae⟩;clear r0 aj r1 ar;replace Hr:=kB Hr ae;obtain ⟨r0,aj,r1,ar⟩:=Hr.out.g2;replace Hb:=az Hb ae;clear ae;have amd : w.heap.size < w2.heap.size:=Hr.out.lt;have vV:=Hr.out.lt;go_wp2_with fail;obtain ⟨R,hR⟩ : ∃ R : World -> Prop,(fun W2=>ai W2 (w2.heap.size) 137 [.string (bs (nt one.natAbs)),.bool (au one)] /\ Bw w2 W2) = R:=⟨_,rfl⟩;first | refine bB R ?hR ?_ | refine bA R ?hR ?_
 case hR=>subst hR;exact ⟨(ai.newAt w2 _ _ (b:=w2.heap.size) rfl),zl⟩
 subst hR;rintro W2 ⟨qs,ae⟩;have Hs:=ah qs;clear qs r0 aj r1 ar;replace Hr:=kB Hr ae;obtain ⟨r0,aj,r1,ar⟩:=Hr.out.g2;obtain ⟨s0,bV,s1,bW⟩:=Hs.out.g2;replace Hb:=az Hb ae;clear ae
 go_loopw [5,10] (fun _ i wr=>∃ (k : Nat) (t : Bool),k <= xs.length /\ i = .int .i64 k /\ iv t (nt (fP (xs.take k)).natAbs) = fP (xs.take k) /\ ai wr w.heap.size 28 [.bool false,.string (bs [])] /\
  ai wr w2.heap.size 137 [.string (bs (nt (fP (xs.take k)).natAbs)),.bool t] /\ Bw w wr) (fun _ i _=>xs.length - (intOf i).toNat)
 case atStart=>
  have e : fP (xs.take 0) = one:=by rw [<- zG.out];simp [fP]
  refine ⟨0,au one,Nat.zero_le _,rfl,?_,Hr.out,?_,Hb.out⟩
  . rw [e];exact eK one
  . rw [e];exact Hs.out
 case round=>
  obtain ⟨k,t,hk,rfl,kG,qr,qs,hb⟩:=hrel;replace Hr:=ah qr;replace Hs:=ah qs;replace Hb:=ah hb;have jH:=ah kG;clear qr qs hb kG r0 r1 aj ar s0 s1 bV bW;by_cases hlt : k < xs.length
  . obtain ⟨b,o,hab,hcs⟩:=(Ha.out.below Hb.out).elem (f:=EP) (sz:=2) (fun _=>rfl) zd k hlt;have hc0 : wr.cell? ⟨b,o + k * 2,none⟩ = some (.bool xs[k].1):=hcs 0 zd;have hc1 : wr.cell? ⟨b,o + k * 2 + 1,none⟩ = some (.string (bs xs[k].2)):=hcs 1 zd;have bz:=rN xs.length cap k (k : Int) hab hlt rfl;have bX:=ah (afK xs k hlt);have jg : Hid (xs[k].2.length <= 34359738368):=by have:=afF xs _ (List.getElem_mem hlt);have:=Hl.out;show _ <= _;omega
    have iP:=ah (oY.out k);clear hcs hab;generalize xs[k] = x at *;obtain ⟨t1,l1⟩:=x;generalize hS : fP (xs.take k) = S at *;have HS:=ah hS;clear hS;obtain ⟨r0,aj,r1,ar⟩:=Hr.out.g2;obtain ⟨s0,bV,s1,bW⟩:=Hs.out.g2;have Br:=Hr.out.lt;have Lu:=Hs.out.lt;go_wp2_with fail;obtain ⟨R,hR⟩ : ∃ R : World -> Prop,(fun W1=>ai W1 (wr.heap.size) 28 [.bool t1,.string (bs l1)] /\ Bw wr W1) = R:=⟨_,rfl⟩;first | refine bB R ?hR ?_ | refine bA R ?hR ?_
    case hR=>subst hR;exact ⟨(ai.newAt wr _ _ (b:=wr.heap.size) rfl),zl⟩
    subst hR;rintro W1 ⟨qa,ae⟩;have Ha:=ah qa;clear qa r0 aj r1 ar;replace Hr:=kB Hr ae;obtain ⟨r0,aj,r1,ar⟩:=Hr.out.g2;clear s0 bV s1 bW;replace Hs:=kB Hs ae;obtain ⟨s0,bV,s1,bW⟩:=Hs.out.g2;obtain ⟨a0,a1⟩:=Ha.out.c2;replace Hb:=az Hb ae;clear ae;go_region_with (first | (go_at_call 110;refine (FI l1 t1 _).mono ?_;rintro e w3 ⟨rfl,hq⟩;have hw3 : Bw W1 w3:=aN hq;clear hq;have Mo:=cell_later hw3 s0;have Mp:=cell_later hw3 s1;have adU:=(Hs.out.below hw3).free 0;have adW:=(Hs.out.below hw3).free 1) | (go_at_call 111;refine (ajW (nt S.natAbs) l1 t t1 _ iP.out (by have:=jg.out;omega)).mono ?_;rintro e w4 ⟨rfl,hw4⟩;have ai9:=cell_later hw4 Mo;have ajc:=cell_later hw4 Mp;have adV:=((Hs.out.below hw3).below hw4).free 0;have adX:=((Hs.out.below hw3).below hw4).free 1))
    all_goals
     go_wp2
     go_roundw
     case rel=>
      have hq:=afP t (nt S.natAbs) t1 l1;rw [jH.out,<- bX.out] at hq;have hq2 : nv (nt S.natAbs) * nv l1 = (fP (xs.take (k + 1))).natAbs:=by rw [bX.out,Int.natAbs_mul,mn,gM]
      rw [hq2] at hq ⊢;refine ⟨k + 1,_,by omega,by go_num,hq,((((Hr.out.below hw3).below hw4).anU ⟨w2.heap.size,0,none⟩ zp _).anU ⟨w2.heap.size,1,none⟩ zp _),((((Hs.out.below hw3).below hw4).set 0 _).set 1 _),?_⟩;exact ((aJ (aJ Hb.out hw3) hw4).setCell zp _).setCell zp _
     case measure=>simp [intOf];omega
  . obtain rfl : k = xs.length:=by omega
    rw [List.take_length] at Hs jH;have iP:=oY.out xs.length;rw [List.take_length] at iP;obtain ⟨r0,aj,r1,ar⟩:=Hr.out.g2;obtain ⟨s0,bV,s1,bW⟩:=Hs.out.g2;go_wp2_with fail;refine (tT (nt (fP xs).natAbs) t _ zo).mono ?_;rintro e w3 ⟨rfl,ae⟩;clear r0 aj r1 ar s0 bV s1 bW;replace Hr:=kB Hr ae;replace Hs:=kB Hs ae;obtain ⟨r0,aj,r1,ar⟩:=Hr.out.g2;obtain ⟨s0,bV,s1,bW⟩:=Hs.out.g2;replace Hb:=az Hb ae;clear ae;rw [jH.out];go_wp2;refine bodyPost_ret (v:=cn (fP xs)) (by simp [results,Tryz.results73,go_sem,r0,r1]) rfl ⟨rfl,?_⟩;(repeat first | exact Hb.out | (refine Below.setCell ?_ (by have:=Hb.out.size;first | (dsimp only;omega) | (show _ <= _;omega) | (simp<;>omega)) _) | (refine Below.alloc ?_ zt _) | refine Below.drew ?_)
theorem WK (v : Nat) (h : 0 < v) : ∃ m,v = 2 ^ tz v * (2 * m + 1):=by
 induction v using Nat.strongRecOn with
 | _ v ih =>
   by_cases he : v % 2 = 0
   . obtain ⟨u,rfl⟩ : ∃ u,v = 2 * u:=⟨v / 2,by omega⟩;obtain ⟨m,hm⟩:=ih u zo zo;refine ⟨m,?_⟩;have e : tz (2 * u) = tz u + 1:=by unfold tz;rw [show ((2 * u : Nat) : Int) = 2 * (u : Int) by omega];exact Int.trailingZeros_two_mul zo
     rw [e,Nat.pow_succ];conv=>lhs;rw [hm]
     rw [Nat.mul_comm (2 ^ tz u) 2,Nat.mul_assoc]
   . refine ⟨v / 2,?_⟩;have e : tz v = 0:=by unfold tz;exact Int.trailingZeros_eq_zero_of_mod_eq zo
     rw [e];omega
theorem WI (v k : Nat) (h : 0 < v) : tz v < k ↔ v % 2 ^ k ≠ 0:=by
 obtain ⟨m,hm⟩:=WK v h;generalize tz v = c at *;constructor
 . intro hc h0;have hd : 2 ^ k ∣ v:=Nat.dvd_of_mod_eq_zero h0;have hd2 : 2 ^ (c + 1) ∣ v:=Nat.dvd_trans (Nat.pow_dvd_pow 2 hc) hd;rw [hm,Nat.pow_succ] at hd2;have:=Nat.dvd_of_mul_dvd_mul_left (Nat.pow_pos zd) hd2;omega
 . intro hne;rcases Nat.lt_or_ge c k with h1 | h1
   . exact h1
   . exfalso;apply hne
     rw [hm];exact Nat.mod_eq_zero_of_dvd (Nat.dvd_trans (Nat.pow_dvd_pow 2 h1) (Nat.dvd_mul_right _ _))
theorem ahk (v k : Nat) (h : v % 2 ^ k = 0) : -(v : Int) / 2 ^ k = -((v / 2 ^ k : Nat) : Int):=by
 obtain ⟨q,rfl⟩:=Nat.dvd_of_mod_eq_zero h;have hp:=Nat.pow_pos (n:=k) (show 0 < 2 by decide);rw [Nat.mul_div_cancel_left _ hp];have e : -((2 ^ k * q : Nat) : Int) = 2 ^ k * (-(q : Int)):=by simp [Int.natCast_mul,Int.natCast_pow,Int.mul_neg]
 rw [e,Int.mul_ediv_cancel_left];have : ((2 ^ k : Nat) : Int) ≠ 0:=by omega
 simpa [Int.natCast_pow] using this
theorem ahl (v k : Nat) (h : v % 2 ^ k ≠ 0) : -(v : Int) / 2 ^ k = -((v / 2 ^ k : Nat) : Int) - 1:=by
 have hp:=Nat.pow_pos (n:=k) (show 0 < 2 by decide);have e:=(Nat.mod_add_div v (2 ^ k)).symm;have hr:=Nat.mod_lt v hp;rw [show ((2 : Int) ^ k) = ((2 ^ k : Nat) : Int) by simp [Int.natCast_pow]];generalize v % 2 ^ k = r at *;generalize v / 2 ^ k = q at *;generalize 2 ^ k = p at *;subst e;have e2 : -((r + p * q : Nat) : Int) = ((p : Int) - r) + p * (-(q : Int) - 1):=by rw [Int.natCast_add,Int.natCast_mul,Int.mul_sub,Int.mul_neg,Int.mul_one];omega
 rw [e2,Int.add_mul_ediv_left _ _ zo,Int.ediv_eq_zero_of_lt zo zo];omega
theorem aht (l : List UInt8) (k B : Nat) (hl : l.length <= B) : (nt (nv l / 2 ^ k)).length <= B:=gV (Nat.lt_of_le_of_lt (Nat.div_le_self _ _) (Nat.lt_of_lt_of_le (fB l) (Nat.pow_le_pow_right zd hl)))
theorem WV (s : Bool) (l : List UInt8) (k : Nat) (w : World) (hl : l.length <= 34359738368) (hk : 0 < k) (hk2 : k <= 1099511627776) (hT : aB w) :
 Calls Tryz.prog 106 #[.agg #[.bool s,.string (bs l)],.int .i64 (-(k : Int))] w fun e w'=>e = .returned (cn (iv s l / 2 ^ k)) /\ Bw w w':=by
 have hmax : max (-(k : Int)) (-1099511627776) = -(k : Int):=by omega
 have hlen : (nt (nv l / 2 ^ k)).length <= 34359738368:=aht l k _ hl;obtain ⟨Z,hZ⟩ : ∃ Z,nv l / 2 ^ k = Z:=⟨_,rfl⟩;have EK : ∀ W,Calls Tryz.prog 144 #[.string (bs l),.int .i64 (k : Int)] W fun e w'=>e = .returned (.string (bs (nt Z))) /\ Bw W w':=fun W=>by rw [<- hZ];exact ahj l k W zo hk2
 rw [hZ] at hlen;have HZ:=ah hZ;clear hZ;have ZU:=ah EK;clear EK;obtain ⟨M,hM⟩ : ∃ M,iv s (nt Z) = M:=⟨_,rfl⟩;have HM:=ah hM;clear hM;have Te : ∀ W,Calls Tryz.prog 112 #[.agg #[.string (bs (nt Z)),.bool s]] W fun e w'=>e = .returned (cn M) /\ Bw W w':=fun W=>by have:=tT (nt Z) s W zo;rw [HM.out] at this;exact this
 have Zb:=ah Te;clear Te;go_enter Tryz.func106,Tryz.ntmps106;have Hb : Hid (Bw w w):=Below.refl _ _;go_upto_region 4 with fail
 go_wp2_with fail;obtain ⟨R,hR⟩ : ∃ R : World -> Prop,(fun W=>ai W (w.heap.size) 28 [.bool s,.string (bs l)] /\ ai W (w.heap.size + 1) 28 [.bool false,.string (bs [])] /\ Bw w W) = R:=⟨_,rfl⟩;first | refine bB R ?hR ?_ | refine bA R ?hR ?_
 case hR=>subst hR;exact ⟨((ai.newAt w _ _ (b:=w.heap.size) rfl).alloc _),(ai.newAt (w.alloc _) _ _ (b:=w.heap.size + 1) zm),(zl.alloc zj _)⟩
 subst hR;rintro W ⟨qx,qr,ae⟩;have Hx:=ah qx;clear qx;have Hr:=ah qr;clear qr;obtain ⟨x0,x1⟩:=Hx.out.c2;obtain ⟨r0,aj,r1,ar⟩:=Hr.out.g2;replace Hb:=az Hb ae;clear ae;go_cut [5] (fun s5 wx=>∃ g : Nat,s5 = .pointer (some ⟨g,0,none⟩) /\ w.heap.size + 1 < g /\ ai wx w.heap.size 28 [.bool s,.string (bs l)] /\ ai wx (w.heap.size + 1) 28 [.bool false,.string (bs [])] /\ ai wx g 28 [.bool (au M),.string (bs (nt M.natAbs))] /\ Bw w wx);case first=>
  have hxW : w.heap.size < W.heap.size:=Hx.out.lt;have hrW : w.heap.size + 1 < W.heap.size:=Hr.out.lt;have hwk : IntKind.i64.wrap (k : Int) = (k : Int):=by rw [IntKind.wrap_i64];omega
  go_region_held3 (fun w'=>w'.cell? ⟨w.heap.size,0,none⟩ = some (.bool s) /\ w'.cell? ⟨w.heap.size,1,none⟩ = some (.string (bs l))) (((try dsimp only);go_split_ands;(repeat' apply And.intro)<;>(first | with_reducible assumption | exact aH (by with_reducible assumption) | exact IL (by with_reducible assumption) | exact IL (aH (by with_reducible assumption)) | ((with_reducible refine eV zf ?_);(repeat (with_reducible refine eV zf ?_));first | with_reducible assumption | exact aH (by with_reducible assumption) | exact IL (by with_reducible assumption)) | go_keep))) (first | (go_at_call 144;(with_reducible refine (ZU.out _).mono ?_);rintro e w1 ⟨rfl,hq⟩;(first | (have hw1 : Bw W w1:=aN hq) | (have hw1 : Bw W w1:=qY hq;have zE:=ah (ai.below (ai.drew (ai.new W 28 [.bool false,.string (bs [])])) hq);have anq : w1.cell? ⟨W.heap.size,0,none⟩ = some (.bool false):=zE.out.cell 0;have anr : w1.cell? ⟨W.heap.size,1,none⟩ = some (.string (bs [])):=zE.out.cell 1;have alf:=zE.out.free 0;have alg:=zE.out.free 1));clear hq;have zs1:=hw1.size;have Ir:=ah (Hx.out.below hw1);have ZP:=ah (Hr.out.below hw1);have anG : w1.cell? ⟨w.heap.size,0,none⟩ = some (.bool s):=Ir.out.cell 0;have anI : w1.cell? ⟨w.heap.size,1,none⟩ = some (.string (bs l)):=Ir.out.cell 1) | (go_at_call 112;(with_reducible refine (Zb.out _).mono ?_);rintro e w2 ⟨rfl,hq⟩;(first | (have hw2 : Bw w1 w2:=hq;(try (have nJ:=ah (ai.below zE.out hq);have ag5 : w2.cell? ⟨W.heap.size,0,none⟩ = some (.bool false):=nJ.out.cell 0;have ag8 : w2.cell? ⟨W.heap.size,1,none⟩ = some (.string (bs [])):=nJ.out.cell 1;have adK:=nJ.out.free 0;have adL:=nJ.out.free 1))) | (have hw2 : Bw w1 w2:=nR hq;have nJ:=ah (ai.below (ai.new w1 28 [.bool false,.string (bs [])]) hq);have ag5 : w2.cell? ⟨w1.heap.size,0,none⟩ = some (.bool false):=nJ.out.cell 0;have ag8 : w2.cell? ⟨w1.heap.size,1,none⟩ = some (.string (bs [])):=nJ.out.cell 1;have adK:=nJ.out.free 0;have adL:=nJ.out.free 1));clear hq;have zs2:=hw2.size;have zP:=ah (Ir.out.below hw2);have GY:=ah (ZP.out.below hw2);have anH : w2.cell? ⟨w.heap.size,0,none⟩ = some (.bool s):=zP.out.cell 0;have anJ : w2.cell? ⟨w.heap.size,1,none⟩ = some (.string (bs l)):=zP.out.cell 1))
  all_goals (go_wp2_with fail;go_meet)
  . exact ⟨w2.heap.size,rfl,by omega,zP.out.alloc _,GY.out.alloc _,ai.new _ _ _,(aJ (aJ Hb.out hw1) hw2).alloc zo _⟩
  . exact ⟨w1.heap.size,rfl,by omega,((zP.out.anU ⟨w1.heap.size,0,none⟩ (by first | (dsimp only;omega) | omega | (simp<;>omega)) _).anU ⟨w1.heap.size,1,none⟩ (by first | (dsimp only;omega) | omega | (simp<;>omega)) _),((GY.out.anU ⟨w1.heap.size,0,none⟩ (by first | (dsimp only;omega) | omega | (simp<;>omega)) _).anU ⟨w1.heap.size,1,none⟩ (by first | (dsimp only;omega) | omega | (simp<;>omega)) _),((nJ.out.set 0 _).set 1 _),((aJ (aJ Hb.out hw1) hw2).setCell (by first | (dsimp only;omega) | omega | (simp<;>omega)) _).setCell (by first | (dsimp only;omega) | omega | (simp<;>omega)) _⟩
  . exact ⟨W.heap.size,rfl,hrW,((zP.out.anU ⟨W.heap.size,0,none⟩ (by first | (dsimp only;omega) | omega | (simp<;>omega)) _).anU ⟨W.heap.size,1,none⟩ (by first | (dsimp only;omega) | omega | (simp<;>omega)) _),((GY.out.anU ⟨W.heap.size,0,none⟩ (by first | (dsimp only;omega) | omega | (simp<;>omega)) _).anU ⟨W.heap.size,1,none⟩ (by first | (dsimp only;omega) | omega | (simp<;>omega)) _),((nJ.out.set 0 _).set 1 _),((aJ (aJ Hb.out hw1) hw2).setCell (by first | (dsimp only;omega) | omega | (simp<;>omega)) _).setCell (by first | (dsimp only;omega) | omega | (simp<;>omega)) _⟩
 case rest=>
  obtain ⟨g,rfl,hg,qx,qr,qn,qb⟩:=hcut;replace Hx:=ah qx;replace Hr:=ah qr;have Hn:=ah qn;replace Hb:=ah qb;clear qx qr qn qb x0 x1 r0 r1 aj ar;cases s
  . obtain ⟨x0,x1⟩:=Hx.out.c2;obtain ⟨r0,aj,r1,ar⟩:=Hr.out.g2;obtain ⟨n0,n1⟩:=Hn.out.c2;have fD : Hid (iv false l / 2 ^ k = M):=by
     show _ = _
     rw [<- HM.out,<- HZ.out,kK];unfold iv;simp [Int.natCast_pow]
    go_wp2;refine bodyPost_ret (v:=cn M) (by simp [results,Tryz.results106,go_sem,r0,r1]) rfl ⟨by rw [fD.out],?_⟩;(repeat first | exact Hb.out | (refine Below.setCell ?_ (by have:=Hb.out.size;first | (dsimp only;omega) | (show _ <= _;omega) | (simp<;>omega)) _) | (refine Below.alloc ?_ zt _) | refine Below.drew ?_)
  . obtain ⟨x0,x1⟩:=Hx.out.c2;obtain ⟨r0,aj,r1,ar⟩:=Hr.out.g2;obtain ⟨n0,n1⟩:=Hn.out.c2;have mD : Hid (l.length <= 68719476736):=by show _ <= _;omega
    by_cases h0 : nv l = 0
    . have hb0 : bo (nv l) = 0:=by rw [h0];rfl
      have fD : Hid (iv true l / 2 ^ k = M):=by
       show _ = _
       rw [<- HM.out,<- HZ.out,kK,h0];unfold iv;simp [h0]
      have kV:=ah hb0;clear hb0;go_wp2_with fail;refine (LA l _ mD.out).mono ?_;rintro e w3 ⟨rfl,ae⟩;clear x0 x1 r0 aj r1 ar n0 n1;replace Hx:=kB Hx ae;replace Hr:=kB Hr ae;replace Hn:=kB Hn ae;obtain ⟨x0,x1⟩:=Hx.out.c2;obtain ⟨r0,aj,r1,ar⟩:=Hr.out.g2;obtain ⟨n0,n1⟩:=Hn.out.c2;replace Hb:=az Hb ae;clear ae;rw [kV.out];go_wp2;refine bodyPost_ret (v:=cn M) (by simp [results,Tryz.results106,go_sem,r0,r1]) rfl ⟨by rw [fD.out],?_⟩;(repeat first | exact Hb.out | (refine Below.setCell ?_ (by have:=Hb.out.size;first | (dsimp only;omega) | (show _ <= _;omega) | (simp<;>omega)) _) | (refine Below.alloc ?_ zt _) | refine Below.drew ?_)
    . have hbp : 0 < bo (nv l):=zZ zo;have yO : Hid (aB wc):=hT.below Hb.out;by_cases hz : tz (nv l) < k
      . have fD : Hid (iv true l / 2 ^ k = M - 1):=by
         show _ = _
         rw [<- HM.out,<- HZ.out,kK];have:=(WI (nv l) k zo).1 hz;unfold iv;simp only [if_true];exact ahl _ _ this
        have XA : Hid ((nt M.natAbs).length <= 34359738368):=by show _ <= _;rw [<- HM.out,mn,gM];exact hlen
        obtain ⟨one,hone⟩ : ∃ one : Int,1 = one:=⟨_,rfl⟩;have Zo : Hid ((nt one.natAbs).length <= 34359738368):=by show _ <= _;rw [<- hone];exact Nat.le_trans (gV (k:=1) zd) zd
        have zG:=ah hone;clear hone;have ZX : Hid (iv (au M) (nt M.natAbs) - iv (au one) (nt one.natAbs) = M - 1):=by show _ = _;rw [eK,eK,<- zG.out]
        go_wp2_with fail;refine (LA l _ mD.out).mono ?_;rintro e w3 ⟨rfl,ae⟩;clear x0 x1 r0 aj r1 ar n0 n1;replace Hx:=kB Hx ae;replace Hr:=kB Hr ae;replace Hn:=kB Hn ae;obtain ⟨x0,x1⟩:=Hx.out.c2;obtain ⟨r0,aj,r1,ar⟩:=Hr.out.g2;obtain ⟨n0,n1⟩:=Hn.out.c2;replace Hb:=az Hb ae;clear ae;replace yO:=ah (hT.below Hb.out);go_wp2_with fail;refine (LB l _ mD.out yO.out).mono ?_;rintro e w4 ⟨rfl,ae⟩;clear x0 x1 r0 aj r1 ar n0 n1;replace Hx:=kB Hx ae;replace Hr:=kB Hr ae;replace Hn:=kB Hn ae;obtain ⟨x0,x1⟩:=Hx.out.c2;obtain ⟨r0,aj,r1,ar⟩:=Hr.out.g2;obtain ⟨n0,n1⟩:=Hn.out.c2;replace Hb:=az Hb ae;clear ae;go_wp2_with fail;have nen : g ≠ w.heap.size + 1:=by omega
        go_region_held3 (fun w'=>w'.cell? ⟨g,0,none⟩ = some (.bool (au M)) /\ w'.cell? ⟨g,1,none⟩ = some (.string (bs (nt M.natAbs)))) (((try dsimp only);go_split_ands;(repeat' apply And.intro)<;>(first | exact True.intro | with_reducible assumption | ((with_reducible refine eV zg ?_);(repeat (with_reducible refine eV zg ?_));with_reducible assumption) | exact cell_later (by with_reducible assumption) (by with_reducible assumption) | exact aH (by with_reducible assumption) | go_keep))) (first | (go_at_call 74;(with_reducible refine (ML 1 one zG.out _ zo zo).mono ?_);rintro e w5 ⟨rfl,hq⟩;have cB : Bw w4 w5:=(by first | exact aN hq | exact hq | exact nS hq | exact nR hq | exact qY hq);clear hq;have OZ:=ah (Hx.out.below cB);have wU:=ah (Hr.out.below cB);have aiv : w5.cell? ⟨w.heap.size + 1,0,none⟩ = some (.bool false):=wU.out.cell 0;have adO : w5.frozen? ⟨w.heap.size + 1,0,none⟩ = false:=wU.out.free 0;have aix : w5.cell? ⟨w.heap.size + 1,1,none⟩ = some (.string (bs [])):=wU.out.cell 1;have adQ : w5.frozen? ⟨w.heap.size + 1,1,none⟩ = false:=wU.out.free 1;have CN:=ah (Hn.out.below cB);have ag6 : w5.cell? ⟨g,0,none⟩ = some (.bool (au M)):=CN.out.cell 0;have ag9 : w5.cell? ⟨g,1,none⟩ = some (.string (bs (nt M.natAbs))):=CN.out.cell 1) | (go_at_call 109;(with_reducible refine (MO (au M) (nt M.natAbs) (au one) (nt one.natAbs) _ XA.out Zo.out).mono ?_);rintro e w6 ⟨rfl,hq⟩;have Bg : Bw w5 w6:=(by first | exact aN hq | exact hq | exact nS hq | exact nR hq | exact qY hq);clear hq;have aar:=ah (OZ.out.below Bg);have zK:=ah (wU.out.below Bg);have aiw : w6.cell? ⟨w.heap.size + 1,0,none⟩ = some (.bool false):=zK.out.cell 0;have adP : w6.frozen? ⟨w.heap.size + 1,0,none⟩ = false:=zK.out.free 0;have aiy : w6.cell? ⟨w.heap.size + 1,1,none⟩ = some (.string (bs [])):=zK.out.cell 1;have adR : w6.frozen? ⟨w.heap.size + 1,1,none⟩ = false:=zK.out.free 1;have GN:=ah (CN.out.below Bg);have ag7 : w6.cell? ⟨g,0,none⟩ = some (.bool (au M)):=GN.out.cell 0;have aha : w6.cell? ⟨g,1,none⟩ = some (.string (bs (nt M.natAbs))):=GN.out.cell 1))
        replace Hb:=ah (aJ Hb.out cB);clear cB;replace Hb:=ah (aJ Hb.out Bg);clear Bg x0 x1 r0 aj r1 ar n0 n1;replace Hx:=aar;clear OZ;replace Hr:=zK;clear wU aiv adO aix adQ aiw adP aiy adR;replace Hn:=GN;clear CN ag6 ag9 ag7 aha;obtain ⟨x0,x1⟩:=Hx.out.c2;obtain ⟨r0,aj,r1,ar⟩:=Hr.out.g2;obtain ⟨n0,n1⟩:=Hn.out.c2;rw [ZX.out];go_wp2;refine bodyPost_ret (v:=cn (M - 1)) (by simp [results,Tryz.results106,go_sem,r0,r1]) rfl ⟨by rw [fD.out],?_⟩;(repeat first | exact Hb.out | (refine Below.setCell ?_ (by have:=Hb.out.size;first | (dsimp only;omega) | (show _ <= _;omega) | (simp<;>omega)) _) | (refine Below.alloc ?_ zt _) | refine Below.drew ?_)
      . have fD : Hid (iv true l / 2 ^ k = M):=by
         show _ = _
         rw [<- HM.out,<- HZ.out,kK];have h2 : nv l % 2 ^ k = 0:=by
          rcases Nat.eq_zero_or_pos (nv l % 2 ^ k) with h | h
          . exact h
          . exact absurd ((WI (nv l) k zo).2 zo) hz
         unfold iv;simp only [if_true];exact ahk _ _ h2
        go_wp2_with fail;refine (LA l _ mD.out).mono ?_;rintro e w3 ⟨rfl,ae⟩;clear x0 x1 r0 aj r1 ar n0 n1;replace Hx:=kB Hx ae;replace Hr:=kB Hr ae;replace Hn:=kB Hn ae;obtain ⟨x0,x1⟩:=Hx.out.c2;obtain ⟨r0,aj,r1,ar⟩:=Hr.out.g2;obtain ⟨n0,n1⟩:=Hn.out.c2;replace Hb:=az Hb ae;clear ae;replace yO:=ah (hT.below Hb.out);go_wp2_with fail;refine (LB l _ mD.out yO.out).mono ?_;rintro e w4 ⟨rfl,ae⟩;clear x0 x1 r0 aj r1 ar n0 n1;replace Hx:=kB Hx ae;replace Hr:=kB Hr ae;replace Hn:=kB Hn ae;obtain ⟨x0,x1⟩:=Hx.out.c2;obtain ⟨r0,aj,r1,ar⟩:=Hr.out.g2;obtain ⟨n0,n1⟩:=Hn.out.c2;replace Hb:=az Hb ae;clear ae;go_wp2;refine bodyPost_ret (v:=cn M) (by simp [results,Tryz.results106,go_sem,r0,r1]) rfl ⟨by rw [fD.out],?_⟩;(repeat first | exact Hb.out | (refine Below.setCell ?_ (by have:=Hb.out.size;first | (dsimp only;omega) | (show _ <= _;omega) | (simp<;>omega)) _) | (refine Below.alloc ?_ zt _) | refine Below.drew ?_)
end Go.Proofs.YtdaadlblknpipaaGreatDoor
