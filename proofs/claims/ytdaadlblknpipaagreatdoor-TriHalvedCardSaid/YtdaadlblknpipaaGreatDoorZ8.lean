/- Package whole,on: Sub,Cmp,Mul,Shift. -/
import Derived.Test.YtdaadlblknpipaaGreatDoorZ6
import Derived.Deep.DeepCutAuto
set_option linter.unusedVariables false
set_option linter.unusedSimpArgs false
set_option maxRecDepth 100000
set_option maxHeartbeats 16000000
namespace Go.Proofs.YtdaadlblknpipaaGreatDoor
open Go.RowKit
attribute [local go_sem ↓] Go.wp_at_zero Go.wp_at_succ
theorem WI (s : Bool) (l : List UInt8) (t : Bool) (m : List UInt8) (b cap : Nat) (ty : TypeId) (w : World) (hl : l.length <= 34359738368) (hm : m.length <= 34359738368)
 (ha : ai w b ty [.bool s,.string (bs l),.bool t,.string (bs m)]) :
 Calls Tryz.prog 76 #[.slice (some ⟨b,0,none⟩) 2 cap] w fun e w'=>e = .returned (cp (iv s l + iv t m)) /\ Bw w w':=by
 have:=ajU [(s,l),(t,m)] (some ⟨b,0,none⟩) cap w (by simp [hl,hm]) zm (At.anF ha);have e : jx [(s,l),(t,m)] = iv s l + iv t m:=by simp [jx]
 rw [e] at this;exact this
theorem Bp (s : Bool) (m : List UInt8) (B : Nat) (hm : m.length <= B) : (nt (-(iv s m)).natAbs).length <= B:=by rw [Int.natAbs_neg,mo];exact gU (Nat.lt_of_lt_of_le (fA m) (Nat.pow_le_pow_right zd hm))
theorem FC (s : Bool) (l : List UInt8) (N : Int) (hN : -(iv s l) = N) (w : World) (hl : l.length <= 1099511627776) :
 Calls Tryz.prog 107 #[.agg #[.bool s,.string (bs l)]] w fun e w'=>e = .returned (cp N) /\ Bw w w':=by
 subst hN;exact WM s l w hl
theorem MP (s : Bool) (l : List UInt8) (t : Bool) (m : List UInt8) (w : World) (hl : l.length <= 34359738368) (hm : m.length <= 34359738368) :
 Calls Tryz.prog 109 #[.agg #[.bool s,.string (bs l)],.agg #[.bool t,.string (bs m)]] w fun e w'=>e = .returned (cp (iv s l - iv t m)) /\ Bw w w':=by
 have hm2:=Bp t m 34359738368 hm;have He : Hid (iv s l + iv (ar (-(iv t m))) (nt (-(iv t m)).natAbs) = iv s l - iv t m):=by show _ = _;rw [eI];omega
 generalize hN : -(iv t m) = N at *;have HN:=ah hN;clear hN;go_enter Tryz.func109,Tryz.ntmps109;have Hb : Hid (Bw w w):=Below.refl _ _;go_wp2_with fail;obtain ⟨R,hR⟩ : ∃ R : World -> Prop,(fun W=>ai W (w.heap.size) 28 [.bool s,.string (bs l)] /\ ai W (w.heap.size + 1) 28 [.bool t,.string (bs m)] /\ ai W (w.heap.size + 1 + 1) 28 [.bool false,.string (bs [])] /\ Bw w W) = R:=⟨_,rfl⟩;first | refine bE R ?hR ?_ | refine bC R ?hR ?_
 case hR=>subst hR;exact ⟨(((ai.newAt w _ _ (b:=w.heap.size) rfl).alloc _).alloc _),((ai.newAt (w.alloc _) _ _ (b:=w.heap.size + 1) zm).alloc _),(ai.newAt ((w.alloc _).alloc _) _ _ (b:=w.heap.size + 1 + 1) zm),((zl.alloc zj _).alloc zj _)⟩
 subst hR;rintro W ⟨qx,qy,qr,ae⟩;have Hx:=ah qx;clear qx;have Hy:=ah qy;clear qy;have Hr:=ah qr;clear qr;obtain ⟨x0,x1⟩:=Hx.out.c2;obtain ⟨y0,y1⟩:=Hy.out.c2;obtain ⟨r0,aj,r1,ak⟩:=Hr.out.g2;replace Hb:=au Hb ae;clear ae;have LH : w.heap.size ≠ w.heap.size + 1 + 1:=by omega
 have Vk : w.heap.size + 1 ≠ w.heap.size + 1 + 1:=by omega
 go_region_held3 (fun w'=>w'.cell? ⟨w.heap.size,0,none⟩ = some (.bool s) /\ w'.cell? ⟨w.heap.size,1,none⟩ = some (.string (bs l)) /\ w'.cell? ⟨w.heap.size + 1,0,none⟩ = some (.bool t) /\ w'.cell? ⟨w.heap.size + 1,1,none⟩ = some (.string (bs m))) (((try dsimp only);go_split_ands;(repeat' apply And.intro)<;>(first | exact True.intro | with_reducible assumption | ((with_reducible refine eQ zg ?_);(repeat (with_reducible refine eQ zg ?_));with_reducible assumption) | exact cell_later (by with_reducible assumption) (by with_reducible assumption) | exact aG (by with_reducible assumption) | go_keep))) (first | (go_at_call 107;(with_reducible refine (FC t m N HN.out _ zo).mono ?_);rintro e w1 ⟨rfl,hq⟩;have hw1 : Bw W w1:=(by first | exact aM hq | exact hq | exact nQ hq | exact nP hq | exact qQ hq);clear hq;have ji:=ah (Hx.out.below hw1);have ww : w1.cell? ⟨w.heap.size,0,none⟩ = some (.bool s):=ji.out.cell 0;have wy : w1.cell? ⟨w.heap.size,1,none⟩ = some (.string (bs l)):=ji.out.cell 1;have mH:=ah (Hy.out.below hw1);have Ci : w1.cell? ⟨w.heap.size + 1,0,none⟩ = some (.bool t):=mH.out.cell 0;have Cj : w1.cell? ⟨w.heap.size + 1,1,none⟩ = some (.string (bs m)):=mH.out.cell 1;have fV:=ah (Hr.out.below hw1);have vW : w1.cell? ⟨w.heap.size + 1 + 1,0,none⟩ = some (.bool false):=fV.out.cell 0;have uQ : w1.frozen? ⟨w.heap.size + 1 + 1,0,none⟩ = false:=fV.out.free 0;have vX : w1.cell? ⟨w.heap.size + 1 + 1,1,none⟩ = some (.string (bs [])):=fV.out.cell 1;have uR : w1.frozen? ⟨w.heap.size + 1 + 1,1,none⟩ = false:=fV.out.free 1) | (go_at_call 76;(with_reducible refine (WI s l (ar N) (nt N.natAbs) w1.heap.size 2 28 _ hl hm2 (by first | exact ai.drew (ai.new _ _ _) | exact ai.new _ _ _)).mono ?_);rintro e w2 ⟨rfl,hq⟩;have hw2 : Bw w1 w2:=(by first | exact aM hq | exact hq | exact nQ hq | exact nP hq | exact qQ hq);clear hq;have uD:=ah (ji.out.below hw2);have MV : w2.cell? ⟨w.heap.size,0,none⟩ = some (.bool s):=uD.out.cell 0;have MW : w2.cell? ⟨w.heap.size,1,none⟩ = some (.string (bs l)):=uD.out.cell 1;have Ip:=ah (mH.out.below hw2);have ako : w2.cell? ⟨w.heap.size + 1,0,none⟩ = some (.bool t):=Ip.out.cell 0;have akp : w2.cell? ⟨w.heap.size + 1,1,none⟩ = some (.string (bs m)):=Ip.out.cell 1;have nI:=ah (fV.out.below hw2);have Me : w2.cell? ⟨w.heap.size + 1 + 1,0,none⟩ = some (.bool false):=nI.out.cell 0;have Jj : w2.frozen? ⟨w.heap.size + 1 + 1,0,none⟩ = false:=nI.out.free 0;have Mf : w2.cell? ⟨w.heap.size + 1 + 1,1,none⟩ = some (.string (bs [])):=nI.out.cell 1;have Jk : w2.frozen? ⟨w.heap.size + 1 + 1,1,none⟩ = false:=nI.out.free 1))
 replace Hb:=ah (aI Hb.out hw1);clear hw1;replace Hb:=ah (aI Hb.out hw2);clear hw2 x0 x1 y0 y1 r0 aj r1 ak;replace Hx:=uD;clear ji ww wy MV MW;replace Hy:=Ip;clear mH Ci Cj ako akp;replace Hr:=nI;clear fV vW uQ vX uR Me Jj Mf Jk;obtain ⟨x0,x1⟩:=Hx.out.c2;obtain ⟨y0,y1⟩:=Hy.out.c2;obtain ⟨r0,aj,r1,ak⟩:=Hr.out.g2;rw [He.out];go_wp2;refine bodyPost_ret (v:=cp (iv s l - iv t m)) (by simp [results,Tryz.results109,go_sem,r0,r1]) rfl ⟨rfl,?_⟩;(repeat first | exact Hb.out | (refine Below.setCell ?_ (by have:=Hb.out.size;first | (dsimp only;omega) | (show _ <= _;omega) | (simp<;>omega)) _) | (refine Below.alloc ?_ zt _) | refine Below.drew ?_)
theorem ajX (s : Bool) (l : List UInt8) (t : Bool) (m : List UInt8) (w : World) (hl : l.length <= 34359738368) (hm : m.length <= 34359738368) (hd : (nt (iv s l - iv t m).natAbs).length <= 1099511627776) :
 Calls Tryz.prog 72 #[.agg #[.bool s,.string (bs l)],.agg #[.bool t,.string (bs m)]] w fun e w'=>e = .returned (.int .i64 (dz (iv s l - iv t m))) /\ Bw w w':=by
 have Hi:=ah (eI (iv s l - iv t m));go_enter Tryz.func72,Tryz.ntmps72;have Hb : Hid (Bw w w):=Below.refl _ _;go_wp2_with fail;obtain ⟨R,hR⟩ : ∃ R : World -> Prop,(fun W=>ai W (w.heap.size) 28 [.bool s,.string (bs l)] /\ ai W (w.heap.size + 1) 28 [.bool t,.string (bs m)] /\ Bw w W) = R:=⟨_,rfl⟩;first | refine bE R ?hR ?_ | refine bC R ?hR ?_
 case hR=>subst hR;exact ⟨((ai.newAt w _ _ (b:=w.heap.size) rfl).alloc _),(ai.newAt (w.alloc _) _ _ (b:=w.heap.size + 1) zm),(zl.alloc zj _)⟩
 subst hR;rintro W ⟨qx,qy,ae⟩;have Hx:=ah qx;clear qx;have Hy:=ah qy;clear qy;obtain ⟨x0,x1⟩:=Hx.out.c2;obtain ⟨y0,y1⟩:=Hy.out.c2;replace Hb:=au Hb ae;clear ae;go_wp2_with fail;refine (MP s l t m _ hl hm).mono ?_;rintro e w1 ⟨rfl,ae⟩;clear x0 x1 y0 y1;replace Hx:=kB Hx ae;replace Hy:=kB Hy ae;obtain ⟨x0,x1⟩:=Hx.out.c2;obtain ⟨y0,y1⟩:=Hy.out.c2;replace Hb:=au Hb ae;clear ae;go_wp2_with fail;refine (Cc (ar (iv s l - iv t m)) (nt (iv s l - iv t m).natAbs) _ hd).mono ?_;rintro e w2 ⟨rfl,ae⟩;clear x0 x1 y0 y1;replace Hx:=kB Hx ae;replace Hy:=kB Hy ae;obtain ⟨x0,x1⟩:=Hx.out.c2;obtain ⟨y0,y1⟩:=Hy.out.c2;replace Hb:=au Hb ae;clear ae;rw [Hi.out];go_wp2;go_ret;exact ⟨rfl,Hb.out⟩
theorem MO (s : Bool) (l : List UInt8) (n : Nat) (w : World) (hl : l.length <= 68719476736) (hn : n <= 549755813888) :
 Calls Tryz.prog 106 #[.agg #[.bool s,.string (bs l)],.int .i64 (n : Int)] w fun e w'=>e = .returned (cp (iv s l * 2 ^ n)) /\ Bw w w':=by
 have hlen : (nt (nv l * 2 ^ n)).length <= 1099511627776:=by
  have h1 : nv l * 2 ^ n < 2 ^ (8 * l.length + n):=by rw [Nat.pow_add,Nat.pow_mul];exact Nat.mul_lt_mul_of_pos_right (fA l) (Nat.pow_pos zd)
  have h2:=fE h1;rw [ahj];omega
 have He : Hid (iv s (nt (nv l * 2 ^ n)) = iv s l * 2 ^ n):=by
  show _ = _
  rw [kJ];unfold iv;cases s<;>simp [Int.natCast_mul,Int.natCast_pow,Int.neg_mul]
 go_enter Tryz.func106,Tryz.ntmps106;have Hb : Hid (Bw w w):=Below.refl _ _;go_wp2_with fail;obtain ⟨R,hR⟩ : ∃ R : World -> Prop,(fun W=>ai W (w.heap.size) 28 [.bool s,.string (bs l)] /\ ai W (w.heap.size + 1) 28 [.bool false,.string (bs [])] /\ Bw w W) = R:=⟨_,rfl⟩;first | refine bE R ?hR ?_ | refine bC R ?hR ?_
 case hR=>subst hR;exact ⟨((ai.newAt w _ _ (b:=w.heap.size) rfl).alloc _),(ai.newAt (w.alloc _) _ _ (b:=w.heap.size + 1) zm),(zl.alloc zj _)⟩
 subst hR;rintro W ⟨qx,qr,ae⟩;have Hx:=ah qx;clear qx;have Hr:=ah qr;clear qr;obtain ⟨x0,x1⟩:=Hx.out.c2;obtain ⟨r0,aj,r1,ak⟩:=Hr.out.g2;replace Hb:=au Hb ae;clear ae;have LH : w.heap.size ≠ w.heap.size + 1:=by omega
 go_region_held3 (fun w'=>w'.cell? ⟨w.heap.size,0,none⟩ = some (.bool s) /\ w'.cell? ⟨w.heap.size,1,none⟩ = some (.string (bs l))) (((try dsimp only);go_split_ands;(repeat' apply And.intro)<;>(first | exact True.intro | with_reducible assumption | ((with_reducible refine eQ zg ?_);(repeat (with_reducible refine eQ zg ?_));with_reducible assumption) | exact cell_later (by with_reducible assumption) (by with_reducible assumption) | exact aG (by with_reducible assumption) | go_keep))) (first | (go_at_call 143;(with_reducible refine (ag7 l n _ hl hn).mono ?_);rintro e w1 ⟨rfl,hq⟩;have hw1 : Bw W w1:=(by first | exact aM hq | exact hq | exact nQ hq | exact nP hq | exact qQ hq);clear hq;have ji:=ah (Hx.out.below hw1);have ww : w1.cell? ⟨w.heap.size,0,none⟩ = some (.bool s):=ji.out.cell 0;have wy : w1.cell? ⟨w.heap.size,1,none⟩ = some (.string (bs l)):=ji.out.cell 1;have fV:=ah (Hr.out.below hw1);have vW : w1.cell? ⟨w.heap.size + 1,0,none⟩ = some (.bool false):=fV.out.cell 0;have uQ : w1.frozen? ⟨w.heap.size + 1,0,none⟩ = false:=fV.out.free 0;have vX : w1.cell? ⟨w.heap.size + 1,1,none⟩ = some (.string (bs [])):=fV.out.cell 1;have uR : w1.frozen? ⟨w.heap.size + 1,1,none⟩ = false:=fV.out.free 1) | (go_at_call 112;(with_reducible refine (tH (nt (nv l * 2 ^ n)) s _ hlen).mono ?_);rintro e w2 ⟨rfl,hq⟩;have hw2 : Bw w1 w2:=(by first | exact aM hq | exact hq | exact nQ hq | exact nP hq | exact qQ hq);clear hq;have uD:=ah (ji.out.below hw2);have MV : w2.cell? ⟨w.heap.size,0,none⟩ = some (.bool s):=uD.out.cell 0;have MW : w2.cell? ⟨w.heap.size,1,none⟩ = some (.string (bs l)):=uD.out.cell 1;have nI:=ah (fV.out.below hw2);have Me : w2.cell? ⟨w.heap.size + 1,0,none⟩ = some (.bool false):=nI.out.cell 0;have Jj : w2.frozen? ⟨w.heap.size + 1,0,none⟩ = false:=nI.out.free 0;have Mf : w2.cell? ⟨w.heap.size + 1,1,none⟩ = some (.string (bs [])):=nI.out.cell 1;have Jk : w2.frozen? ⟨w.heap.size + 1,1,none⟩ = false:=nI.out.free 1))
 replace Hb:=ah (aI Hb.out hw1);clear hw1;replace Hb:=ah (aI Hb.out hw2);clear hw2 x0 x1 r0 aj r1 ak;replace Hx:=uD;clear ji ww wy MV MW;replace Hr:=nI;clear fV vW uQ vX uR Me Jj Mf Jk;obtain ⟨x0,x1⟩:=Hx.out.c2;obtain ⟨r0,aj,r1,ak⟩:=Hr.out.g2;rw [He.out];go_wp2;refine bodyPost_ret (v:=cp (iv s l * 2 ^ n)) (by simp [results,Tryz.results106,go_sem,r0,r1]) rfl ⟨rfl,?_⟩;(repeat first | exact Hb.out | (refine Below.setCell ?_ (by have:=Hb.out.size;first | (dsimp only;omega) | (show _ <= _;omega) | (simp<;>omega)) _) | (refine Below.alloc ?_ zt _) | refine Below.drew ?_)
theorem MM (n N : Int) (hN : n = N) (w : World) (h0 : -9223372036854775808 <= n) (h1 : n <= 9223372036854775807) :
 Calls Tryz.prog 74 #[.int .i64 n] w fun e w'=>e = .returned (cp N) /\ Bw w w':=by
 subst hN;exact ML n w h0 h1
def fS : List (Bool × List UInt8) -> Int
 | []=>1
 | x :: xs=>iv x.1 x.2 * fS xs
theorem afD (xs ys : List (Bool × List UInt8)) : fS (xs ++ ys) = fS xs * fS ys:=by
 induction xs with
 | nil=>simp [fS]
 | cons x xs ih=>simp [fS,ih,Int.mul_assoc]
theorem afG (xs : List (Bool × List UInt8)) (k : Nat) (hk : k < xs.length) : fS (xs.take (k + 1)) = fS (xs.take k) * iv xs[k].1 xs[k].2:=by rw [List.take_succ_eq_append_getElem hk,afD];simp [fS]
def mn (xs : List (Bool × List UInt8)) : Nat:=(xs.map fun x=>x.2.length).sum
theorem afz (xs : List (Bool × List UInt8)) (k : Nat) : mn (xs.take k) <= mn xs:=by
 unfold mn;induction xs generalizing k with
 | nil=>simp
 | cons x xs ih=>cases k with
   | zero=>simp
   | succ k=>simp only [List.take_succ_cons,List.map_cons,List.sum_cons];have:=ih k;omega
theorem afy (xs : List (Bool × List UInt8)) (x) (h : x ∈ xs) : x.2.length <= mn xs:=by
 unfold mn;induction xs with
 | nil=>simp at h
 | cons y xs ih =>
   simp at h ⊢;rcases h with h | h
   . subst h;omega
   . have:=ih h;omega
theorem afF (xs : List (Bool × List UInt8)) : (fS xs).natAbs <= 256 ^ mn xs:=by
 induction xs with
 | nil=>simp [fS,mn]
 | cons x xs ih =>
   simp only [fS,Int.natAbs_mul,mo];have h1:=fA x.2;have : mn (x :: xs) = x.2.length + mn xs:=by simp [mn]
   rw [this,Nat.pow_add];exact Nat.mul_le_mul (Nat.le_of_lt h1) ih
theorem afE (xs : List (Bool × List UInt8)) (N : Nat) (h : mn xs + 1 <= N) : (nt (fS xs).natAbs).length <= N:=by refine gU (Nat.lt_of_le_of_lt (afF xs) ?_);exact Nat.pow_lt_pow_right zd zo
theorem aj0 (xs : List (Bool × List UInt8)) (a : Option Addr) (cap : Nat) (w : World) (hl : mn xs <= 34359738368) (hx : xs.length <= 1048576)
 (ha : At w a (xs.flatMap EO)) :
 Calls Tryz.prog 73 #[.slice a xs.length cap] w fun e w'=>e = .returned (cp (fS xs)) /\ Bw w w':=by
 have Hl:=ah hl;clear hl;have Ha:=ah ha;clear ha;have yz : Hid (∀ k,(nt (fS (xs.take k)).natAbs).length <= 68719476736):=fun k=>afE _ _ (by have:=afz xs k;have:=Hl.out;omega);obtain ⟨one,hone⟩ : ∃ one : Int,1 = one:=⟨_,rfl⟩;have ze:=ah hone;clear hone;go_enter Tryz.func73,Tryz.ntmps73;have Hb : Hid (Bw w w):=Below.refl _ _;go_wp2_with fail;obtain ⟨R,hR⟩ : ∃ R : World -> Prop,(fun W=>ai W (w.heap.size) 28 [.bool false,.string (bs [])] /\ Bw w W) = R:=⟨_,rfl⟩;first | refine bE R ?hR ?_ | refine bC R ?hR ?_
 case hR=>subst hR;exact ⟨(ai.newAt w _ _ (b:=w.heap.size) rfl),zl⟩
 subst hR;rintro W ⟨qr,ae⟩;have Hr:=ah qr;clear qr;obtain ⟨r0,aj,r1,ak⟩:=Hr.out.g2;replace Hb:=au Hb ae;clear ae;go_wp2_with fail;refine (MM 1 one ze.out _ zo zo).mono ?_;rintro e w1 ⟨rfl,ae⟩;clear r0 aj r1 ak;replace Hr:=kB Hr ae;obtain ⟨r0,aj,r1,ak⟩:=Hr.out.g2;replace Hb:=au Hb ae;clear ae;go_wp2_with fail;refine (FE (nt one.natAbs) (ar one) _).mono ?_;rintro e w2 ⟨rfl,ae⟩;clear r0 aj r1 ak;replace Hr:=kB Hr ae;obtain ⟨r0,aj,r1,ak⟩:=Hr.out.g2;replace Hb:=au Hb ae;clear ae;have alR : w.heap.size < w2.heap.size:=Hr.out.lt;have vK:=Hr.out.lt;go_wp2_with fail;obtain ⟨R,hR⟩ : ∃ R : World -> Prop,(fun W2=>ai W2 (w2.heap.size) 137 [.string (bs (nt one.natAbs)),.bool (ar one)] /\ Bw w2 W2) = R:=⟨_,rfl⟩;first | refine bE R ?hR ?_ | refine bC R ?hR ?_
 case hR=>subst hR;exact ⟨(ai.newAt w2 _ _ (b:=w2.heap.size) rfl),zl⟩
 subst hR;rintro W2 ⟨qs,ae⟩;have Hs:=ah qs;clear qs r0 aj r1 ak;replace Hr:=kB Hr ae;obtain ⟨r0,aj,r1,ak⟩:=Hr.out.g2;obtain ⟨s0,bY,s1,bZ⟩:=Hs.out.g2;replace Hb:=au Hb ae;clear ae
 go_loopw [5,10] (fun _ i wr=>∃ (k : Nat) (t : Bool),k <= xs.length /\ i = .int .i64 k /\ iv t (nt (fS (xs.take k)).natAbs) = fS (xs.take k) /\ ai wr w.heap.size 28 [.bool false,.string (bs [])] /\
  ai wr w2.heap.size 137 [.string (bs (nt (fS (xs.take k)).natAbs)),.bool t] /\ Bw w wr) (fun _ i _=>xs.length - (intOf i).toNat)
 case atStart=>
  have e : fS (xs.take 0) = one:=by rw [<- ze.out];simp [fS]
  refine ⟨0,ar one,Nat.zero_le _,rfl,?_,Hr.out,?_,Hb.out⟩
  . rw [e];exact eI one
  . rw [e];exact Hs.out
 case round=>
  obtain ⟨k,t,hk,rfl,gB,qr,qs,hb⟩:=hrel;replace Hr:=ah qr;replace Hs:=ah qs;replace Hb:=ah hb;have gZ:=ah gB;clear qr qs hb gB r0 r1 aj ak s0 s1 bY bZ;by_cases hlt : k < xs.length
  . obtain ⟨b,o,hab,hcs⟩:=(Ha.out.below Hb.out).elem (f:=EO) (sz:=2) (fun _=>rfl) zd k hlt;have hc0 : wr.cell? ⟨b,o + k * 2,none⟩ = some (.bool xs[k].1):=hcs 0 zd;have hc1 : wr.cell? ⟨b,o + k * 2 + 1,none⟩ = some (.string (bs xs[k].2)):=hcs 1 zd;have bD:=rD xs.length cap k (k : Int) hab hlt rfl;have cd:=ah (afG xs k hlt);have jf : Hid (xs[k].2.length <= 34359738368):=by have:=afy xs _ (List.getElem_mem hlt);have:=Hl.out;show _ <= _;omega
    have iN:=ah (yz.out k);clear hcs hab;generalize xs[k] = x at *;obtain ⟨t1,l1⟩:=x;generalize hS : fS (xs.take k) = S at *;have HS:=ah hS;clear hS;obtain ⟨r0,aj,r1,ak⟩:=Hr.out.g2;obtain ⟨s0,bY,s1,bZ⟩:=Hs.out.g2;have Bo:=Hr.out.lt;have Lx:=Hs.out.lt;go_wp2_with fail;obtain ⟨R,hR⟩ : ∃ R : World -> Prop,(fun W1=>ai W1 (wr.heap.size) 28 [.bool t1,.string (bs l1)] /\ Bw wr W1) = R:=⟨_,rfl⟩;first | refine bE R ?hR ?_ | refine bC R ?hR ?_
    case hR=>subst hR;exact ⟨(ai.newAt wr _ _ (b:=wr.heap.size) rfl),zl⟩
    subst hR;rintro W1 ⟨qa,ae⟩;have Ha:=ah qa;clear qa r0 aj r1 ak;replace Hr:=kB Hr ae;obtain ⟨r0,aj,r1,ak⟩:=Hr.out.g2;clear s0 bY s1 bZ;replace Hs:=kB Hs ae;obtain ⟨s0,bY,s1,bZ⟩:=Hs.out.g2;obtain ⟨a0,a1⟩:=Ha.out.c2;replace Hb:=au Hb ae;clear ae;go_region_with (first | (go_at_call 110;refine (FE l1 t1 _).mono ?_;rintro e w3 ⟨rfl,hq⟩;have hw3 : Bw W1 w3:=aM hq;clear hq;have Ms:=cell_later hw3 s0;have Mt:=cell_later hw3 s1;have adN:=(Hs.out.below hw3).free 0;have adP:=(Hs.out.below hw3).free 1) | (go_at_call 111;refine (ajA (nt S.natAbs) l1 t t1 _ iN.out (by have:=jf.out;omega)).mono ?_;rintro e w4 ⟨rfl,hw4⟩;have aiU:=cell_later hw4 Ms;have aiX:=cell_later hw4 Mt;have adO:=((Hs.out.below hw3).below hw4).free 0;have adQ:=((Hs.out.below hw3).below hw4).free 1))
    all_goals
     go_wp2
     go_roundw
     case rel=>
      have hq:=afL t (nt S.natAbs) t1 l1;rw [gZ.out,<- cd.out] at hq;have hq2 : nv (nt S.natAbs) * nv l1 = (fS (xs.take (k + 1))).natAbs:=by rw [cd.out,Int.natAbs_mul,mo,gN]
      rw [hq2] at hq ⊢;refine ⟨k + 1,_,by omega,by go_num,hq,((((Hr.out.below hw3).below hw4).anE ⟨w2.heap.size,0,none⟩ zp _).anE ⟨w2.heap.size,1,none⟩ zp _),((((Hs.out.below hw3).below hw4).set 0 _).set 1 _),?_⟩;exact ((aI (aI Hb.out hw3) hw4).setCell zp _).setCell zp _
     case measure=>simp [intOf];omega
  . obtain rfl : k = xs.length:=by omega
    rw [List.take_length] at Hs gZ;have iN:=yz.out xs.length;rw [List.take_length] at iN;obtain ⟨r0,aj,r1,ak⟩:=Hr.out.g2;obtain ⟨s0,bY,s1,bZ⟩:=Hs.out.g2;go_wp2_with fail;refine (tH (nt (fS xs).natAbs) t _ zo).mono ?_;rintro e w3 ⟨rfl,ae⟩;clear r0 aj r1 ak s0 bY s1 bZ;replace Hr:=kB Hr ae;replace Hs:=kB Hs ae;obtain ⟨r0,aj,r1,ak⟩:=Hr.out.g2;obtain ⟨s0,bY,s1,bZ⟩:=Hs.out.g2;replace Hb:=au Hb ae;clear ae;rw [gZ.out];go_wp2;refine bodyPost_ret (v:=cp (fS xs)) (by simp [results,Tryz.results73,go_sem,r0,r1]) rfl ⟨rfl,?_⟩;(repeat first | exact Hb.out | (refine Below.setCell ?_ (by have:=Hb.out.size;first | (dsimp only;omega) | (show _ <= _;omega) | (simp<;>omega)) _) | (refine Below.alloc ?_ zt _) | refine Below.drew ?_)
theorem WA (v : Nat) (h : 0 < v) : ∃ m,v = 2 ^ tz v * (2 * m + 1):=by
 induction v using Nat.strongRecOn with
 | _ v ih =>
   by_cases he : v % 2 = 0
   . obtain ⟨u,rfl⟩ : ∃ u,v = 2 * u:=⟨v / 2,by omega⟩;obtain ⟨m,hm⟩:=ih u zo zo;refine ⟨m,?_⟩;have e : tz (2 * u) = tz u + 1:=by unfold tz;rw [show ((2 * u : Nat) : Int) = 2 * (u : Int) by omega];exact Int.trailingZeros_two_mul zo
     rw [e,Nat.pow_succ];conv=>lhs;rw [hm]
     rw [Nat.mul_comm (2 ^ tz u) 2,Nat.mul_assoc]
   . refine ⟨v / 2,?_⟩;have e : tz v = 0:=by unfold tz;exact Int.trailingZeros_eq_zero_of_mod_eq zo
     rw [e];omega
theorem Wy (v k : Nat) (h : 0 < v) : tz v < k ↔ v % 2 ^ k ≠ 0:=by
 obtain ⟨m,hm⟩:=WA v h;generalize tz v = c at *;constructor
 . intro hc h0;have hd : 2 ^ k ∣ v:=Nat.dvd_of_mod_eq_zero h0;have hd2 : 2 ^ (c + 1) ∣ v:=Nat.dvd_trans (Nat.pow_dvd_pow 2 hc) hd;rw [hm,Nat.pow_succ] at hd2;have:=Nat.dvd_of_mul_dvd_mul_left (Nat.pow_pos zd) hd2;omega
 . intro hne;rcases Nat.lt_or_ge c k with h1 | h1
   . exact h1
   . exfalso;apply hne
     rw [hm];exact Nat.mod_eq_zero_of_dvd (Nat.dvd_trans (Nat.pow_dvd_pow 2 h1) (Nat.dvd_mul_right _ _))
theorem ag9 (v k : Nat) (h : v % 2 ^ k = 0) : -(v : Int) / 2 ^ k = -((v / 2 ^ k : Nat) : Int):=by
 obtain ⟨q,rfl⟩:=Nat.dvd_of_mod_eq_zero h;have hp:=Nat.pow_pos (n:=k) (show 0 < 2 by decide);rw [Nat.mul_div_cancel_left _ hp];have e : -((2 ^ k * q : Nat) : Int) = 2 ^ k * (-(q : Int)):=by simp [Int.natCast_mul,Int.natCast_pow,Int.mul_neg]
 rw [e,Int.mul_ediv_cancel_left];have : ((2 ^ k : Nat) : Int) ≠ 0:=by omega
 simpa [Int.natCast_pow] using this
theorem aha (v k : Nat) (h : v % 2 ^ k ≠ 0) : -(v : Int) / 2 ^ k = -((v / 2 ^ k : Nat) : Int) - 1:=by
 have hp:=Nat.pow_pos (n:=k) (show 0 < 2 by decide);have e:=(Nat.mod_add_div v (2 ^ k)).symm;have hr:=Nat.mod_lt v hp;rw [show ((2 : Int) ^ k) = ((2 ^ k : Nat) : Int) by simp [Int.natCast_pow]];generalize v % 2 ^ k = r at *;generalize v / 2 ^ k = q at *;generalize 2 ^ k = p at *;subst e;have e2 : -((r + p * q : Nat) : Int) = ((p : Int) - r) + p * (-(q : Int) - 1):=by rw [Int.natCast_add,Int.natCast_mul,Int.mul_sub,Int.mul_neg,Int.mul_one];omega
 rw [e2,Int.add_mul_ediv_left _ _ zo,Int.ediv_eq_zero_of_lt zo zo];omega
theorem ahi (l : List UInt8) (k B : Nat) (hl : l.length <= B) : (nt (nv l / 2 ^ k)).length <= B:=gU (Nat.lt_of_le_of_lt (Nat.div_le_self _ _) (Nat.lt_of_lt_of_le (fA l) (Nat.pow_le_pow_right zd hl)))
theorem WN (s : Bool) (l : List UInt8) (k : Nat) (w : World) (hl : l.length <= 34359738368) (hk : 0 < k) (hk2 : k <= 1099511627776) (hT : az w) :
 Calls Tryz.prog 106 #[.agg #[.bool s,.string (bs l)],.int .i64 (-(k : Int))] w fun e w'=>e = .returned (cp (iv s l / 2 ^ k)) /\ Bw w w':=by
 have hmax : max (-(k : Int)) (-1099511627776) = -(k : Int):=by omega
 have hlen : (nt (nv l / 2 ^ k)).length <= 34359738368:=ahi l k _ hl;obtain ⟨Z,hZ⟩ : ∃ Z,nv l / 2 ^ k = Z:=⟨_,rfl⟩;have EK : ∀ W,Calls Tryz.prog 144 #[.string (bs l),.int .i64 (k : Int)] W fun e w'=>e = .returned (.string (bs (nt Z))) /\ Bw W w':=fun W=>by rw [<- hZ];exact ag8 l k W zo hk2
 rw [hZ] at hlen;have HZ:=ah hZ;clear hZ;have ZE:=ah EK;clear EK;obtain ⟨M,hM⟩ : ∃ M,iv s (nt Z) = M:=⟨_,rfl⟩;have HM:=ah hM;clear hM;have Tb : ∀ W,Calls Tryz.prog 112 #[.agg #[.string (bs (nt Z)),.bool s]] W fun e w'=>e = .returned (cp M) /\ Bw W w':=fun W=>by have:=tH (nt Z) s W zo;rw [HM.out] at this;exact this
 have YQ:=ah Tb;clear Tb;go_enter Tryz.func106,Tryz.ntmps106;have Hb : Hid (Bw w w):=Below.refl _ _;go_upto_region 4 with fail
 go_wp2_with fail;obtain ⟨R,hR⟩ : ∃ R : World -> Prop,(fun W=>ai W (w.heap.size) 28 [.bool s,.string (bs l)] /\ ai W (w.heap.size + 1) 28 [.bool false,.string (bs [])] /\ Bw w W) = R:=⟨_,rfl⟩;first | refine bE R ?hR ?_ | refine bC R ?hR ?_
 case hR=>subst hR;exact ⟨((ai.newAt w _ _ (b:=w.heap.size) rfl).alloc _),(ai.newAt (w.alloc _) _ _ (b:=w.heap.size + 1) zm),(zl.alloc zj _)⟩
 subst hR;rintro W ⟨qx,qr,ae⟩;have Hx:=ah qx;clear qx;have Hr:=ah qr;clear qr;obtain ⟨x0,x1⟩:=Hx.out.c2;obtain ⟨r0,aj,r1,ak⟩:=Hr.out.g2;replace Hb:=au Hb ae;clear ae;go_cut [5] (fun s5 wx=>∃ g : Nat,s5 = .pointer (some ⟨g,0,none⟩) /\ w.heap.size + 1 < g /\ ai wx w.heap.size 28 [.bool s,.string (bs l)] /\ ai wx (w.heap.size + 1) 28 [.bool false,.string (bs [])] /\ ai wx g 28 [.bool (ar M),.string (bs (nt M.natAbs))] /\ Bw w wx);case first=>
  have hxW : w.heap.size < W.heap.size:=Hx.out.lt;have hrW : w.heap.size + 1 < W.heap.size:=Hr.out.lt;have hwk : IntKind.i64.wrap (k : Int) = (k : Int):=by rw [IntKind.wrap_i64];omega
  go_region_held3 (fun w'=>w'.cell? ⟨w.heap.size,0,none⟩ = some (.bool s) /\ w'.cell? ⟨w.heap.size,1,none⟩ = some (.string (bs l))) (((try dsimp only);go_split_ands;(repeat' apply And.intro)<;>(first | with_reducible assumption | exact aG (by with_reducible assumption) | exact II (by with_reducible assumption) | exact II (aG (by with_reducible assumption)) | ((with_reducible refine eQ zf ?_);(repeat (with_reducible refine eQ zf ?_));first | with_reducible assumption | exact aG (by with_reducible assumption) | exact II (by with_reducible assumption)) | go_keep))) (first | (go_at_call 144;(with_reducible refine (ZE.out _).mono ?_);rintro e w1 ⟨rfl,hq⟩;(first | (have hw1 : Bw W w1:=aM hq) | (have hw1 : Bw W w1:=qQ hq;have yY:=ah (ai.below (ai.drew (ai.new W 28 [.bool false,.string (bs [])])) hq);have am9 : w1.cell? ⟨W.heap.size,0,none⟩ = some (.bool false):=yY.out.cell 0;have ana : w1.cell? ⟨W.heap.size,1,none⟩ = some (.string (bs [])):=yY.out.cell 1;have akY:=yY.out.free 0;have akZ:=yY.out.free 1));clear hq;have zs1:=hw1.size;have Io:=ah (Hx.out.below hw1);have Zz:=ah (Hr.out.below hw1);have anp : w1.cell? ⟨w.heap.size,0,none⟩ = some (.bool s):=Io.out.cell 0;have anr : w1.cell? ⟨w.heap.size,1,none⟩ = some (.string (bs l)):=Io.out.cell 1) | (go_at_call 112;(with_reducible refine (YQ.out _).mono ?_);rintro e w2 ⟨rfl,hq⟩;(first | (have hw2 : Bw w1 w2:=hq;(try (have nH:=ah (ai.below yY.out hq);have agU : w2.cell? ⟨W.heap.size,0,none⟩ = some (.bool false):=nH.out.cell 0;have agX : w2.cell? ⟨W.heap.size,1,none⟩ = some (.string (bs [])):=nH.out.cell 1;have adC:=nH.out.free 0;have adD:=nH.out.free 1))) | (have hw2 : Bw w1 w2:=nP hq;have nH:=ah (ai.below (ai.new w1 28 [.bool false,.string (bs [])]) hq);have agU : w2.cell? ⟨w1.heap.size,0,none⟩ = some (.bool false):=nH.out.cell 0;have agX : w2.cell? ⟨w1.heap.size,1,none⟩ = some (.string (bs [])):=nH.out.cell 1;have adC:=nH.out.free 0;have adD:=nH.out.free 1));clear hq;have zs2:=hw2.size;have zG:=ah (Io.out.below hw2);have GW:=ah (Zz.out.below hw2);have anq : w2.cell? ⟨w.heap.size,0,none⟩ = some (.bool s):=zG.out.cell 0;have ans : w2.cell? ⟨w.heap.size,1,none⟩ = some (.string (bs l)):=zG.out.cell 1))
  all_goals (go_wp2_with fail;go_meet)
  . exact ⟨w2.heap.size,rfl,by omega,zG.out.alloc _,GW.out.alloc _,ai.new _ _ _,(aI (aI Hb.out hw1) hw2).alloc zo _⟩
  . exact ⟨w1.heap.size,rfl,by omega,((zG.out.anE ⟨w1.heap.size,0,none⟩ (by first | (dsimp only;omega) | omega | (simp<;>omega)) _).anE ⟨w1.heap.size,1,none⟩ (by first | (dsimp only;omega) | omega | (simp<;>omega)) _),((GW.out.anE ⟨w1.heap.size,0,none⟩ (by first | (dsimp only;omega) | omega | (simp<;>omega)) _).anE ⟨w1.heap.size,1,none⟩ (by first | (dsimp only;omega) | omega | (simp<;>omega)) _),((nH.out.set 0 _).set 1 _),((aI (aI Hb.out hw1) hw2).setCell (by first | (dsimp only;omega) | omega | (simp<;>omega)) _).setCell (by first | (dsimp only;omega) | omega | (simp<;>omega)) _⟩
  . exact ⟨W.heap.size,rfl,hrW,((zG.out.anE ⟨W.heap.size,0,none⟩ (by first | (dsimp only;omega) | omega | (simp<;>omega)) _).anE ⟨W.heap.size,1,none⟩ (by first | (dsimp only;omega) | omega | (simp<;>omega)) _),((GW.out.anE ⟨W.heap.size,0,none⟩ (by first | (dsimp only;omega) | omega | (simp<;>omega)) _).anE ⟨W.heap.size,1,none⟩ (by first | (dsimp only;omega) | omega | (simp<;>omega)) _),((nH.out.set 0 _).set 1 _),((aI (aI Hb.out hw1) hw2).setCell (by first | (dsimp only;omega) | omega | (simp<;>omega)) _).setCell (by first | (dsimp only;omega) | omega | (simp<;>omega)) _⟩
 case rest=>
  obtain ⟨g,rfl,hg,qx,qr,qn,qb⟩:=hcut;replace Hx:=ah qx;replace Hr:=ah qr;have Hn:=ah qn;replace Hb:=ah qb;clear qx qr qn qb x0 x1 r0 r1 aj ak;cases s
  . obtain ⟨x0,x1⟩:=Hx.out.c2;obtain ⟨r0,aj,r1,ak⟩:=Hr.out.g2;obtain ⟨n0,n1⟩:=Hn.out.c2;have fD : Hid (iv false l / 2 ^ k = M):=by
     show _ = _
     rw [<- HM.out,<- HZ.out,kJ];unfold iv;simp [Int.natCast_pow]
    go_wp2;refine bodyPost_ret (v:=cp M) (by simp [results,Tryz.results106,go_sem,r0,r1]) rfl ⟨by rw [fD.out],?_⟩;(repeat first | exact Hb.out | (refine Below.setCell ?_ (by have:=Hb.out.size;first | (dsimp only;omega) | (show _ <= _;omega) | (simp<;>omega)) _) | (refine Below.alloc ?_ zt _) | refine Below.drew ?_)
  . obtain ⟨x0,x1⟩:=Hx.out.c2;obtain ⟨r0,aj,r1,ak⟩:=Hr.out.g2;obtain ⟨n0,n1⟩:=Hn.out.c2;have mC : Hid (l.length <= 68719476736):=by show _ <= _;omega
    by_cases h0 : nv l = 0
    . have hb0 : bu (nv l) = 0:=by rw [h0];rfl
      have fD : Hid (iv true l / 2 ^ k = M):=by
       show _ = _
       rw [<- HM.out,<- HZ.out,kJ,h0];unfold iv;simp [h0]
      have kR:=ah hb0;clear hb0;go_wp2_with fail;refine (LD l _ mC.out).mono ?_;rintro e w3 ⟨rfl,ae⟩;clear x0 x1 r0 aj r1 ak n0 n1;replace Hx:=kB Hx ae;replace Hr:=kB Hr ae;replace Hn:=kB Hn ae;obtain ⟨x0,x1⟩:=Hx.out.c2;obtain ⟨r0,aj,r1,ak⟩:=Hr.out.g2;obtain ⟨n0,n1⟩:=Hn.out.c2;replace Hb:=au Hb ae;clear ae;rw [kR.out];go_wp2;refine bodyPost_ret (v:=cp M) (by simp [results,Tryz.results106,go_sem,r0,r1]) rfl ⟨by rw [fD.out],?_⟩;(repeat first | exact Hb.out | (refine Below.setCell ?_ (by have:=Hb.out.size;first | (dsimp only;omega) | (show _ <= _;omega) | (simp<;>omega)) _) | (refine Below.alloc ?_ zt _) | refine Below.drew ?_)
    . have hbp : 0 < bu (nv l):=zQ zo;have yC : Hid (az wc):=hT.below Hb.out;by_cases hz : tz (nv l) < k
      . have fD : Hid (iv true l / 2 ^ k = M - 1):=by
         show _ = _
         rw [<- HM.out,<- HZ.out,kJ];have:=(Wy (nv l) k zo).1 hz;unfold iv;simp only [if_true];exact aha _ _ this
        have Xq : Hid ((nt M.natAbs).length <= 34359738368):=by show _ <= _;rw [<- HM.out,mo,gN];exact hlen
        obtain ⟨one,hone⟩ : ∃ one : Int,1 = one:=⟨_,rfl⟩;have Zc : Hid ((nt one.natAbs).length <= 34359738368):=by show _ <= _;rw [<- hone];exact Nat.le_trans (gU (k:=1) zd) zd
        have ze:=ah hone;clear hone;have ZH : Hid (iv (ar M) (nt M.natAbs) - iv (ar one) (nt one.natAbs) = M - 1):=by show _ = _;rw [eI,eI,<- ze.out]
        go_wp2_with fail;refine (LD l _ mC.out).mono ?_;rintro e w3 ⟨rfl,ae⟩;clear x0 x1 r0 aj r1 ak n0 n1;replace Hx:=kB Hx ae;replace Hr:=kB Hr ae;replace Hn:=kB Hn ae;obtain ⟨x0,x1⟩:=Hx.out.c2;obtain ⟨r0,aj,r1,ak⟩:=Hr.out.g2;obtain ⟨n0,n1⟩:=Hn.out.c2;replace Hb:=au Hb ae;clear ae;replace yC:=ah (hT.below Hb.out);go_wp2_with fail;refine (LG l _ mC.out yC.out).mono ?_;rintro e w4 ⟨rfl,ae⟩;clear x0 x1 r0 aj r1 ak n0 n1;replace Hx:=kB Hx ae;replace Hr:=kB Hr ae;replace Hn:=kB Hn ae;obtain ⟨x0,x1⟩:=Hx.out.c2;obtain ⟨r0,aj,r1,ak⟩:=Hr.out.g2;obtain ⟨n0,n1⟩:=Hn.out.c2;replace Hb:=au Hb ae;clear ae;go_wp2_with fail;have nen : g ≠ w.heap.size + 1:=by omega
        go_region_held3 (fun w'=>w'.cell? ⟨g,0,none⟩ = some (.bool (ar M)) /\ w'.cell? ⟨g,1,none⟩ = some (.string (bs (nt M.natAbs)))) (((try dsimp only);go_split_ands;(repeat' apply And.intro)<;>(first | exact True.intro | with_reducible assumption | ((with_reducible refine eQ zg ?_);(repeat (with_reducible refine eQ zg ?_));with_reducible assumption) | exact cell_later (by with_reducible assumption) (by with_reducible assumption) | exact aG (by with_reducible assumption) | go_keep))) (first | (go_at_call 74;(with_reducible refine (MM 1 one ze.out _ zo zo).mono ?_);rintro e w5 ⟨rfl,hq⟩;have cF : Bw w4 w5:=(by first | exact aM hq | exact hq | exact nQ hq | exact nP hq | exact qQ hq);clear hq;have Pe:=ah (Hx.out.below cF);have wO:=ah (Hr.out.below cF);have aig : w5.cell? ⟨w.heap.size + 1,0,none⟩ = some (.bool false):=wO.out.cell 0;have adH : w5.frozen? ⟨w.heap.size + 1,0,none⟩ = false:=wO.out.free 0;have aii : w5.cell? ⟨w.heap.size + 1,1,none⟩ = some (.string (bs [])):=wO.out.cell 1;have adJ : w5.frozen? ⟨w.heap.size + 1,1,none⟩ = false:=wO.out.free 1;have CK:=ah (Hn.out.below cF);have agV : w5.cell? ⟨g,0,none⟩ = some (.bool (ar M)):=CK.out.cell 0;have agY : w5.cell? ⟨g,1,none⟩ = some (.string (bs (nt M.natAbs))):=CK.out.cell 1) | (go_at_call 109;(with_reducible refine (MP (ar M) (nt M.natAbs) (ar one) (nt one.natAbs) _ Xq.out Zc.out).mono ?_);rintro e w6 ⟨rfl,hq⟩;have Bb : Bw w5 w6:=(by first | exact aM hq | exact hq | exact nQ hq | exact nP hq | exact qQ hq);clear hq;have aaa:=ah (Pe.out.below Bb);have zr:=ah (wO.out.below Bb);have aih : w6.cell? ⟨w.heap.size + 1,0,none⟩ = some (.bool false):=zr.out.cell 0;have adI : w6.frozen? ⟨w.heap.size + 1,0,none⟩ = false:=zr.out.free 0;have aij : w6.cell? ⟨w.heap.size + 1,1,none⟩ = some (.string (bs [])):=zr.out.cell 1;have adK : w6.frozen? ⟨w.heap.size + 1,1,none⟩ = false:=zr.out.free 1;have GL:=ah (CK.out.below Bb);have agW : w6.cell? ⟨g,0,none⟩ = some (.bool (ar M)):=GL.out.cell 0;have agZ : w6.cell? ⟨g,1,none⟩ = some (.string (bs (nt M.natAbs))):=GL.out.cell 1))
        replace Hb:=ah (aI Hb.out cF);clear cF;replace Hb:=ah (aI Hb.out Bb);clear Bb x0 x1 r0 aj r1 ak n0 n1;replace Hx:=aaa;clear Pe;replace Hr:=zr;clear wO aig adH aii adJ aih adI aij adK;replace Hn:=GL;clear CK agV agY agW agZ;obtain ⟨x0,x1⟩:=Hx.out.c2;obtain ⟨r0,aj,r1,ak⟩:=Hr.out.g2;obtain ⟨n0,n1⟩:=Hn.out.c2;rw [ZH.out];go_wp2;refine bodyPost_ret (v:=cp (M - 1)) (by simp [results,Tryz.results106,go_sem,r0,r1]) rfl ⟨by rw [fD.out],?_⟩;(repeat first | exact Hb.out | (refine Below.setCell ?_ (by have:=Hb.out.size;first | (dsimp only;omega) | (show _ <= _;omega) | (simp<;>omega)) _) | (refine Below.alloc ?_ zt _) | refine Below.drew ?_)
      . have fD : Hid (iv true l / 2 ^ k = M):=by
         show _ = _
         rw [<- HM.out,<- HZ.out,kJ];have h2 : nv l % 2 ^ k = 0:=by
          rcases Nat.eq_zero_or_pos (nv l % 2 ^ k) with h | h
          . exact h
          . exact absurd ((Wy (nv l) k zo).2 zo) hz
         unfold iv;simp only [if_true];exact ag9 _ _ h2
        go_wp2_with fail;refine (LD l _ mC.out).mono ?_;rintro e w3 ⟨rfl,ae⟩;clear x0 x1 r0 aj r1 ak n0 n1;replace Hx:=kB Hx ae;replace Hr:=kB Hr ae;replace Hn:=kB Hn ae;obtain ⟨x0,x1⟩:=Hx.out.c2;obtain ⟨r0,aj,r1,ak⟩:=Hr.out.g2;obtain ⟨n0,n1⟩:=Hn.out.c2;replace Hb:=au Hb ae;clear ae;replace yC:=ah (hT.below Hb.out);go_wp2_with fail;refine (LG l _ mC.out yC.out).mono ?_;rintro e w4 ⟨rfl,ae⟩;clear x0 x1 r0 aj r1 ak n0 n1;replace Hx:=kB Hx ae;replace Hr:=kB Hr ae;replace Hn:=kB Hn ae;obtain ⟨x0,x1⟩:=Hx.out.c2;obtain ⟨r0,aj,r1,ak⟩:=Hr.out.g2;obtain ⟨n0,n1⟩:=Hn.out.c2;replace Hb:=au Hb ae;clear ae;go_wp2;refine bodyPost_ret (v:=cp M) (by simp [results,Tryz.results106,go_sem,r0,r1]) rfl ⟨by rw [fD.out],?_⟩;(repeat first | exact Hb.out | (refine Below.setCell ?_ (by have:=Hb.out.size;first | (dsimp only;omega) | (show _ <= _;omega) | (simp<;>omega)) _) | (refine Below.alloc ?_ zt _) | refine Below.drew ?_)
end Go.Proofs.YtdaadlblknpipaaGreatDoor
