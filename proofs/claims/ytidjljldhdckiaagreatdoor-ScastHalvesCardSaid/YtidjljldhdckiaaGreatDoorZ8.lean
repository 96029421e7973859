/- Package whole,on: Sub,Cmp,Mul,Shift. -/
import Derived.Test.YtidjljldhdckiaaGreatDoorZ6
import Derived.Deep.DeepCutAuto
set_option maxRecDepth 100000
set_option maxHeartbeats 16000000
namespace Go.Proofs.YtidjljldhdckiaaGreatDoor
open Go.RowKit
attribute [local go_sem ↓] Go.wp_at_zero Go.wp_at_succ
theorem wAdd_two (s : Bool) (l : List UInt8) (t : Bool) (m : List UInt8) (b cap : Nat) (ty : TypeId) (w : World) (hl : l.length <= 34359738368) (hm : m.length <= 34359738368)
 (ha : Blk w b ty [.bool s,.string (bs l),.bool t,.string (bs m)]) :
 Calls Tryz.prog 50 #[.slice (some ⟨b,0,none⟩) 2 cap] w fun e w'=>e = .returned (intV (iv s l + iv t m)) /\ Below w.heap.size w w':=by
 have:=wAdd_any [(s,l),(t,m)] (some ⟨b,0,none⟩) cap w (by simp [hl,hm]) (by simp) (At.of_blk ha)
 have e : isum [(s,l),(t,m)] = iv s l + iv t m:=by simp [isum]
 rw [e] at this
 exact this
theorem neg_len (s : Bool) (m : List UInt8) (B : Nat) (hm : m.length <= B) : (nt (-(iv s m)).natAbs).length <= B:=by
 rw [Int.natAbs_neg,iv_abs]
 exact nt_length_le (Nat.lt_of_lt_of_le (nv_lt m) (Nat.pow_le_pow_right (by decide) hm))
theorem wNeg_as (s : Bool) (l : List UInt8) (N : Int) (hN : -(iv s l) = N) (w : World) (hl : l.length <= 1099511627776) :
 Calls Tryz.prog 115 #[.agg #[.bool s,.string (bs l)]] w fun e w'=>e = .returned (intV N) /\ Below w.heap.size w w':=by
 subst hN;exact wNeg_any s l w hl
theorem wSub_any (s : Bool) (l : List UInt8) (t : Bool) (m : List UInt8) (w : World) (hl : l.length <= 34359738368) (hm : m.length <= 34359738368) :
 Calls Tryz.prog 94 #[.agg #[.bool s,.string (bs l)],.agg #[.bool t,.string (bs m)]] w fun e w'=>e = .returned (intV (iv s l - iv t m)) /\ Below w.heap.size w w':=by
 have hm2:=neg_len t m 34359738368 hm
 have He : Hid (iv s l + iv (sgnB (-(iv t m))) (nt (-(iv t m)).natAbs) = iv s l - iv t m):=by show _ = _;rw [iv_int];omega
 generalize hN : -(iv t m) = N at *
 have HN:=lid hN;clear hN
 go_enter Tryz.func94,Tryz.ntmps94
 have Hb : Hid (Below w.heap.size w w):=Below.refl _ _
 go_wp2_with fail
 obtain ⟨R,hR⟩ : ∃ R : World -> Prop,(fun W=>Blk W (w.heap.size) 34 [.bool s,.string (bs l)] /\ Blk W (w.heap.size + 1) 34 [.bool t,.string (bs m)] /\ Blk W (w.heap.size + 1 + 1) 34 [.bool false,.string (bs [])] /\ Below w.heap.size w W) = R:=⟨_,rfl⟩
 first | refine wp_world R ?hR ?_ | refine calls_world R ?hR ?_
 case hR=>subst hR;exact ⟨(((Blk.newAt w _ _ (b:=w.heap.size) rfl).alloc _).alloc _),((Blk.newAt (w.alloc _) _ _ (b:=w.heap.size + 1) (by simp)).alloc _),(Blk.newAt ((w.alloc _).alloc _) _ _ (b:=w.heap.size + 1 + 1) (by simp)),((((Below.refl _ _).alloc (Nat.le_refl _) _).alloc (by simp<;>omega) _).alloc (by simp<;>omega) _)⟩
 subst hR
 rintro W ⟨qx,qy,qr,hbn⟩
 have Hx:=lid qx;clear qx
 have Hy:=lid qy;clear qy
 have Hr:=lid qr;clear qr
 obtain ⟨x0,x1⟩:=Hx.out.c2
 obtain ⟨y0,y1⟩:=Hy.out.c2
 obtain ⟨r0,fr0,r1,fr1⟩:=Hr.out.g2
 replace Hb:=bnx Hb hbn;clear hbn
 have nex : w.heap.size ≠ w.heap.size + 1 + 1:=by omega
 have ney : w.heap.size + 1 ≠ w.heap.size + 1 + 1:=by omega
 go_region_held3 (fun w'=>w'.cell? ⟨w.heap.size,0,none⟩ = some (.bool s) /\ w'.cell? ⟨w.heap.size,1,none⟩ = some (.string (bs l)) /\ w'.cell? ⟨w.heap.size + 1,0,none⟩ = some (.bool t) /\ w'.cell? ⟨w.heap.size + 1,1,none⟩ = some (.string (bs m))) (((try dsimp only);go_split_ands;(repeat' apply And.intro)<;>(first | exact True.intro | with_reducible assumption | ((with_reducible refine cell_set_ne (by first | (dsimp only;omega) | (show _ ≠ _;omega) | (simp<;>omega)) ?_);(repeat (with_reducible refine cell_set_ne (by first | (dsimp only;omega) | (show _ ≠ _;omega) | (simp<;>omega)) ?_));with_reducible assumption) | exact cell_later (by with_reducible assumption) (by with_reducible assumption) | exact cell_new (by with_reducible assumption) | go_keep))) (first | (go_at_call 115;(with_reducible refine (wNeg_as t m N HN.out _ (by omega)).mono ?_);rintro e w1 ⟨rfl,hq⟩;have hw1 : Below W.heap.size W w1:=(by first | exact bundrew hq | exact hq | exact ballocd hq | exact balloc hq | exact ballocx hq);clear hq;have Hx_w1:=lid (Hx.out.below hw1);have x0_w1 : w1.cell? ⟨w.heap.size,0,none⟩ = some (.bool s):=Hx_w1.out.cell 0;have x1_w1 : w1.cell? ⟨w.heap.size,1,none⟩ = some (.string (bs l)):=Hx_w1.out.cell 1;have Hy_w1:=lid (Hy.out.below hw1);have y0_w1 : w1.cell? ⟨w.heap.size + 1,0,none⟩ = some (.bool t):=Hy_w1.out.cell 0;have y1_w1 : w1.cell? ⟨w.heap.size + 1,1,none⟩ = some (.string (bs m)):=Hy_w1.out.cell 1;have Hr_w1:=lid (Hr.out.below hw1);have r0_w1 : w1.cell? ⟨w.heap.size + 1 + 1,0,none⟩ = some (.bool false):=Hr_w1.out.cell 0;have fr0_w1 : w1.frozen? ⟨w.heap.size + 1 + 1,0,none⟩ = false:=Hr_w1.out.free 0;have r1_w1 : w1.cell? ⟨w.heap.size + 1 + 1,1,none⟩ = some (.string (bs [])):=Hr_w1.out.cell 1;have fr1_w1 : w1.frozen? ⟨w.heap.size + 1 + 1,1,none⟩ = false:=Hr_w1.out.free 1) | (go_at_call 50;(with_reducible refine (wAdd_two s l (sgnB N) (nt N.natAbs) w1.heap.size 2 34 _ hl hm2 (by first | exact Blk.drew (Blk.new _ _ _) | exact Blk.new _ _ _)).mono ?_);rintro e w2 ⟨rfl,hq⟩;have hw2 : Below w1.heap.size w1 w2:=(by first | exact bundrew hq | exact hq | exact ballocd hq | exact balloc hq | exact ballocx hq);clear hq;have Hx_w2:=lid (Hx_w1.out.below hw2);have x0_w2 : w2.cell? ⟨w.heap.size,0,none⟩ = some (.bool s):=Hx_w2.out.cell 0;have x1_w2 : w2.cell? ⟨w.heap.size,1,none⟩ = some (.string (bs l)):=Hx_w2.out.cell 1;have Hy_w2:=lid (Hy_w1.out.below hw2);have y0_w2 : w2.cell? ⟨w.heap.size + 1,0,none⟩ = some (.bool t):=Hy_w2.out.cell 0;have y1_w2 : w2.cell? ⟨w.heap.size + 1,1,none⟩ = some (.string (bs m)):=Hy_w2.out.cell 1;have Hr_w2:=lid (Hr_w1.out.below hw2);have r0_w2 : w2.cell? ⟨w.heap.size + 1 + 1,0,none⟩ = some (.bool false):=Hr_w2.out.cell 0;have fr0_w2 : w2.frozen? ⟨w.heap.size + 1 + 1,0,none⟩ = false:=Hr_w2.out.free 0;have r1_w2 : w2.cell? ⟨w.heap.size + 1 + 1,1,none⟩ = some (.string (bs [])):=Hr_w2.out.cell 1;have fr1_w2 : w2.frozen? ⟨w.heap.size + 1 + 1,1,none⟩ = false:=Hr_w2.out.free 1))
 replace Hb:=lid (bnext Hb.out hw1);clear hw1
 replace Hb:=lid (bnext Hb.out hw2);clear hw2
 clear x0 x1
 clear y0 y1
 clear r0 fr0 r1 fr1
 replace Hx:=Hx_w2
 clear Hx_w1
 clear x0_w1
 clear x1_w1
 clear x0_w2
 clear x1_w2
 replace Hy:=Hy_w2
 clear Hy_w1
 clear y0_w1
 clear y1_w1
 clear y0_w2
 clear y1_w2
 replace Hr:=Hr_w2
 clear Hr_w1
 clear r0_w1 fr0_w1
 clear r1_w1 fr1_w1
 clear r0_w2 fr0_w2
 clear r1_w2 fr1_w2
 obtain ⟨x0,x1⟩:=Hx.out.c2
 obtain ⟨y0,y1⟩:=Hy.out.c2
 obtain ⟨r0,fr0,r1,fr1⟩:=Hr.out.g2
 rw [He.out]
 go_wp2
 refine bodyPost_ret (v:=intV (iv s l - iv t m)) (by simp [results,Tryz.results94,go_sem,r0,r1]) rfl ⟨rfl,?_⟩
 (repeat first | exact Hb.out | (refine Below.setCell ?_ (by have:=Hb.out.size;first | (dsimp only;omega) | (show _ <= _;omega) | (simp<;>omega)) _) | (refine Below.alloc ?_ (by have:=Hb.out.size;simp<;>omega) _) | refine Below.drew ?_)
theorem wCmp_any (s : Bool) (l : List UInt8) (t : Bool) (m : List UInt8) (w : World) (hl : l.length <= 34359738368) (hm : m.length <= 34359738368) (hd : (nt (iv s l - iv t m).natAbs).length <= 1099511627776) :
 Calls Tryz.prog 80 #[.agg #[.bool s,.string (bs l)],.agg #[.bool t,.string (bs m)]] w fun e w'=>e = .returned (.int .i64 (sgnI (iv s l - iv t m))) /\ Below w.heap.size w w':=by
 have Hi:=lid (iv_int (iv s l - iv t m))
 go_enter Tryz.func80,Tryz.ntmps80
 have Hb : Hid (Below w.heap.size w w):=Below.refl _ _
 go_wp2_with fail
 obtain ⟨R,hR⟩ : ∃ R : World -> Prop,(fun W=>Blk W (w.heap.size) 34 [.bool s,.string (bs l)] /\ Blk W (w.heap.size + 1) 34 [.bool t,.string (bs m)] /\ Below w.heap.size w W) = R:=⟨_,rfl⟩
 first | refine wp_world R ?hR ?_ | refine calls_world R ?hR ?_
 case hR=>subst hR;exact ⟨((Blk.newAt w _ _ (b:=w.heap.size) rfl).alloc _),(Blk.newAt (w.alloc _) _ _ (b:=w.heap.size + 1) (by simp)),(((Below.refl _ _).alloc (Nat.le_refl _) _).alloc (by simp<;>omega) _)⟩
 subst hR
 rintro W ⟨qx,qy,hbn⟩
 have Hx:=lid qx;clear qx
 have Hy:=lid qy;clear qy
 obtain ⟨x0,x1⟩:=Hx.out.c2
 obtain ⟨y0,y1⟩:=Hy.out.c2
 replace Hb:=bnx Hb hbn;clear hbn
 go_wp2_with fail
 refine (wSub_any s l t m _ hl hm).mono ?_
 rintro e w1 ⟨rfl,hbn⟩
 clear x0 x1
 clear y0 y1
 replace Hx:=kB Hx hbn
 replace Hy:=kB Hy hbn
 obtain ⟨x0,x1⟩:=Hx.out.c2
 obtain ⟨y0,y1⟩:=Hy.out.c2
 replace Hb:=bnx Hb hbn;clear hbn
 go_wp2_with fail
 refine (wSign_any (sgnB (iv s l - iv t m)) (nt (iv s l - iv t m).natAbs) _ hd).mono ?_
 rintro e w2 ⟨rfl,hbn⟩
 clear x0 x1
 clear y0 y1
 replace Hx:=kB Hx hbn
 replace Hy:=kB Hy hbn
 obtain ⟨x0,x1⟩:=Hx.out.c2
 obtain ⟨y0,y1⟩:=Hy.out.c2
 replace Hb:=bnx Hb hbn;clear hbn
 rw [Hi.out]
 go_wp2
 go_ret
 exact ⟨rfl,Hb.out⟩
theorem wShl_any (s : Bool) (l : List UInt8) (n : Nat) (w : World) (hl : l.length <= 68719476736) (hn : n <= 549755813888) :
 Calls Tryz.prog 69 #[.agg #[.bool s,.string (bs l)],.int .i64 (n : Int)] w fun e w'=>e = .returned (intV (iv s l * 2 ^ n)) /\ Below w.heap.size w w':=by
 have hlen : (nt (nv l * 2 ^ n)).length <= 1099511627776:=by
  have h1 : nv l * 2 ^ n < 2 ^ (8 * l.length + n):=by
   rw [Nat.pow_add,Nat.pow_mul]
   exact Nat.mul_lt_mul_of_pos_right (nv_lt l) (Nat.pow_pos (by decide))
  have h2:=blen_le h1
  rw [nt_length];omega
 have He : Hid (iv s (nt (nv l * 2 ^ n)) = iv s l * 2 ^ n):=by
  show _ = _
  rw [iv_num];unfold iv;cases s<;>simp [Int.natCast_mul,Int.natCast_pow,Int.neg_mul]
 go_enter Tryz.func69,Tryz.ntmps69
 have Hb : Hid (Below w.heap.size w w):=Below.refl _ _
 go_wp2_with fail
 obtain ⟨R,hR⟩ : ∃ R : World -> Prop,(fun W=>Blk W (w.heap.size) 34 [.bool s,.string (bs l)] /\ Blk W (w.heap.size + 1) 34 [.bool false,.string (bs [])] /\ Below w.heap.size w W) = R:=⟨_,rfl⟩
 first | refine wp_world R ?hR ?_ | refine calls_world R ?hR ?_
 case hR=>subst hR;exact ⟨((Blk.newAt w _ _ (b:=w.heap.size) rfl).alloc _),(Blk.newAt (w.alloc _) _ _ (b:=w.heap.size + 1) (by simp)),(((Below.refl _ _).alloc (Nat.le_refl _) _).alloc (by simp<;>omega) _)⟩
 subst hR
 rintro W ⟨qx,qr,hbn⟩
 have Hx:=lid qx;clear qx
 have Hr:=lid qr;clear qr
 obtain ⟨x0,x1⟩:=Hx.out.c2
 obtain ⟨r0,fr0,r1,fr1⟩:=Hr.out.g2
 replace Hb:=bnx Hb hbn;clear hbn
 have nex : w.heap.size ≠ w.heap.size + 1:=by omega
 go_region_held3 (fun w'=>w'.cell? ⟨w.heap.size,0,none⟩ = some (.bool s) /\ w'.cell? ⟨w.heap.size,1,none⟩ = some (.string (bs l))) (((try dsimp only);go_split_ands;(repeat' apply And.intro)<;>(first | exact True.intro | with_reducible assumption | ((with_reducible refine cell_set_ne (by first | (dsimp only;omega) | (show _ ≠ _;omega) | (simp<;>omega)) ?_);(repeat (with_reducible refine cell_set_ne (by first | (dsimp only;omega) | (show _ ≠ _;omega) | (simp<;>omega)) ?_));with_reducible assumption) | exact cell_later (by with_reducible assumption) (by with_reducible assumption) | exact cell_new (by with_reducible assumption) | go_keep))) (first | (go_at_call 91;(with_reducible refine (natShl_any l n _ hl hn).mono ?_);rintro e w1 ⟨rfl,hq⟩;have hw1 : Below W.heap.size W w1:=(by first | exact bundrew hq | exact hq | exact ballocd hq | exact balloc hq | exact ballocx hq);clear hq;have Hx_w1:=lid (Hx.out.below hw1);have x0_w1 : w1.cell? ⟨w.heap.size,0,none⟩ = some (.bool s):=Hx_w1.out.cell 0;have x1_w1 : w1.cell? ⟨w.heap.size,1,none⟩ = some (.string (bs l)):=Hx_w1.out.cell 1;have Hr_w1:=lid (Hr.out.below hw1);have r0_w1 : w1.cell? ⟨w.heap.size + 1,0,none⟩ = some (.bool false):=Hr_w1.out.cell 0;have fr0_w1 : w1.frozen? ⟨w.heap.size + 1,0,none⟩ = false:=Hr_w1.out.free 0;have r1_w1 : w1.cell? ⟨w.heap.size + 1,1,none⟩ = some (.string (bs [])):=Hr_w1.out.cell 1;have fr1_w1 : w1.frozen? ⟨w.heap.size + 1,1,none⟩ = false:=Hr_w1.out.free 1) | (go_at_call 73;(with_reducible refine (made_any (nt (nv l * 2 ^ n)) s _ hlen).mono ?_);rintro e w2 ⟨rfl,hq⟩;have hw2 : Below w1.heap.size w1 w2:=(by first | exact bundrew hq | exact hq | exact ballocd hq | exact balloc hq | exact ballocx hq);clear hq;have Hx_w2:=lid (Hx_w1.out.below hw2);have x0_w2 : w2.cell? ⟨w.heap.size,0,none⟩ = some (.bool s):=Hx_w2.out.cell 0;have x1_w2 : w2.cell? ⟨w.heap.size,1,none⟩ = some (.string (bs l)):=Hx_w2.out.cell 1;have Hr_w2:=lid (Hr_w1.out.below hw2);have r0_w2 : w2.cell? ⟨w.heap.size + 1,0,none⟩ = some (.bool false):=Hr_w2.out.cell 0;have fr0_w2 : w2.frozen? ⟨w.heap.size + 1,0,none⟩ = false:=Hr_w2.out.free 0;have r1_w2 : w2.cell? ⟨w.heap.size + 1,1,none⟩ = some (.string (bs [])):=Hr_w2.out.cell 1;have fr1_w2 : w2.frozen? ⟨w.heap.size + 1,1,none⟩ = false:=Hr_w2.out.free 1))
 replace Hb:=lid (bnext Hb.out hw1);clear hw1
 replace Hb:=lid (bnext Hb.out hw2);clear hw2
 clear x0 x1
 clear r0 fr0 r1 fr1
 replace Hx:=Hx_w2
 clear Hx_w1
 clear x0_w1
 clear x1_w1
 clear x0_w2
 clear x1_w2
 replace Hr:=Hr_w2
 clear Hr_w1
 clear r0_w1 fr0_w1
 clear r1_w1 fr1_w1
 clear r0_w2 fr0_w2
 clear r1_w2 fr1_w2
 obtain ⟨x0,x1⟩:=Hx.out.c2
 obtain ⟨r0,fr0,r1,fr1⟩:=Hr.out.g2
 rw [He.out]
 go_wp2
 refine bodyPost_ret (v:=intV (iv s l * 2 ^ n)) (by simp [results,Tryz.results69,go_sem,r0,r1]) rfl ⟨rfl,?_⟩
 (repeat first | exact Hb.out | (refine Below.setCell ?_ (by have:=Hb.out.size;first | (dsimp only;omega) | (show _ <= _;omega) | (simp<;>omega)) _) | (refine Below.alloc ?_ (by have:=Hb.out.size;simp<;>omega) _) | refine Below.drew ?_)
theorem wOf_as (n N : Int) (hN : n = N) (w : World) (h0 : -9223372036854775808 <= n) (h1 : n <= 9223372036854775807) :
 Calls Tryz.prog 65 #[.int .i64 n] w fun e w'=>e = .returned (intV N) /\ Below w.heap.size w w':=by
 subst hN;exact wOf_any n w h0 h1
def iprod : List (Bool × List UInt8) -> Int
 | []=>1
 | x :: xs=>iv x.1 x.2 * iprod xs
theorem iprod_append (xs ys : List (Bool × List UInt8)) : iprod (xs ++ ys) = iprod xs * iprod ys:=by
 induction xs with
 | nil=>simp [iprod]
 | cons x xs ih=>simp [iprod,ih,Int.mul_assoc]
theorem iprod_take (xs : List (Bool × List UInt8)) (k : Nat) (hk : k < xs.length) : iprod (xs.take (k + 1)) = iprod (xs.take k) * iv xs[k].1 xs[k].2:=by
 rw [List.take_succ_eq_append_getElem hk,iprod_append];simp [iprod]
def ilen (xs : List (Bool × List UInt8)) : Nat:=(xs.map fun x=>x.2.length).sum
theorem ilen_take_le (xs : List (Bool × List UInt8)) (k : Nat) : ilen (xs.take k) <= ilen xs:=by
 unfold ilen
 induction xs generalizing k with
 | nil=>simp
 | cons x xs ih=>cases k with
   | zero=>simp
   | succ k=>simp only [List.take_succ_cons,List.map_cons,List.sum_cons];have:=ih k;omega
theorem ilen_mem (xs : List (Bool × List UInt8)) (x) (h : x ∈ xs) : x.2.length <= ilen xs:=by
 unfold ilen
 induction xs with
 | nil=>simp at h
 | cons y xs ih =>
   simp at h ⊢
   rcases h with h | h
   . subst h;omega
   . have:=ih h;omega
theorem iprod_lt (xs : List (Bool × List UInt8)) : (iprod xs).natAbs <= 256 ^ ilen xs:=by
 induction xs with
 | nil=>simp [iprod,ilen]
 | cons x xs ih =>
   simp only [iprod,Int.natAbs_mul,iv_abs]
   have h1:=nv_lt x.2
   have : ilen (x :: xs) = x.2.length + ilen xs:=by simp [ilen]
   rw [this,Nat.pow_add]
   exact Nat.mul_le_mul (Nat.le_of_lt h1) ih
theorem iprod_len (xs : List (Bool × List UInt8)) (N : Nat) (h : ilen xs + 1 <= N) : (nt (iprod xs).natAbs).length <= N:=by
 refine nt_length_le (Nat.lt_of_le_of_lt (iprod_lt xs) ?_)
 exact Nat.pow_lt_pow_right (by decide) (by omega)
theorem wMul_any (xs : List (Bool × List UInt8)) (a : Option Addr) (cap : Nat) (w : World) (hl : ilen xs <= 34359738368) (hx : xs.length <= 1048576)
 (ha : At w a (xs.flatMap intC)) :
 Calls Tryz.prog 64 #[.slice a xs.length cap] w fun e w'=>e = .returned (intV (iprod xs)) /\ Below w.heap.size w w':=by
 have Hl:=lid hl;clear hl
 have Ha:=lid ha;clear ha
 have HLn : Hid (∀ k,(nt (iprod (xs.take k)).natAbs).length <= 68719476736):=fun k=>iprod_len _ _ (by have:=ilen_take_le xs k;have:=Hl.out;omega)
 obtain ⟨one,hone⟩ : ∃ one : Int,1 = one:=⟨_,rfl⟩
 have Hone:=lid hone;clear hone
 go_enter Tryz.func64,Tryz.ntmps64
 have Hb : Hid (Below w.heap.size w w):=Below.refl _ _
 go_wp2_with fail
 obtain ⟨R,hR⟩ : ∃ R : World -> Prop,(fun W=>Blk W (w.heap.size) 34 [.bool false,.string (bs [])] /\ Below w.heap.size w W) = R:=⟨_,rfl⟩
 first | refine wp_world R ?hR ?_ | refine calls_world R ?hR ?_
 case hR=>subst hR;exact ⟨(Blk.newAt w _ _ (b:=w.heap.size) rfl),((Below.refl _ _).alloc (Nat.le_refl _) _)⟩
 subst hR
 rintro W ⟨qr,hbn⟩
 have Hr:=lid qr;clear qr
 obtain ⟨r0,fr0,r1,fr1⟩:=Hr.out.g2
 replace Hb:=bnx Hb hbn;clear hbn
 go_wp2_with fail
 refine (wOf_as 1 one Hone.out _ (by omega) (by omega)).mono ?_
 rintro e w1 ⟨rfl,hbn⟩
 clear r0 fr0 r1 fr1
 replace Hr:=kB Hr hbn
 obtain ⟨r0,fr0,r1,fr1⟩:=Hr.out.g2
 replace Hb:=bnx Hb hbn;clear hbn
 go_wp2_with fail
 refine (wof_any (nt one.natAbs) (sgnB one) _).mono ?_
 rintro e w2 ⟨rfl,hbn⟩
 clear r0 fr0 r1 fr1
 replace Hr:=kB Hr hbn
 obtain ⟨r0,fr0,r1,fr1⟩:=Hr.out.g2
 replace Hb:=bnx Hb hbn;clear hbn
 have hw2s : w.heap.size < w2.heap.size:=Hr.out.lt
 have lz_r_W2:=Hr.out.lt
 go_wp2_with fail
 obtain ⟨R,hR⟩ : ∃ R : World -> Prop,(fun W2=>Blk W2 (w2.heap.size) 126 [.string (bs (nt one.natAbs)),.bool (sgnB one)] /\ Below w2.heap.size w2 W2) = R:=⟨_,rfl⟩
 first | refine wp_world R ?hR ?_ | refine calls_world R ?hR ?_
 case hR=>subst hR;exact ⟨(Blk.newAt w2 _ _ (b:=w2.heap.size) rfl),((Below.refl _ _).alloc (Nat.le_refl _) _)⟩
 subst hR
 rintro W2 ⟨qs,hbn⟩
 have Hs:=lid qs;clear qs
 clear r0 fr0 r1 fr1
 replace Hr:=kB Hr hbn
 obtain ⟨r0,fr0,r1,fr1⟩:=Hr.out.g2
 obtain ⟨s0,fs0,s1,fs1⟩:=Hs.out.g2
 replace Hb:=bnx Hb hbn;clear hbn
 go_loopw [5,10] (fun _ i wr=>∃ (k : Nat) (t : Bool),k <= xs.length /\ i = .int .i64 k /\ iv t (nt (iprod (xs.take k)).natAbs) = iprod (xs.take k) /\ Blk wr w.heap.size 34 [.bool false,.string (bs [])] /\
  Blk wr w2.heap.size 126 [.string (bs (nt (iprod (xs.take k)).natAbs)),.bool t] /\ Below w.heap.size w wr) (fun _ i _=>xs.length - (intOf i).toNat)
 case atStart=>
  have e : iprod (xs.take 0) = one:=by rw [<- Hone.out];simp [iprod]
  refine ⟨0,sgnB one,Nat.zero_le _,rfl,?_,Hr.out,?_,Hb.out⟩
  . rw [e];exact iv_int one
  . rw [e];exact Hs.out
 case round=>
  obtain ⟨k,t,hk,rfl,hiv,qr,qs,hb⟩:=hrel
  replace Hr:=lid qr;replace Hs:=lid qs;replace Hb:=lid hb;have Hiv:=lid hiv;clear qr qs hb hiv r0 r1 fr0 fr1 s0 s1 fs0 fs1
  by_cases hlt : k < xs.length
  . obtain ⟨b,o,hab,hcs⟩:=(Ha.out.below Hb.out).elem (f:=intC) (sz:=2) (fun _=>rfl) (by decide) k hlt
    have hc0 : wr.cell? ⟨b,o + k * 2,none⟩ = some (.bool xs[k].1):=hcs 0 (by decide)
    have hc1 : wr.cell? ⟨b,o + k * 2 + 1,none⟩ = some (.string (bs xs[k].2)):=hcs 1 (by decide)
    have hix:=i123x34 xs.length cap k (k : Int) hab hlt rfl
    have Hst:=lid (iprod_take xs k hlt)
    have HLx : Hid (xs[k].2.length <= 34359738368):=by have:=ilen_mem xs _ (List.getElem_mem hlt);have:=Hl.out;show _ <= _;omega
    have HL1:=lid (HLn.out k)
    clear hcs hab
    generalize xs[k] = x at *
    obtain ⟨t1,l1⟩:=x
    generalize hS : iprod (xs.take k) = S at *
    have HS:=lid hS;clear hS
    obtain ⟨r0,fr0,r1,fr1⟩:=Hr.out.g2
    obtain ⟨s0,fs0,s1,fs1⟩:=Hs.out.g2
    have lz_r_W1:=Hr.out.lt
    have lz_s_W1:=Hs.out.lt
    go_wp2_with fail
    obtain ⟨R,hR⟩ : ∃ R : World -> Prop,(fun W1=>Blk W1 (wr.heap.size) 34 [.bool t1,.string (bs l1)] /\ Below wr.heap.size wr W1) = R:=⟨_,rfl⟩
    first | refine wp_world R ?hR ?_ | refine calls_world R ?hR ?_
    case hR=>subst hR;exact ⟨(Blk.newAt wr _ _ (b:=wr.heap.size) rfl),((Below.refl _ _).alloc (Nat.le_refl _) _)⟩
    subst hR
    rintro W1 ⟨qa,hbn⟩
    have Ha:=lid qa;clear qa
    clear r0 fr0 r1 fr1
    replace Hr:=kB Hr hbn
    obtain ⟨r0,fr0,r1,fr1⟩:=Hr.out.g2
    clear s0 fs0 s1 fs1
    replace Hs:=kB Hs hbn
    obtain ⟨s0,fs0,s1,fs1⟩:=Hs.out.g2
    obtain ⟨a0,a1⟩:=Ha.out.c2
    replace Hb:=bnx Hb hbn;clear hbn
    go_region_with (first | (go_at_call 72;refine (wof_any l1 t1 _).mono ?_;rintro e w3 ⟨rfl,hq⟩;have hw3 : Below W1.heap.size W1 w3:=bundrew hq;clear hq;have s0_1:=cell_later hw3 s0;have s1_1:=cell_later hw3 s1;have fs0_1:=(Hs.out.below hw3).free 0;have fs1_1:=(Hs.out.below hw3).free 1) | (go_at_call 86;refine (times_raw (nt S.natAbs) l1 t t1 _ HL1.out (by have:=HLx.out;omega)).mono ?_;rintro e w4 ⟨rfl,hw4⟩;have s0_2:=cell_later hw4 s0_1;have s1_2:=cell_later hw4 s1_1;have fs0_2:=((Hs.out.below hw3).below hw4).free 0;have fs1_2:=((Hs.out.below hw3).below hw4).free 1))
    all_goals
     go_wp2
     go_roundw
     case rel=>
      have hq:=iv_mul t (nt S.natAbs) t1 l1
      rw [Hiv.out,<- Hst.out] at hq
      have hq2 : nv (nt S.natAbs) * nv l1 = (iprod (xs.take (k + 1))).natAbs:=by
       rw [Hst.out,Int.natAbs_mul,iv_abs,nv_nt]
      rw [hq2] at hq ⊢
      refine ⟨k + 1,_,by omega,by go_num,hq,((((Hr.out.below hw3).below hw4).set_other ⟨w2.heap.size,0,none⟩ (by dsimp only;omega) _).set_other ⟨w2.heap.size,1,none⟩ (by dsimp only;omega) _),((((Hs.out.below hw3).below hw4).set 0 _).set 1 _),?_⟩
      exact ((bnext (bnext Hb.out hw3) hw4).setCell (by dsimp only;omega) _).setCell (by dsimp only;omega) _
     case measure=>simp [intOf];omega
  . obtain rfl : k = xs.length:=by omega
    rw [List.take_length] at Hs Hiv
    have HL1:=HLn.out xs.length
    rw [List.take_length] at HL1
    obtain ⟨r0,fr0,r1,fr1⟩:=Hr.out.g2
    obtain ⟨s0,fs0,s1,fs1⟩:=Hs.out.g2
    go_wp2_with fail
    refine (made_any (nt (iprod xs).natAbs) t _ (by omega)).mono ?_
    rintro e w3 ⟨rfl,hbn⟩
    clear r0 fr0 r1 fr1
    clear s0 fs0 s1 fs1
    replace Hr:=kB Hr hbn
    replace Hs:=kB Hs hbn
    obtain ⟨r0,fr0,r1,fr1⟩:=Hr.out.g2
    obtain ⟨s0,fs0,s1,fs1⟩:=Hs.out.g2
    replace Hb:=bnx Hb hbn;clear hbn
    rw [Hiv.out]
    go_wp2
    refine bodyPost_ret (v:=intV (iprod xs)) (by simp [results,Tryz.results64,go_sem,r0,r1]) rfl ⟨rfl,?_⟩
    (repeat first | exact Hb.out | (refine Below.setCell ?_ (by have:=Hb.out.size;first | (dsimp only;omega) | (show _ <= _;omega) | (simp<;>omega)) _) | (refine Below.alloc ?_ (by have:=Hb.out.size;simp<;>omega) _) | refine Below.drew ?_)
theorem tz_spec (v : Nat) (h : 0 < v) : ∃ m,v = 2 ^ tz v * (2 * m + 1):=by
 induction v using Nat.strongRecOn with
 | _ v ih =>
   by_cases he : v % 2 = 0
   . obtain ⟨u,rfl⟩ : ∃ u,v = 2 * u:=⟨v / 2,by omega⟩
     obtain ⟨m,hm⟩:=ih u (by omega) (by omega)
     refine ⟨m,?_⟩
     have e : tz (2 * u) = tz u + 1:=by
      unfold tz
      rw [show ((2 * u : Nat) : Int) = 2 * (u : Int) by omega]
      exact Int.trailingZeros_two_mul (by omega)
     rw [e,Nat.pow_succ]
     conv=>lhs;rw [hm]
     rw [Nat.mul_comm (2 ^ tz u) 2,Nat.mul_assoc]
   . refine ⟨v / 2,?_⟩
     have e : tz v = 0:=by
      unfold tz;exact Int.trailingZeros_eq_zero_of_mod_eq (by omega)
     rw [e];omega
theorem tz_lt_iff (v k : Nat) (h : 0 < v) : tz v < k ↔ v % 2 ^ k ≠ 0:=by
 obtain ⟨m,hm⟩:=tz_spec v h
 generalize tz v = c at *
 constructor
 . intro hc h0
   have hd : 2 ^ k ∣ v:=Nat.dvd_of_mod_eq_zero h0
   have hd2 : 2 ^ (c + 1) ∣ v:=Nat.dvd_trans (Nat.pow_dvd_pow 2 hc) hd
   rw [hm,Nat.pow_succ] at hd2
   have:=Nat.dvd_of_mul_dvd_mul_left (Nat.pow_pos (by decide)) hd2
   omega
 . intro hne
   rcases Nat.lt_or_ge c k with h1 | h1
   . exact h1
   . exfalso;apply hne
     rw [hm]
     exact Nat.mod_eq_zero_of_dvd (Nat.dvd_trans (Nat.pow_dvd_pow 2 h1) (Nat.dvd_mul_right _ _))
theorem neg_div_eq (v k : Nat) (h : v % 2 ^ k = 0) : -(v : Int) / 2 ^ k = -((v / 2 ^ k : Nat) : Int):=by
 obtain ⟨q,rfl⟩:=Nat.dvd_of_mod_eq_zero h
 have hp:=Nat.pow_pos (n:=k) (show 0 < 2 by decide)
 rw [Nat.mul_div_cancel_left _ hp]
 have e : -((2 ^ k * q : Nat) : Int) = 2 ^ k * (-(q : Int)):=by simp [Int.natCast_mul,Int.natCast_pow,Int.mul_neg]
 rw [e,Int.mul_ediv_cancel_left]
 have : ((2 ^ k : Nat) : Int) ≠ 0:=by omega
 simpa [Int.natCast_pow] using this
theorem neg_div_ne (v k : Nat) (h : v % 2 ^ k ≠ 0) : -(v : Int) / 2 ^ k = -((v / 2 ^ k : Nat) : Int) - 1:=by
 have hp:=Nat.pow_pos (n:=k) (show 0 < 2 by decide)
 have e:=(Nat.mod_add_div v (2 ^ k)).symm
 have hr:=Nat.mod_lt v hp
 rw [show ((2 : Int) ^ k) = ((2 ^ k : Nat) : Int) by simp [Int.natCast_pow]]
 generalize v % 2 ^ k = r at *
 generalize v / 2 ^ k = q at *
 generalize 2 ^ k = p at *
 subst e
 have e2 : -((r + p * q : Nat) : Int) = ((p : Int) - r) + p * (-(q : Int) - 1):=by
  rw [Int.natCast_add,Int.natCast_mul,Int.mul_sub,Int.mul_neg,Int.mul_one];omega
 rw [e2,Int.add_mul_ediv_left _ _ (by omega),Int.ediv_eq_zero_of_lt (by omega) (by omega)]
 omega
theorem nt_div_len (l : List UInt8) (k B : Nat) (hl : l.length <= B) : (nt (nv l / 2 ^ k)).length <= B:=nt_length_le (Nat.lt_of_le_of_lt (Nat.div_le_self _ _) (Nat.lt_of_lt_of_le (nv_lt l) (Nat.pow_le_pow_right (by decide) hl)))
theorem wShr_any (s : Bool) (l : List UInt8) (k : Nat) (w : World) (hl : l.length <= 34359738368) (hk : 0 < k) (hk2 : k <= 1099511627776) (hT : Tab w) :
 Calls Tryz.prog 69 #[.agg #[.bool s,.string (bs l)],.int .i64 (-(k : Int))] w fun e w'=>e = .returned (intV (iv s l / 2 ^ k)) /\ Below w.heap.size w w':=by
 have hmax : max (-(k : Int)) (-1099511627776) = -(k : Int):=by omega
 have hlen : (nt (nv l / 2 ^ k)).length <= 34359738368:=nt_div_len l k _ hl
 obtain ⟨Z,hZ⟩ : ∃ Z,nv l / 2 ^ k = Z:=⟨_,rfl⟩
 have hshr : ∀ W,Calls Tryz.prog 92 #[.string (bs l),.int .i64 (k : Int)] W fun e w'=>e = .returned (.string (bs (nt Z))) /\ Below W.heap.size W w':=fun W=>by rw [<- hZ];exact natShr_any l k W (by omega) hk2
 rw [hZ] at hlen
 have HZ:=lid hZ;clear hZ
 have Hshr:=lid hshr;clear hshr
 obtain ⟨M,hM⟩ : ∃ M,iv s (nt Z) = M:=⟨_,rfl⟩
 have HM:=lid hM;clear hM
 have hmade : ∀ W,Calls Tryz.prog 73 #[.agg #[.string (bs (nt Z)),.bool s]] W fun e w'=>e = .returned (intV M) /\ Below W.heap.size W w':=fun W=>by
  have:=made_any (nt Z) s W (by omega)
  rw [HM.out] at this;exact this
 have Hmade:=lid hmade;clear hmade
 go_enter Tryz.func69,Tryz.ntmps69
 have Hb : Hid (Below w.heap.size w w):=Below.refl _ _
 go_upto_region 4 with fail
 go_wp2_with fail
 obtain ⟨R,hR⟩ : ∃ R : World -> Prop,(fun W=>Blk W (w.heap.size) 34 [.bool s,.string (bs l)] /\ Blk W (w.heap.size + 1) 34 [.bool false,.string (bs [])] /\ Below w.heap.size w W) = R:=⟨_,rfl⟩
 first | refine wp_world R ?hR ?_ | refine calls_world R ?hR ?_
 case hR=>subst hR;exact ⟨((Blk.newAt w _ _ (b:=w.heap.size) rfl).alloc _),(Blk.newAt (w.alloc _) _ _ (b:=w.heap.size + 1) (by simp)),(((Below.refl _ _).alloc (Nat.le_refl _) _).alloc (by simp<;>omega) _)⟩
 subst hR
 rintro W ⟨qx,qr,hbn⟩
 have Hx:=lid qx;clear qx
 have Hr:=lid qr;clear qr
 obtain ⟨x0,x1⟩:=Hx.out.c2
 obtain ⟨r0,fr0,r1,fr1⟩:=Hr.out.g2
 replace Hb:=bnx Hb hbn;clear hbn
 go_cut [5] (fun s5 wx=>∃ g : Nat,s5 = .pointer (some ⟨g,0,none⟩) /\ w.heap.size + 1 < g /\ Blk wx w.heap.size 34 [.bool s,.string (bs l)] /\ Blk wx (w.heap.size + 1) 34 [.bool false,.string (bs [])] /\ Blk wx g 34 [.bool (sgnB M),.string (bs (nt M.natAbs))] /\ Below w.heap.size w wx)
 case first=>
  have hxW : w.heap.size < W.heap.size:=Hx.out.lt
  have hrW : w.heap.size + 1 < W.heap.size:=Hr.out.lt
  have hwk : IntKind.i64.wrap (k : Int) = (k : Int):=by rw [IntKind.wrap_i64];omega
  go_region_held3 (fun w'=>w'.cell? ⟨w.heap.size,0,none⟩ = some (.bool s) /\ w'.cell? ⟨w.heap.size,1,none⟩ = some (.string (bs l))) (((try dsimp only);go_split_ands;(repeat' apply And.intro)<;>(first | with_reducible assumption | exact cell_new (by with_reducible assumption) | exact cell_drew (by with_reducible assumption) | exact cell_drew (cell_new (by with_reducible assumption)) | ((with_reducible refine cell_set_ne (by first | (dsimp only;omega) | (simp<;>omega)) ?_);(repeat (with_reducible refine cell_set_ne (by first | (dsimp only;omega) | (simp<;>omega)) ?_));first | with_reducible assumption | exact cell_new (by with_reducible assumption) | exact cell_drew (by with_reducible assumption)) | go_keep))) (first | (go_at_call 92;(with_reducible refine (Hshr.out _).mono ?_);rintro e w1 ⟨rfl,hq⟩;(first | (have hw1 : Below W.heap.size W w1:=bundrew hq) | (have hw1 : Below W.heap.size W w1:=ballocx hq;have Hn_1:=lid (Blk.below (Blk.drew (Blk.new W 34 [.bool false,.string (bs [])])) hq);have n0_1 : w1.cell? ⟨W.heap.size,0,none⟩ = some (.bool false):=Hn_1.out.cell 0;have n1_1 : w1.cell? ⟨W.heap.size,1,none⟩ = some (.string (bs [])):=Hn_1.out.cell 1;have fn0_1:=Hn_1.out.free 0;have fn1_1:=Hn_1.out.free 1));clear hq;have zs1:=hw1.size;have Hx_1:=lid (Hx.out.below hw1);have Hr_1:=lid (Hr.out.below hw1);have x0_1 : w1.cell? ⟨w.heap.size,0,none⟩ = some (.bool s):=Hx_1.out.cell 0;have x1_1 : w1.cell? ⟨w.heap.size,1,none⟩ = some (.string (bs l)):=Hx_1.out.cell 1) | (go_at_call 73;(with_reducible refine (Hmade.out _).mono ?_);rintro e w2 ⟨rfl,hq⟩;(first | (have hw2 : Below w1.heap.size w1 w2:=hq;(try (have Hn_2:=lid (Blk.below Hn_1.out hq);have n0_2 : w2.cell? ⟨W.heap.size,0,none⟩ = some (.bool false):=Hn_2.out.cell 0;have n1_2 : w2.cell? ⟨W.heap.size,1,none⟩ = some (.string (bs [])):=Hn_2.out.cell 1;have fn0_2:=Hn_2.out.free 0;have fn1_2:=Hn_2.out.free 1))) | (have hw2 : Below w1.heap.size w1 w2:=balloc hq;have Hn_2:=lid (Blk.below (Blk.new w1 34 [.bool false,.string (bs [])]) hq);have n0_2 : w2.cell? ⟨w1.heap.size,0,none⟩ = some (.bool false):=Hn_2.out.cell 0;have n1_2 : w2.cell? ⟨w1.heap.size,1,none⟩ = some (.string (bs [])):=Hn_2.out.cell 1;have fn0_2:=Hn_2.out.free 0;have fn1_2:=Hn_2.out.free 1));clear hq;have zs2:=hw2.size;have Hx_2:=lid (Hx_1.out.below hw2);have Hr_2:=lid (Hr_1.out.below hw2);have x0_2 : w2.cell? ⟨w.heap.size,0,none⟩ = some (.bool s):=Hx_2.out.cell 0;have x1_2 : w2.cell? ⟨w.heap.size,1,none⟩ = some (.string (bs l)):=Hx_2.out.cell 1))
  all_goals (go_wp2_with fail;go_meet)
  . exact ⟨w2.heap.size,rfl,by omega,Hx_2.out.alloc _,Hr_2.out.alloc _,Blk.new _ _ _,(bnext (bnext Hb.out hw1) hw2).alloc (by omega) _⟩
  . exact ⟨w1.heap.size,rfl,by omega,((Hx_2.out.set_other ⟨w1.heap.size,0,none⟩ (by first | (dsimp only;omega) | omega | (simp<;>omega)) _).set_other ⟨w1.heap.size,1,none⟩ (by first | (dsimp only;omega) | omega | (simp<;>omega)) _),((Hr_2.out.set_other ⟨w1.heap.size,0,none⟩ (by first | (dsimp only;omega) | omega | (simp<;>omega)) _).set_other ⟨w1.heap.size,1,none⟩ (by first | (dsimp only;omega) | omega | (simp<;>omega)) _),((Hn_2.out.set 0 _).set 1 _),((bnext (bnext Hb.out hw1) hw2).setCell (by first | (dsimp only;omega) | omega | (simp<;>omega)) _).setCell (by first | (dsimp only;omega) | omega | (simp<;>omega)) _⟩
  . exact ⟨W.heap.size,rfl,hrW,((Hx_2.out.set_other ⟨W.heap.size,0,none⟩ (by first | (dsimp only;omega) | omega | (simp<;>omega)) _).set_other ⟨W.heap.size,1,none⟩ (by first | (dsimp only;omega) | omega | (simp<;>omega)) _),((Hr_2.out.set_other ⟨W.heap.size,0,none⟩ (by first | (dsimp only;omega) | omega | (simp<;>omega)) _).set_other ⟨W.heap.size,1,none⟩ (by first | (dsimp only;omega) | omega | (simp<;>omega)) _),((Hn_2.out.set 0 _).set 1 _),((bnext (bnext Hb.out hw1) hw2).setCell (by first | (dsimp only;omega) | omega | (simp<;>omega)) _).setCell (by first | (dsimp only;omega) | omega | (simp<;>omega)) _⟩
 case rest=>
  obtain ⟨g,rfl,hg,qx,qr,qn,qb⟩:=hcut
  replace Hx:=lid qx;replace Hr:=lid qr;have Hn:=lid qn;replace Hb:=lid qb;clear qx qr qn qb x0 x1 r0 r1 fr0 fr1
  cases s
  . obtain ⟨x0,x1⟩:=Hx.out.c2
    obtain ⟨r0,fr0,r1,fr1⟩:=Hr.out.g2
    obtain ⟨n0,n1⟩:=Hn.out.c2
    have Hres : Hid (iv false l / 2 ^ k = M):=by
     show _ = _
     rw [<- HM.out,<- HZ.out,iv_num];unfold iv;simp [Int.natCast_pow]
    go_wp2
    refine bodyPost_ret (v:=intV M) (by simp [results,Tryz.results69,go_sem,r0,r1]) rfl ⟨by rw [Hres.out],?_⟩
    (repeat first | exact Hb.out | (refine Below.setCell ?_ (by have:=Hb.out.size;first | (dsimp only;omega) | (show _ <= _;omega) | (simp<;>omega)) _) | (refine Below.alloc ?_ (by have:=Hb.out.size;simp<;>omega) _) | refine Below.drew ?_)
  . obtain ⟨x0,x1⟩:=Hx.out.c2
    obtain ⟨r0,fr0,r1,fr1⟩:=Hr.out.g2
    obtain ⟨n0,n1⟩:=Hn.out.c2
    have Hl0 : Hid (l.length <= 68719476736):=by show _ <= _;omega
    by_cases h0 : nv l = 0
    . have hb0 : blen (nv l) = 0:=by rw [h0];rfl
      have Hres : Hid (iv true l / 2 ^ k = M):=by
       show _ = _
       rw [<- HM.out,<- HZ.out,iv_num,h0];unfold iv;simp [h0]
      have Hb0:=lid hb0;clear hb0
      go_wp2_with fail
      refine (natLen_any l _ Hl0.out).mono ?_
      rintro e w3 ⟨rfl,hbn⟩
      clear x0 x1
      clear r0 fr0 r1 fr1
      clear n0 n1
      replace Hx:=kB Hx hbn
      replace Hr:=kB Hr hbn
      replace Hn:=kB Hn hbn
      obtain ⟨x0,x1⟩:=Hx.out.c2
      obtain ⟨r0,fr0,r1,fr1⟩:=Hr.out.g2
      obtain ⟨n0,n1⟩:=Hn.out.c2
      replace Hb:=bnx Hb hbn;clear hbn
      rw [Hb0.out]
      go_wp2
      refine bodyPost_ret (v:=intV M) (by simp [results,Tryz.results69,go_sem,r0,r1]) rfl ⟨by rw [Hres.out],?_⟩
      (repeat first | exact Hb.out | (refine Below.setCell ?_ (by have:=Hb.out.size;first | (dsimp only;omega) | (show _ <= _;omega) | (simp<;>omega)) _) | (refine Below.alloc ?_ (by have:=Hb.out.size;simp<;>omega) _) | refine Below.drew ?_)
    . have hbp : 0 < blen (nv l):=blen_pos (by omega)
      have HTc : Hid (Tab wc):=hT.below Hb.out
      by_cases hz : tz (nv l) < k
      . have Hres : Hid (iv true l / 2 ^ k = M - 1):=by
         show _ = _
         rw [<- HM.out,<- HZ.out,iv_num]
         have:=(tz_lt_iff (nv l) k (by omega)).1 hz
         unfold iv;simp only [if_true]
         exact neg_div_ne _ _ this
        have HMl : Hid ((nt M.natAbs).length <= 34359738368):=by
         show _ <= _;rw [<- HM.out,iv_abs,nv_nt];exact hlen
        obtain ⟨one,hone⟩ : ∃ one : Int,1 = one:=⟨_,rfl⟩
        have Hol : Hid ((nt one.natAbs).length <= 34359738368):=by
         show _ <= _;rw [<- hone];exact Nat.le_trans (nt_length_le (k:=1) (by decide)) (by decide)
        have Hone:=lid hone;clear hone
        have Hsub : Hid (iv (sgnB M) (nt M.natAbs) - iv (sgnB one) (nt one.natAbs) = M - 1):=by
         show _ = _;rw [iv_int,iv_int,<- Hone.out]
        go_wp2_with fail
        refine (natLen_any l _ Hl0.out).mono ?_
        rintro e w3 ⟨rfl,hbn⟩
        clear x0 x1
        clear r0 fr0 r1 fr1
        clear n0 n1
        replace Hx:=kB Hx hbn
        replace Hr:=kB Hr hbn
        replace Hn:=kB Hn hbn
        obtain ⟨x0,x1⟩:=Hx.out.c2
        obtain ⟨r0,fr0,r1,fr1⟩:=Hr.out.g2
        obtain ⟨n0,n1⟩:=Hn.out.c2
        replace Hb:=bnx Hb hbn;clear hbn
        replace HTc:=lid (hT.below Hb.out)
        go_wp2_with fail
        refine (natZeros_any l _ Hl0.out HTc.out).mono ?_
        rintro e w4 ⟨rfl,hbn⟩
        clear x0 x1
        clear r0 fr0 r1 fr1
        clear n0 n1
        replace Hx:=kB Hx hbn
        replace Hr:=kB Hr hbn
        replace Hn:=kB Hn hbn
        obtain ⟨x0,x1⟩:=Hx.out.c2
        obtain ⟨r0,fr0,r1,fr1⟩:=Hr.out.g2
        obtain ⟨n0,n1⟩:=Hn.out.c2
        replace Hb:=bnx Hb hbn;clear hbn
        go_wp2_with fail
        have nen : g ≠ w.heap.size + 1:=by omega
        go_region_held3 (fun w'=>w'.cell? ⟨g,0,none⟩ = some (.bool (sgnB M)) /\ w'.cell? ⟨g,1,none⟩ = some (.string (bs (nt M.natAbs)))) (((try dsimp only);go_split_ands;(repeat' apply And.intro)<;>(first | exact True.intro | with_reducible assumption | ((with_reducible refine cell_set_ne (by first | (dsimp only;omega) | (show _ ≠ _;omega) | (simp<;>omega)) ?_);(repeat (with_reducible refine cell_set_ne (by first | (dsimp only;omega) | (show _ ≠ _;omega) | (simp<;>omega)) ?_));with_reducible assumption) | exact cell_later (by with_reducible assumption) (by with_reducible assumption) | exact cell_new (by with_reducible assumption) | go_keep))) (first | (go_at_call 65;(with_reducible refine (wOf_as 1 one Hone.out _ (by omega) (by omega)).mono ?_);rintro e w5 ⟨rfl,hq⟩;have hw5 : Below w4.heap.size w4 w5:=(by first | exact bundrew hq | exact hq | exact ballocd hq | exact balloc hq | exact ballocx hq);clear hq;have Hx_w5:=lid (Hx.out.below hw5);have Hr_w5:=lid (Hr.out.below hw5);have r0_w5 : w5.cell? ⟨w.heap.size + 1,0,none⟩ = some (.bool false):=Hr_w5.out.cell 0;have fr0_w5 : w5.frozen? ⟨w.heap.size + 1,0,none⟩ = false:=Hr_w5.out.free 0;have r1_w5 : w5.cell? ⟨w.heap.size + 1,1,none⟩ = some (.string (bs [])):=Hr_w5.out.cell 1;have fr1_w5 : w5.frozen? ⟨w.heap.size + 1,1,none⟩ = false:=Hr_w5.out.free 1;have Hn_w5:=lid (Hn.out.below hw5);have n0_w5 : w5.cell? ⟨g,0,none⟩ = some (.bool (sgnB M)):=Hn_w5.out.cell 0;have n1_w5 : w5.cell? ⟨g,1,none⟩ = some (.string (bs (nt M.natAbs))):=Hn_w5.out.cell 1) | (go_at_call 94;(with_reducible refine (wSub_any (sgnB M) (nt M.natAbs) (sgnB one) (nt one.natAbs) _ HMl.out Hol.out).mono ?_);rintro e w6 ⟨rfl,hq⟩;have hw6 : Below w5.heap.size w5 w6:=(by first | exact bundrew hq | exact hq | exact ballocd hq | exact balloc hq | exact ballocx hq);clear hq;have Hx_w6:=lid (Hx_w5.out.below hw6);have Hr_w6:=lid (Hr_w5.out.below hw6);have r0_w6 : w6.cell? ⟨w.heap.size + 1,0,none⟩ = some (.bool false):=Hr_w6.out.cell 0;have fr0_w6 : w6.frozen? ⟨w.heap.size + 1,0,none⟩ = false:=Hr_w6.out.free 0;have r1_w6 : w6.cell? ⟨w.heap.size + 1,1,none⟩ = some (.string (bs [])):=Hr_w6.out.cell 1;have fr1_w6 : w6.frozen? ⟨w.heap.size + 1,1,none⟩ = false:=Hr_w6.out.free 1;have Hn_w6:=lid (Hn_w5.out.below hw6);have n0_w6 : w6.cell? ⟨g,0,none⟩ = some (.bool (sgnB M)):=Hn_w6.out.cell 0;have n1_w6 : w6.cell? ⟨g,1,none⟩ = some (.string (bs (nt M.natAbs))):=Hn_w6.out.cell 1))
        replace Hb:=lid (bnext Hb.out hw5);clear hw5
        replace Hb:=lid (bnext Hb.out hw6);clear hw6
        clear x0 x1
        clear r0 fr0 r1 fr1
        clear n0 n1
        replace Hx:=Hx_w6
        clear Hx_w5
        replace Hr:=Hr_w6
        clear Hr_w5
        clear r0_w5 fr0_w5
        clear r1_w5 fr1_w5
        clear r0_w6 fr0_w6
        clear r1_w6 fr1_w6
        replace Hn:=Hn_w6
        clear Hn_w5
        clear n0_w5
        clear n1_w5
        clear n0_w6
        clear n1_w6
        obtain ⟨x0,x1⟩:=Hx.out.c2
        obtain ⟨r0,fr0,r1,fr1⟩:=Hr.out.g2
        obtain ⟨n0,n1⟩:=Hn.out.c2
        rw [Hsub.out]
        go_wp2
        refine bodyPost_ret (v:=intV (M - 1)) (by simp [results,Tryz.results69,go_sem,r0,r1]) rfl ⟨by rw [Hres.out],?_⟩
        (repeat first | exact Hb.out | (refine Below.setCell ?_ (by have:=Hb.out.size;first | (dsimp only;omega) | (show _ <= _;omega) | (simp<;>omega)) _) | (refine Below.alloc ?_ (by have:=Hb.out.size;simp<;>omega) _) | refine Below.drew ?_)
      . have Hres : Hid (iv true l / 2 ^ k = M):=by
         show _ = _
         rw [<- HM.out,<- HZ.out,iv_num]
         have h2 : nv l % 2 ^ k = 0:=by
          rcases Nat.eq_zero_or_pos (nv l % 2 ^ k) with h | h
          . exact h
          . exact absurd ((tz_lt_iff (nv l) k (by omega)).2 (by omega)) hz
         unfold iv;simp only [if_true]
         exact neg_div_eq _ _ h2
        go_wp2_with fail
        refine (natLen_any l _ Hl0.out).mono ?_
        rintro e w3 ⟨rfl,hbn⟩
        clear x0 x1
        clear r0 fr0 r1 fr1
        clear n0 n1
        replace Hx:=kB Hx hbn
        replace Hr:=kB Hr hbn
        replace Hn:=kB Hn hbn
        obtain ⟨x0,x1⟩:=Hx.out.c2
        obtain ⟨r0,fr0,r1,fr1⟩:=Hr.out.g2
        obtain ⟨n0,n1⟩:=Hn.out.c2
        replace Hb:=bnx Hb hbn;clear hbn
        replace HTc:=lid (hT.below Hb.out)
        go_wp2_with fail
        refine (natZeros_any l _ Hl0.out HTc.out).mono ?_
        rintro e w4 ⟨rfl,hbn⟩
        clear x0 x1
        clear r0 fr0 r1 fr1
        clear n0 n1
        replace Hx:=kB Hx hbn
        replace Hr:=kB Hr hbn
        replace Hn:=kB Hn hbn
        obtain ⟨x0,x1⟩:=Hx.out.c2
        obtain ⟨r0,fr0,r1,fr1⟩:=Hr.out.g2
        obtain ⟨n0,n1⟩:=Hn.out.c2
        replace Hb:=bnx Hb hbn;clear hbn
        go_wp2
        refine bodyPost_ret (v:=intV M) (by simp [results,Tryz.results69,go_sem,r0,r1]) rfl ⟨by rw [Hres.out],?_⟩
        (repeat first | exact Hb.out | (refine Below.setCell ?_ (by have:=Hb.out.size;first | (dsimp only;omega) | (show _ <= _;omega) | (simp<;>omega)) _) | (refine Below.alloc ?_ (by have:=Hb.out.size;simp<;>omega) _) | refine Below.drew ?_)
end Go.Proofs.YtidjljldhdckiaaGreatDoor
