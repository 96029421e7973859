/- Small facts that walks over blocks of one's own share. -/
import Derived.Test.YtidjljldhdckiaaGreatDoorZ5
import Derived.Deep.RegionHeld3
import Derived.Deep.DrawnRows
import Derived.Test.YtidjljldhdckiaaGreatDoorZ1
set_option maxRecDepth 100000
set_option maxHeartbeats 16000000
namespace Go.Proofs.YtidjljldhdckiaaGreatDoor
open Go.RowKit
theorem wp_world {P : Program} {c : Code} {Q : Exit -> Act -> World -> Prop} {a : Act} {W : World} (S : World -> Prop) (hS : S W) (h : ∀ W',S W' -> c.wp P Q a W') : c.wp P Q a W:=h W hS
theorem calls_world {P : Program} {f : FuncId} {args : Array Value} {R : Ending -> World -> Prop} {W : World} (S : World -> Prop) (hS : S W) (h : ∀ W',S W' -> Calls P f args W' R) : Calls P f args W R:=h W hS
theorem cell_set_ne {w : World} {p a : Addr} {u v : Value} (hne : a.block ≠ p.block) (h : w.cell? a = some v) : (w.setCell p u).cell? a = some v:=
 (World.cell?_of_block (w:=w) (Below.heap_setCell _ _ _ _ hne)).trans h
theorem Blk.newAt (w : World) (t : TypeId) (cs : List Value) {b : Nat} (h : w.heap.size = b) : Blk (w.alloc (.cells cs.toArray t)) b t cs:=by subst h;exact Blk.new w t cs
theorem bundrew {a w : World} (h : Below a.drew.heap.size a.drew w) : Below a.heap.size a w:=⟨h.os,h.tape,h.output,h.size,h.block⟩
theorem bnext {w W w1 : World} (h : Below w.heap.size w W) (k : Below W.heap.size W w1) : Below w.heap.size w w1:=h.trans (k.mono h.size)
theorem bnx {w W w1 : World} (h : Hid (Below w.heap.size w W)) (k : Below W.heap.size W w1) : Hid (Below w.heap.size w w1):=bnext h.out k
theorem balloc {a w : World} {o : Obj} (h : Below (a.alloc o).heap.size (a.alloc o) w) : Below a.heap.size a w:=bnext ((Below.refl _ _).alloc (Nat.le_refl _) _) h
theorem ballocd {a w : World} {o : Obj} (h : Below (a.drew.alloc o).heap.size (a.drew.alloc o) w) : Below a.heap.size a w:=bundrew (balloc h)
theorem ballocx {a w : World} {o : Obj} (h : Below (a.alloc o).drew.heap.size (a.alloc o).drew w) : Below a.heap.size a w:=balloc (bundrew h)
theorem cell_new {w : World} {a : Addr} {v : Value} {o : Obj} (h : w.cell? a = some v) : (w.alloc o).cell? a = some v:=cell_later ((Below.refl _ _).alloc (Nat.le_refl _) _) h
theorem cell_drew {w : World} {a : Addr} {v : Value} (h : w.cell? a = some v) : w.drew.cell? a = some v:=h
theorem At.of_blk {w : World} {b : Nat} {t : TypeId} {cs : List Value} (h : Blk w b t cs) : At w (some ⟨b,0,none⟩) cs:=
 .inr ⟨b,0,rfl,fun j _=>by rw [Nat.zero_add];exact h.cell j⟩
theorem flat_get {α : Type} (f : α -> List Value) (sz : Nat) (hf : ∀ x,(f x).length = sz) (xs : List α) (k i : Nat) (hk : k < xs.length) (hi : i < sz) :
 (xs.flatMap f)[k * sz + i]? = (f xs[k])[i]?:=by
 induction xs generalizing k with
 | nil=>simp at hk
 | cons x xs ih =>
   rw [List.flatMap_cons]
   cases k with
   | zero =>
     rw [Nat.zero_mul,Nat.zero_add,List.getElem?_append_left (by rw [hf];exact hi)];rfl
   | succ k =>
     have e : (k + 1) * sz + i = (f x).length + (k * sz + i):=by rw [hf,Nat.add_mul,Nat.one_mul];omega
     rw [e,List.getElem?_append_right (by omega),Nat.add_sub_cancel_left,ih k (by simpa using hk)]
     rfl
theorem flat_length {α : Type} (f : α -> List Value) (sz : Nat) (hf : ∀ x,(f x).length = sz) (xs : List α) : (xs.flatMap f).length = xs.length * sz:=by
 induction xs with
 | nil=>simp
 | cons x xs ih=>rw [List.flatMap_cons,List.length_append,ih,hf,List.length_cons,Nat.add_mul,Nat.one_mul,Nat.add_comm]
theorem At.elem {α : Type} {f : α -> List Value} {sz : Nat} (hf : ∀ x,(f x).length = sz) (hsz : 0 < sz) {W : World} {a : Option Addr} {xs : List α} (h : At W a (xs.flatMap f)) (k : Nat) (hk : k < xs.length) :
 ∃ b o,a = some ⟨b,o,none⟩ /\ ∀ i,i < sz -> W.cell? ⟨b,o + k * sz + i,none⟩ = (f xs[k])[i]?:=by
 have hl:=flat_length f sz hf xs
 have hb : ∀ i,i < sz -> k * sz + i < xs.length * sz:=by
  intro i hi
  have : (k + 1) * sz <= xs.length * sz:=Nat.mul_le_mul_right _ hk
  rw [Nat.add_mul,Nat.one_mul] at this;omega
 have hne : xs.flatMap f ≠ []:=by
  intro h0;have:=congrArg List.length h0;rw [hl] at this
  have:=hb 0 hsz;simp at *;omega
 obtain ⟨b,o,ha,hc⟩:=h.get hne
 refine ⟨b,o,ha,fun i hi=>?_⟩
 rw [Nat.add_assoc,hc _ (by rw [hl];exact hb i hi),flat_get f sz hf xs k i hk hi]
end Go.Proofs.YtidjljldhdckiaaGreatDoor
namespace Go.Proofs.YtidjljldhdckiaaGreatDoor
open Go.RowKit
attribute [local go_sem ↓] Go.wp_at_zero Go.wp_at_succ
def iv (s : Bool) (l : List UInt8) : Int:=if s then -(nv l : Int) else (nv l : Int)
theorem iv_abs (s : Bool) (l : List UInt8) : (iv s l).natAbs = nv l:=by unfold iv;split<;>omega
def sgnB (n : Int) : Bool:=decide (n < 0)
theorem iv_neg (s : Bool) (l : List UInt8) : sgnB (iv s l) = (s && !(nt (nv l)).isEmpty):=by
 unfold sgnB
 have h : (nt (nv l)).isEmpty = decide (nv l = 0):=by
  rw [Bool.eq_iff_iff,List.isEmpty_iff,nt_nil_iff,decide_eq_true_iff]
 rw [h]
 unfold iv
 cases s<;>simp
 by_cases h0 : nv l = 0<;>simp [h0];omega
abbrev intV (n : Int) : Value:=.agg #[.bool (sgnB n),.string (bs (nt n.natAbs))]
theorem iv_int (n : Int) : iv (sgnB n) (nt n.natAbs) = n:=by
 unfold iv sgnB;rw [nv_nt];by_cases h : n < 0<;>simp [h]<;>omega
theorem iv_num (s : Bool) (n : Nat) : iv s (nt n) = if s then -(n : Int) else n:=by unfold iv;rw [nv_nt]
theorem wof_any (l : List UInt8) (s : Bool) (w : World) :
 Calls Tryz.prog 72 #[.agg #[.bool s,.string (bs l)]] w fun e w'=>e = .returned (.agg #[.string (bs l),.bool s]) /\ Below w.heap.size w w':=by
 go_enter Tryz.func72,Tryz.ntmps72
 have Hb : Hid (Below w.heap.size w w):=Below.refl _ _
 go_wp2
 refine bodyPost_ret (v:=.agg #[.string (bs l),.bool s]) (by simp [results,Tryz.results72,go_sem]) rfl ⟨rfl,?_⟩
 (repeat first | exact Hb.out | (refine Below.setCell ?_ (by have:=Hb.out.size;first | (dsimp only;omega) | (show _ <= _;omega) | (simp<;>omega)) _) | (refine Below.alloc ?_ (by have:=Hb.out.size;simp<;>omega) _) | refine Below.drew ?_)
theorem made_any (l : List UInt8) (s : Bool) (w : World) (hl : l.length <= 1099511627776) :
 Calls Tryz.prog 73 #[.agg #[.string (bs l),.bool s]] w fun e w'=>e = .returned (intV (iv s l)) /\ Below w.heap.size w w':=by
 unfold intV
 rw [iv_abs,iv_neg]
 have hne:=bs_empty (nt (nv l))
 generalize hb : (nt (nv l)).isEmpty = b at *
 have HB:=lid hb;clear hb
 cases s
 . go_enter Tryz.func73,Tryz.ntmps73
   have Hb : Hid (Below w.heap.size w w):=Below.refl _ _
   go_wp2_with (go_at_call 98;refine (trim_any l _ hl).mono ?_;rintro e w1 ⟨rfl,rfl⟩)
   go_wp2
   refine bodyPost_ret (v:=.agg #[.bool false,.string (bs (nt (nv l)))]) (by simp [results,Tryz.results73,go_sem]) rfl ⟨rfl,?_⟩
   (repeat first | exact Hb.out | (refine Below.setCell ?_ (by have:=Hb.out.size;first | (dsimp only;omega) | (show _ <= _;omega) | (simp<;>omega)) _) | (refine Below.alloc ?_ (by have:=Hb.out.size;simp<;>omega) _) | refine Below.drew ?_)
 . go_enter Tryz.func73,Tryz.ntmps73
   have Hb : Hid (Below w.heap.size w w):=Below.refl _ _
   go_wp2_with (go_at_call 98;refine (trim_any l _ hl).mono ?_;rintro e w1 ⟨rfl,rfl⟩)
   go_wp2
   refine bodyPost_ret (v:=.agg #[.bool !b,.string (bs (nt (nv l)))]) (by simp [results,Tryz.results73,go_sem]) rfl ⟨rfl,?_⟩
   (repeat first | exact Hb.out | (refine Below.setCell ?_ (by have:=Hb.out.size;first | (dsimp only;omega) | (show _ <= _;omega) | (simp<;>omega)) _) | (refine Below.alloc ?_ (by have:=Hb.out.size;simp<;>omega) _) | refine Below.drew ?_)
theorem natAdd_two (l m : List UInt8) (b cap : Nat) (t : TypeId) (w : World) (hl : l.length <= 68719476736) (hm : m.length <= 68719476736) (ha : Blk w b t [.string (bs l),.string (bs m)]) :
 Calls Tryz.prog 95 #[.slice (some ⟨b,0,none⟩) 2 cap] w fun e w'=>e = .returned (.string (bs (nt (nv l + nv m)))) /\ Below w.heap.size w w':=by
 have:=natAdd_any [l,m] (some ⟨b,0,none⟩) cap w (by simp [hl,hm]) (by simp) (At.of_blk ha)
 have e : nsum [l,m] = nv l + nv m:=by simp [nsum]
 rw [e] at this
 exact this
theorem plus_same (l m : List UInt8) (s : Bool) (w : World) (hl : l.length <= 68719476736) (hm : m.length <= 68719476736) :
 Calls Tryz.prog 71 #[.agg #[.string (bs l),.bool s],.agg #[.string (bs m),.bool s]] w fun e w'=>e = .returned (.agg #[.string (bs (nt (nv l + nv m))),.bool s]) /\ Below w.heap.size w w':=by
 go_enter Tryz.func71,Tryz.ntmps71
 have Hb : Hid (Below w.heap.size w w):=Below.refl _ _
 go_wp2_with fail
 obtain ⟨R,hR⟩ : ∃ R : World -> Prop,(fun W=>Blk W (w.heap.size) 126 [.string (bs l),.bool s] /\ Blk W (w.heap.size + 1) 126 [.string (bs m),.bool s] /\ Blk W (w.heap.size + 1 + 1) 126 [.string (bs []),.bool false] /\ Below w.heap.size w W) = R:=⟨_,rfl⟩
 first | refine wp_world R ?hR ?_ | refine calls_world R ?hR ?_
 case hR=>subst hR;exact ⟨(((Blk.newAt w _ _ (b:=w.heap.size) rfl).alloc _).alloc _),((Blk.newAt (w.alloc _) _ _ (b:=w.heap.size + 1) (by simp)).alloc _),(Blk.newAt ((w.alloc _).alloc _) _ _ (b:=w.heap.size + 1 + 1) (by simp)),((((Below.refl _ _).alloc (Nat.le_refl _) _).alloc (by simp<;>omega) _).alloc (by simp<;>omega) _)⟩
 subst hR
 rintro W ⟨qx,qy,qr,hbn⟩
 have Hx:=lid qx;clear qx
 have Hy:=lid qy;clear qy
 have Hr:=lid qr;clear qr
 obtain ⟨x0,x1⟩:=Hx.out.c2
 obtain ⟨y0,y1⟩:=Hy.out.c2
 obtain ⟨r0,fr0,r1,fr1⟩:=Hr.out.g2
 replace Hb:=bnx Hb hbn;clear hbn
 have nex : w.heap.size ≠ w.heap.size + 1 + 1:=by omega
 have ney : w.heap.size + 1 ≠ w.heap.size + 1 + 1:=by omega
 go_region_held3 (fun w'=>w'.cell? ⟨w.heap.size,0,none⟩ = some (.string (bs l)) /\ w'.cell? ⟨w.heap.size,1,none⟩ = some (.bool s) /\ w'.cell? ⟨w.heap.size + 1,0,none⟩ = some (.string (bs m)) /\ w'.cell? ⟨w.heap.size + 1,1,none⟩ = some (.bool s)) (((try dsimp only);go_split_ands;(repeat' apply And.intro)<;>(first | exact True.intro | with_reducible assumption | ((with_reducible refine cell_set_ne (by first | (dsimp only;omega) | (show _ ≠ _;omega) | (simp<;>omega)) ?_);(repeat (with_reducible refine cell_set_ne (by first | (dsimp only;omega) | (show _ ≠ _;omega) | (simp<;>omega)) ?_));with_reducible assumption) | exact cell_later (by with_reducible assumption) (by with_reducible assumption) | exact cell_new (by with_reducible assumption) | go_keep))) (first | (go_at_call 95;(with_reducible refine (natAdd_two l m W.heap.size 2 9 _ hl hm (by first | exact Blk.drew (Blk.new _ _ _) | exact Blk.new _ _ _)).mono ?_);rintro e w1 ⟨rfl,hq⟩;have hw1 : Below W.heap.size W w1:=(by first | exact bundrew hq | exact hq | exact ballocd hq | exact balloc hq | exact ballocx hq);clear hq;have Hx_w1:=lid (Hx.out.below hw1);have x0_w1 : w1.cell? ⟨w.heap.size,0,none⟩ = some (.string (bs l)):=Hx_w1.out.cell 0;have x1_w1 : w1.cell? ⟨w.heap.size,1,none⟩ = some (.bool s):=Hx_w1.out.cell 1;have Hy_w1:=lid (Hy.out.below hw1);have y0_w1 : w1.cell? ⟨w.heap.size + 1,0,none⟩ = some (.string (bs m)):=Hy_w1.out.cell 0;have y1_w1 : w1.cell? ⟨w.heap.size + 1,1,none⟩ = some (.bool s):=Hy_w1.out.cell 1;have Hr_w1:=lid (Hr.out.below hw1);have r0_w1 : w1.cell? ⟨w.heap.size + 1 + 1,0,none⟩ = some (.string (bs [])):=Hr_w1.out.cell 0;have fr0_w1 : w1.frozen? ⟨w.heap.size + 1 + 1,0,none⟩ = false:=Hr_w1.out.free 0;have r1_w1 : w1.cell? ⟨w.heap.size + 1 + 1,1,none⟩ = some (.bool false):=Hr_w1.out.cell 1;have fr1_w1 : w1.frozen? ⟨w.heap.size + 1 + 1,1,none⟩ = false:=Hr_w1.out.free 1))
 replace Hb:=lid (bnext Hb.out hw1);clear hw1
 clear x0 x1
 clear y0 y1
 clear r0 fr0 r1 fr1
 replace Hx:=Hx_w1
 clear x0_w1
 clear x1_w1
 replace Hy:=Hy_w1
 clear y0_w1
 clear y1_w1
 replace Hr:=Hr_w1
 clear r0_w1 fr0_w1
 clear r1_w1 fr1_w1
 obtain ⟨x0,x1⟩:=Hx.out.c2
 obtain ⟨y0,y1⟩:=Hy.out.c2
 obtain ⟨r0,fr0,r1,fr1⟩:=Hr.out.g2
 go_wp2
 refine bodyPost_ret (v:=.agg #[.string (bs (nt (nv l + nv m))),.bool s]) (by simp [results,Tryz.results71,go_sem,r0,r1]) rfl ⟨rfl,?_⟩
 (repeat first | exact Hb.out | (refine Below.setCell ?_ (by have:=Hb.out.size;first | (dsimp only;omega) | (show _ <= _;omega) | (simp<;>omega)) _) | (refine Below.alloc ?_ (by have:=Hb.out.size;simp<;>omega) _) | refine Below.drew ?_)
theorem scmp_any (l m : List UInt8) (w : World) (hl : l.length <= 68719476736) (hm : m.length <= 68719476736) :
 Calls Tryz.prog 96 #[.string (bs l),.string (bs m)] w fun e w'=>e = .returned (.int .i64 (cmpI (nv l) (nv m))) /\ Below w.heap.size w w':=by
 go_enter Tryz.func96,Tryz.ntmps96
 have Hb : Hid (Below w.heap.size w w):=Below.refl _ _
 go_wp2_with fail
 refine (natCmp_any l m _ hl hm).mono ?_
 rintro e w1 ⟨rfl,hbn⟩
 replace Hb:=bnx Hb hbn;clear hbn
 go_wp2
 go_ret
 exact ⟨rfl,Hb.out⟩
theorem plus_ge (l m : List UInt8) (s : Bool) (w : World) (hl : l.length <= 68719476736) (hm : m.length <= 68719476736) (h : nv m <= nv l) :
 Calls Tryz.prog 71 #[.agg #[.string (bs l),.bool s],.agg #[.string (bs m),.bool (!s)]] w fun e w'=>e = .returned (.agg #[.string (bs (nt (nv l - nv m))),.bool s]) /\ Below w.heap.size w w':=by
 have hc0 : 0 <= cmpI (nv l) (nv m):=by unfold cmpI;rw [if_neg (by omega)];split<;>omega
 have hss : (s == !s) = false:=by cases s<;>rfl
 have Hh:=lid h;clear h
 go_enter Tryz.func71,Tryz.ntmps71
 have Hb : Hid (Below w.heap.size w w):=Below.refl _ _
 go_wp2_with fail
 obtain ⟨R,hR⟩ : ∃ R : World -> Prop,(fun W=>Blk W (w.heap.size) 126 [.string (bs l),.bool s] /\ Blk W (w.heap.size + 1) 126 [.string (bs m),.bool (!s)] /\ Blk W (w.heap.size + 1 + 1) 126 [.string (bs []),.bool false] /\ Below w.heap.size w W) = R:=⟨_,rfl⟩
 first | refine wp_world R ?hR ?_ | refine calls_world R ?hR ?_
 case hR=>subst hR;exact ⟨(((Blk.newAt w _ _ (b:=w.heap.size) rfl).alloc _).alloc _),((Blk.newAt (w.alloc _) _ _ (b:=w.heap.size + 1) (by simp)).alloc _),(Blk.newAt ((w.alloc _).alloc _) _ _ (b:=w.heap.size + 1 + 1) (by simp)),((((Below.refl _ _).alloc (Nat.le_refl _) _).alloc (by simp<;>omega) _).alloc (by simp<;>omega) _)⟩
 subst hR
 rintro W ⟨qx,qy,qr,hbn⟩
 have Hx:=lid qx;clear qx
 have Hy:=lid qy;clear qy
 have Hr:=lid qr;clear qr
 obtain ⟨x0,x1⟩:=Hx.out.c2
 obtain ⟨y0,y1⟩:=Hy.out.c2
 obtain ⟨r0,fr0,r1,fr1⟩:=Hr.out.g2
 replace Hb:=bnx Hb hbn;clear hbn
 go_wp2_with fail
 refine (scmp_any l m _ hl hm).mono ?_
 rintro e w1 ⟨rfl,hbn⟩
 clear x0 x1
 clear y0 y1
 clear r0 fr0 r1 fr1
 replace Hx:=kB Hx hbn
 replace Hy:=kB Hy hbn
 replace Hr:=kB Hr hbn
 obtain ⟨x0,x1⟩:=Hx.out.c2
 obtain ⟨y0,y1⟩:=Hy.out.c2
 obtain ⟨r0,fr0,r1,fr1⟩:=Hr.out.g2
 replace Hb:=bnx Hb hbn;clear hbn
 go_wp2_with fail
 refine (natSub_any l m _ hl hm Hh.out).mono ?_
 rintro e w2 ⟨rfl,hbn⟩
 clear x0 x1
 clear y0 y1
 clear r0 fr0 r1 fr1
 replace Hx:=kB Hx hbn
 replace Hy:=kB Hy hbn
 replace Hr:=kB Hr hbn
 obtain ⟨x0,x1⟩:=Hx.out.c2
 obtain ⟨y0,y1⟩:=Hy.out.c2
 obtain ⟨r0,fr0,r1,fr1⟩:=Hr.out.g2
 replace Hb:=bnx Hb hbn;clear hbn
 go_wp2
 refine bodyPost_ret (v:=.agg #[.string (bs (nt (nv l - nv m))),.bool s]) (by simp [results,Tryz.results71,go_sem,r0,r1]) rfl ⟨rfl,?_⟩
 (repeat first | exact Hb.out | (refine Below.setCell ?_ (by have:=Hb.out.size;first | (dsimp only;omega) | (show _ <= _;omega) | (simp<;>omega)) _) | (refine Below.alloc ?_ (by have:=Hb.out.size;simp<;>omega) _) | refine Below.drew ?_)
theorem plus_less (l m : List UInt8) (s : Bool) (w : World) (hl : l.length <= 68719476736) (hm : m.length <= 68719476736) (h : nv l < nv m) :
 Calls Tryz.prog 71 #[.agg #[.string (bs l),.bool s],.agg #[.string (bs m),.bool (!s)]] w fun e w'=>e = .returned (.agg #[.string (bs (nt (nv m - nv l))),.bool (!s)]) /\ Below w.heap.size w w':=by
 have hc0 : cmpI (nv l) (nv m) < 0:=by unfold cmpI;rw [if_pos h];omega
 have hss : (s == !s) = false:=by cases s<;>rfl
 have Hh:=lid (Nat.le_of_lt h);clear h
 go_enter Tryz.func71,Tryz.ntmps71
 have Hb : Hid (Below w.heap.size w w):=Below.refl _ _
 go_wp2_with fail
 obtain ⟨R,hR⟩ : ∃ R : World -> Prop,(fun W=>Blk W (w.heap.size) 126 [.string (bs l),.bool s] /\ Blk W (w.heap.size + 1) 126 [.string (bs m),.bool (!s)] /\ Blk W (w.heap.size + 1 + 1) 126 [.string (bs []),.bool false] /\ Below w.heap.size w W) = R:=⟨_,rfl⟩
 first | refine wp_world R ?hR ?_ | refine calls_world R ?hR ?_
 case hR=>subst hR;exact ⟨(((Blk.newAt w _ _ (b:=w.heap.size) rfl).alloc _).alloc _),((Blk.newAt (w.alloc _) _ _ (b:=w.heap.size + 1) (by simp)).alloc _),(Blk.newAt ((w.alloc _).alloc _) _ _ (b:=w.heap.size + 1 + 1) (by simp)),((((Below.refl _ _).alloc (Nat.le_refl _) _).alloc (by simp<;>omega) _).alloc (by simp<;>omega) _)⟩
 subst hR
 rintro W ⟨qx,qy,qr,hbn⟩
 have Hx:=lid qx;clear qx
 have Hy:=lid qy;clear qy
 have Hr:=lid qr;clear qr
 obtain ⟨x0,fx0,x1,fx1⟩:=Hx.out.g2
 obtain ⟨y0,fy0,y1,fy1⟩:=Hy.out.g2
 obtain ⟨r0,fr0,r1,fr1⟩:=Hr.out.g2
 replace Hb:=bnx Hb hbn;clear hbn
 go_wp2_with fail
 refine (scmp_any l m _ hl hm).mono ?_
 rintro e w1 ⟨rfl,hbn⟩
 clear x0 fx0 x1 fx1
 clear y0 fy0 y1 fy1
 clear r0 fr0 r1 fr1
 replace Hx:=kB Hx hbn
 replace Hy:=kB Hy hbn
 replace Hr:=kB Hr hbn
 obtain ⟨x0,fx0,x1,fx1⟩:=Hx.out.g2
 obtain ⟨y0,fy0,y1,fy1⟩:=Hy.out.g2
 obtain ⟨r0,fr0,r1,fr1⟩:=Hr.out.g2
 replace Hb:=bnx Hb hbn;clear hbn
 go_wp2_with fail
 clear x0 fx0 x1 fx1
 clear y0 fy0 y1 fy1
 clear r0 fr0 r1 fr1
 obtain ⟨R,hR⟩ : ∃ R : World -> Prop,(fun w2=>Blk w2 (w.heap.size) 126 [.string (bs m),.bool (!s)] /\ Blk w2 (w.heap.size + 1) 126 [.string (bs l),.bool s] /\ Blk w2 (w.heap.size + 1 + 1) 126 [.string (bs []),.bool false] /\ Below w.heap.size w w2) = R:=⟨_,rfl⟩
 first | refine wp_world R ?hR ?_ | refine calls_world R ?hR ?_
 case hR=>subst hR;exact ⟨((((Hx.out.set 0 _).set 1 _).so (w.heap.size + 1) 0 (by omega) _).so (w.heap.size + 1) 1 (by omega) _),((((Hy.out.so (w.heap.size) 0 (by omega) _).so (w.heap.size) 1 (by omega) _).set 0 _).set 1 _),((((Hr.out.so (w.heap.size) 0 (by omega) _).so (w.heap.size) 1 (by omega) _).so (w.heap.size + 1) 0 (by omega) _).so (w.heap.size + 1) 1 (by omega) _),((((Hb.out.sc (w.heap.size) 0 (by have:=Hb.out.size;omega) _).sc (w.heap.size) 1 (by have:=Hb.out.size;omega) _).sc (w.heap.size + 1) 0 (by have:=Hb.out.size;omega) _).sc (w.heap.size + 1) 1 (by have:=Hb.out.size;omega) _)⟩
 subst hR
 rintro w2 ⟨qx,qy,qr,hbn⟩
 replace Hx:=lid qx;clear qx
 replace Hy:=lid qy;clear qy
 replace Hr:=lid qr;clear qr
 obtain ⟨x0,fx0,x1,fx1⟩:=Hx.out.g2
 obtain ⟨y0,fy0,y1,fy1⟩:=Hy.out.g2
 obtain ⟨r0,fr0,r1,fr1⟩:=Hr.out.g2
 replace Hb:=lid hbn;clear hbn
 go_wp2_with fail
 refine (natSub_any m l _ hm hl Hh.out).mono ?_
 rintro e w3 ⟨rfl,hbn⟩
 clear x0 fx0 x1 fx1
 clear y0 fy0 y1 fy1
 clear r0 fr0 r1 fr1
 replace Hx:=kB Hx hbn
 replace Hy:=kB Hy hbn
 replace Hr:=kB Hr hbn
 obtain ⟨x0,fx0,x1,fx1⟩:=Hx.out.g2
 obtain ⟨y0,fy0,y1,fy1⟩:=Hy.out.g2
 obtain ⟨r0,fr0,r1,fr1⟩:=Hr.out.g2
 replace Hb:=bnx Hb hbn;clear hbn
 go_wp2
 refine bodyPost_ret (v:=.agg #[.string (bs (nt (nv m - nv l))),.bool (!s)]) (by simp [results,Tryz.results71,go_sem,r0,r1]) rfl ⟨rfl,?_⟩
 (repeat first | exact Hb.out | (refine Below.setCell ?_ (by have:=Hb.out.size;first | (dsimp only;omega) | (show _ <= _;omega) | (simp<;>omega)) _) | (refine Below.alloc ?_ (by have:=Hb.out.size;simp<;>omega) _) | refine Below.drew ?_)
def psign (s : Bool) (l : List UInt8) (t : Bool) (m : List UInt8) : Bool:=if s == t then s else if nv l < nv m then t else s
theorem psign_iv (s : Bool) (l : List UInt8) (t : Bool) (m : List UInt8) : iv (psign s l t m) (nt (iv s l + iv t m).natAbs) = iv s l + iv t m:=by
 unfold psign iv
 rw [nv_nt]
 cases s<;>cases t<;>simp<;>(try split)<;>omega
theorem plus_any (l m : List UInt8) (s t : Bool) (w : World) (hl : l.length <= 68719476736) (hm : m.length <= 68719476736) :
 Calls Tryz.prog 71 #[.agg #[.string (bs l),.bool s],.agg #[.string (bs m),.bool t]] w fun e w'=>e = .returned (.agg #[.string (bs (nt (iv s l + iv t m).natAbs)),.bool (psign s l t m)]) /\ Below w.heap.size w w':=by
 by_cases hst : s = t
 . subst hst
   have e : (iv s l + iv s m).natAbs = nv l + nv m:=by unfold iv;split<;>omega
   rw [e,show psign s l s m = s by simp [psign]]
   exact plus_same l m s w hl hm
 . obtain rfl : t = !s:=by cases s<;>cases t<;>simp_all
   by_cases h : nv l < nv m
   . have e : (iv s l + iv (!s) m).natAbs = nv m - nv l:=by unfold iv;cases s<;>simp<;>omega
     rw [e,show psign s l (!s) m = !s by cases s<;>simp [psign,h]]
     exact plus_less l m s w hl hm h
   . have e : (iv s l + iv (!s) m).natAbs = nv l - nv m:=by unfold iv;cases s<;>simp<;>omega
     rw [e,show psign s l (!s) m = s by cases s<;>simp [psign,h]]
     exact plus_ge l m s w hl hm (by omega)
theorem times_raw (l m : List UInt8) (s t : Bool) (w : World) (hl : l.length <= 68719476736) (hm : m.length <= 68719476736) :
 Calls Tryz.prog 86 #[.agg #[.string (bs l),.bool s],.agg #[.string (bs m),.bool t]] w fun e w'=>e = .returned (.agg #[.string (bs (nt (nv l * nv m))),.bool (!(s == t))]) /\ Below w.heap.size w w':=by
 go_enter Tryz.func86,Tryz.ntmps86
 have Hb : Hid (Below w.heap.size w w):=Below.refl _ _
 go_wp2_with fail
 obtain ⟨R,hR⟩ : ∃ R : World -> Prop,(fun W=>Blk W (w.heap.size) 126 [.string (bs l),.bool s] /\ Blk W (w.heap.size + 1) 126 [.string (bs m),.bool t] /\ Blk W (w.heap.size + 1 + 1) 126 [.string (bs []),.bool false] /\ Below w.heap.size w W) = R:=⟨_,rfl⟩
 first | refine wp_world R ?hR ?_ | refine calls_world R ?hR ?_
 case hR=>subst hR;exact ⟨(((Blk.newAt w _ _ (b:=w.heap.size) rfl).alloc _).alloc _),((Blk.newAt (w.alloc _) _ _ (b:=w.heap.size + 1) (by simp)).alloc _),(Blk.newAt ((w.alloc _).alloc _) _ _ (b:=w.heap.size + 1 + 1) (by simp)),((((Below.refl _ _).alloc (Nat.le_refl _) _).alloc (by simp<;>omega) _).alloc (by simp<;>omega) _)⟩
 subst hR
 rintro W ⟨qx,qy,qr,hbn⟩
 have Hx:=lid qx;clear qx
 have Hy:=lid qy;clear qy
 have Hr:=lid qr;clear qr
 obtain ⟨x0,x1⟩:=Hx.out.c2
 obtain ⟨y0,y1⟩:=Hy.out.c2
 obtain ⟨r0,fr0,r1,fr1⟩:=Hr.out.g2
 replace Hb:=bnx Hb hbn;clear hbn
 have nex : w.heap.size ≠ w.heap.size + 1 + 1:=by omega
 have ney : w.heap.size + 1 ≠ w.heap.size + 1 + 1:=by omega
 go_region_held3 (fun w'=>w'.cell? ⟨w.heap.size,0,none⟩ = some (.string (bs l)) /\ w'.cell? ⟨w.heap.size,1,none⟩ = some (.bool s) /\ w'.cell? ⟨w.heap.size + 1,0,none⟩ = some (.string (bs m)) /\ w'.cell? ⟨w.heap.size + 1,1,none⟩ = some (.bool t)) (((try dsimp only);go_split_ands;(repeat' apply And.intro)<;>(first | exact True.intro | with_reducible assumption | ((with_reducible refine cell_set_ne (by first | (dsimp only;omega) | (show _ ≠ _;omega) | (simp<;>omega)) ?_);(repeat (with_reducible refine cell_set_ne (by first | (dsimp only;omega) | (show _ ≠ _;omega) | (simp<;>omega)) ?_));with_reducible assumption) | exact cell_later (by with_reducible assumption) (by with_reducible assumption) | exact cell_new (by with_reducible assumption) | go_keep))) (first | (go_at_call 109;(with_reducible refine (natMul_any l m _ hl hm).mono ?_);rintro e w1 ⟨rfl,hq⟩;have hw1 : Below W.heap.size W w1:=(by first | exact bundrew hq | exact hq | exact ballocd hq | exact balloc hq | exact ballocx hq);clear hq;have Hx_w1:=lid (Hx.out.below hw1);have x0_w1 : w1.cell? ⟨w.heap.size,0,none⟩ = some (.string (bs l)):=Hx_w1.out.cell 0;have x1_w1 : w1.cell? ⟨w.heap.size,1,none⟩ = some (.bool s):=Hx_w1.out.cell 1;have Hy_w1:=lid (Hy.out.below hw1);have y0_w1 : w1.cell? ⟨w.heap.size + 1,0,none⟩ = some (.string (bs m)):=Hy_w1.out.cell 0;have y1_w1 : w1.cell? ⟨w.heap.size + 1,1,none⟩ = some (.bool t):=Hy_w1.out.cell 1;have Hr_w1:=lid (Hr.out.below hw1);have r0_w1 : w1.cell? ⟨w.heap.size + 1 + 1,0,none⟩ = some (.string (bs [])):=Hr_w1.out.cell 0;have fr0_w1 : w1.frozen? ⟨w.heap.size + 1 + 1,0,none⟩ = false:=Hr_w1.out.free 0;have r1_w1 : w1.cell? ⟨w.heap.size + 1 + 1,1,none⟩ = some (.bool false):=Hr_w1.out.cell 1;have fr1_w1 : w1.frozen? ⟨w.heap.size + 1 + 1,1,none⟩ = false:=Hr_w1.out.free 1))
 replace Hb:=lid (bnext Hb.out hw1);clear hw1
 clear x0 x1
 clear y0 y1
 clear r0 fr0 r1 fr1
 replace Hx:=Hx_w1
 clear x0_w1
 clear x1_w1
 replace Hy:=Hy_w1
 clear y0_w1
 clear y1_w1
 replace Hr:=Hr_w1
 clear r0_w1 fr0_w1
 clear r1_w1 fr1_w1
 obtain ⟨x0,x1⟩:=Hx.out.c2
 obtain ⟨y0,y1⟩:=Hy.out.c2
 obtain ⟨r0,fr0,r1,fr1⟩:=Hr.out.g2
 go_wp2
 refine bodyPost_ret (v:=.agg #[.string (bs (nt (nv l * nv m))),.bool (!(s == t))]) (by simp [results,Tryz.results86,go_sem,r0,r1]) rfl ⟨rfl,?_⟩
 (repeat first | exact Hb.out | (refine Below.setCell ?_ (by have:=Hb.out.size;first | (dsimp only;omega) | (show _ <= _;omega) | (simp<;>omega)) _) | (refine Below.alloc ?_ (by have:=Hb.out.size;simp<;>omega) _) | refine Below.drew ?_)
theorem iv_mul (s : Bool) (l : List UInt8) (t : Bool) (m : List UInt8) : iv (!(s == t)) (nt (nv l * nv m)) = iv s l * iv t m:=by
 unfold iv
 rw [nv_nt]
 cases s<;>cases t<;>simp [Int.natCast_mul,Int.neg_mul,Int.mul_neg]
theorem wOf_any (n : Int) (w : World) (h0 : -9223372036854775808 <= n) (h1 : n <= 9223372036854775807) :
 Calls Tryz.prog 65 #[.int .i64 n] w fun e w'=>e = .returned (intV n) /\ Below w.heap.size w w':=by
 have hb : n.natAbs < WW:=by rw [WW_def];omega
 have hlen : (nt n.natAbs).length <= 8:=nt_length_le (by rw [WW_def] at hb;omega)
 have Hbd:=lid hb;clear hb
 by_cases hn : n < 0
 . have hconv : IntKind.u64.wrap (-(IntKind.u64.wrap n)) = (n.natAbs : Int):=by
    simp only [IntKind.wrap_u64];omega
   have Hiv : Hid (iv true (nt n.natAbs) = n):=by show iv _ _ = _;unfold iv;rw [nv_nt];simp;omega
   go_enter Tryz.func65,Tryz.ntmps65
   have Hb : Hid (Below w.heap.size w w):=Below.refl _ _
   go_wp2_with fail
   obtain ⟨R,hR⟩ : ∃ R : World -> Prop,(fun W=>Blk W (w.heap.size) 34 [.bool false,.string (bs [])] /\ Below w.heap.size w W) = R:=⟨_,rfl⟩
   first | refine wp_world R ?hR ?_ | refine calls_world R ?hR ?_
   case hR=>subst hR;exact ⟨(Blk.newAt w _ _ (b:=w.heap.size) rfl),((Below.refl _ _).alloc (Nat.le_refl _) _)⟩
   subst hR
   rintro W ⟨qr,hbn⟩
   have Hr:=lid qr;clear qr
   obtain ⟨r0,fr0,r1,fr1⟩:=Hr.out.g2
   replace Hb:=bnx Hb hbn;clear hbn
   go_wp2_with fail
   refine (natOf_any n.natAbs Hbd.out _).mono ?_
   rintro e w1 ⟨rfl,hbn⟩
   clear r0 fr0 r1 fr1
   replace Hr:=kB Hr hbn
   obtain ⟨r0,fr0,r1,fr1⟩:=Hr.out.g2
   replace Hb:=bnx Hb hbn;clear hbn
   go_wp2_with fail
   refine (made_any (nt n.natAbs) true _ (by omega)).mono ?_
   rintro e w2 ⟨rfl,hbn⟩
   clear r0 fr0 r1 fr1
   replace Hr:=kB Hr hbn
   obtain ⟨r0,fr0,r1,fr1⟩:=Hr.out.g2
   replace Hb:=bnx Hb hbn;clear hbn
   rw [Hiv.out]
   go_wp2
   refine bodyPost_ret (v:=intV n) (by simp [results,Tryz.results65,go_sem,r0,r1]) rfl ⟨rfl,?_⟩
   (repeat first | exact Hb.out | (refine Below.setCell ?_ (by have:=Hb.out.size;first | (dsimp only;omega) | (show _ <= _;omega) | (simp<;>omega)) _) | (refine Below.alloc ?_ (by have:=Hb.out.size;simp<;>omega) _) | refine Below.drew ?_)
 . have hconv : IntKind.u64.wrap n = (n.natAbs : Int):=by
    simp only [IntKind.wrap_u64];omega
   have Hiv : Hid (iv false (nt n.natAbs) = n):=by show iv _ _ = _;unfold iv;rw [nv_nt];simp;omega
   go_enter Tryz.func65,Tryz.ntmps65
   have Hb : Hid (Below w.heap.size w w):=Below.refl _ _
   go_wp2_with fail
   obtain ⟨R,hR⟩ : ∃ R : World -> Prop,(fun W=>Blk W (w.heap.size) 34 [.bool false,.string (bs [])] /\ Below w.heap.size w W) = R:=⟨_,rfl⟩
   first | refine wp_world R ?hR ?_ | refine calls_world R ?hR ?_
   case hR=>subst hR;exact ⟨(Blk.newAt w _ _ (b:=w.heap.size) rfl),((Below.refl _ _).alloc (Nat.le_refl _) _)⟩
   subst hR
   rintro W ⟨qr,hbn⟩
   have Hr:=lid qr;clear qr
   obtain ⟨r0,fr0,r1,fr1⟩:=Hr.out.g2
   replace Hb:=bnx Hb hbn;clear hbn
   go_wp2_with fail
   refine (natOf_any n.natAbs Hbd.out _).mono ?_
   rintro e w1 ⟨rfl,hbn⟩
   clear r0 fr0 r1 fr1
   replace Hr:=kB Hr hbn
   obtain ⟨r0,fr0,r1,fr1⟩:=Hr.out.g2
   replace Hb:=bnx Hb hbn;clear hbn
   go_wp2_with fail
   refine (made_any (nt n.natAbs) false _ (by omega)).mono ?_
   rintro e w2 ⟨rfl,hbn⟩
   clear r0 fr0 r1 fr1
   replace Hr:=kB Hr hbn
   obtain ⟨r0,fr0,r1,fr1⟩:=Hr.out.g2
   replace Hb:=bnx Hb hbn;clear hbn
   rw [Hiv.out]
   go_wp2
   refine bodyPost_ret (v:=intV n) (by simp [results,Tryz.results65,go_sem,r0,r1]) rfl ⟨rfl,?_⟩
   (repeat first | exact Hb.out | (refine Below.setCell ?_ (by have:=Hb.out.size;first | (dsimp only;omega) | (show _ <= _;omega) | (simp<;>omega)) _) | (refine Below.alloc ?_ (by have:=Hb.out.size;simp<;>omega) _) | refine Below.drew ?_)
theorem wForm_any (s : Bool) (l : List UInt8) (w : World) (hl : l.length <= 1099511627776) :
 Calls Tryz.prog 88 #[.agg #[.bool s,.string (bs l)]] w fun e w'=>e = .returned (intV (iv s l)) /\ Below w.heap.size w w':=by
 go_enter Tryz.func88,Tryz.ntmps88
 have Hb : Hid (Below w.heap.size w w):=Below.refl _ _
 go_wp2_with fail
 obtain ⟨R,hR⟩ : ∃ R : World -> Prop,(fun W=>Blk W (w.heap.size) 34 [.bool s,.string (bs l)] /\ Blk W (w.heap.size + 1) 34 [.bool false,.string (bs [])] /\ Below w.heap.size w W) = R:=⟨_,rfl⟩
 first | refine wp_world R ?hR ?_ | refine calls_world R ?hR ?_
 case hR=>subst hR;exact ⟨((Blk.newAt w _ _ (b:=w.heap.size) rfl).alloc _),(Blk.newAt (w.alloc _) _ _ (b:=w.heap.size + 1) (by simp)),(((Below.refl _ _).alloc (Nat.le_refl _) _).alloc (by simp<;>omega) _)⟩
 subst hR
 rintro W ⟨qx,qr,hbn⟩
 have Hx:=lid qx;clear qx
 have Hr:=lid qr;clear qr
 obtain ⟨x0,x1⟩:=Hx.out.c2
 obtain ⟨r0,fr0,r1,fr1⟩:=Hr.out.g2
 replace Hb:=bnx Hb hbn;clear hbn
 go_wp2_with fail
 refine (wof_any l s _).mono ?_
 rintro e w1 ⟨rfl,hbn⟩
 clear x0 x1
 clear r0 fr0 r1 fr1
 replace Hx:=kB Hx hbn
 replace Hr:=kB Hr hbn
 obtain ⟨x0,x1⟩:=Hx.out.c2
 obtain ⟨r0,fr0,r1,fr1⟩:=Hr.out.g2
 replace Hb:=bnx Hb hbn;clear hbn
 go_wp2_with fail
 refine (made_any l s _ hl).mono ?_
 rintro e w2 ⟨rfl,hbn⟩
 clear x0 x1
 clear r0 fr0 r1 fr1
 replace Hx:=kB Hx hbn
 replace Hr:=kB Hr hbn
 obtain ⟨x0,x1⟩:=Hx.out.c2
 obtain ⟨r0,fr0,r1,fr1⟩:=Hr.out.g2
 replace Hb:=bnx Hb hbn;clear hbn
 go_wp2
 refine bodyPost_ret (v:=intV (iv s l)) (by simp [results,Tryz.results88,go_sem,r0,r1]) rfl ⟨rfl,?_⟩
 (repeat first | exact Hb.out | (refine Below.setCell ?_ (by have:=Hb.out.size;first | (dsimp only;omega) | (show _ <= _;omega) | (simp<;>omega)) _) | (refine Below.alloc ?_ (by have:=Hb.out.size;simp<;>omega) _) | refine Below.drew ?_)
def sgnI (n : Int) : Int:=if n < 0 then -1 else if n = 0 then 0 else 1
theorem wSign_any (s : Bool) (l : List UInt8) (w : World) (hl : l.length <= 1099511627776) :
 Calls Tryz.prog 67 #[.agg #[.bool s,.string (bs l)]] w fun e w'=>e = .returned (.int .i64 (sgnI (iv s l))) /\ Below w.heap.size w w':=by
 have hne:=bs_empty (nt (iv s l).natAbs)
 by_cases hneg : iv s l < 0
 . have hs : sgnB (iv s l) = true:=by simp [sgnB,hneg]
   have Hres : Hid (sgnI (iv s l) = -1):=by show sgnI _ = _;simp [sgnI,hneg]
   clear hneg hne
   go_enter Tryz.func67,Tryz.ntmps67
   have Hb : Hid (Below w.heap.size w w):=Below.refl _ _
   go_wp2_with fail
   obtain ⟨R,hR⟩ : ∃ R : World -> Prop,(fun W=>Blk W (w.heap.size) 34 [.bool s,.string (bs l)] /\ Below w.heap.size w W) = R:=⟨_,rfl⟩
   first | refine wp_world R ?hR ?_ | refine calls_world R ?hR ?_
   case hR=>subst hR;exact ⟨(Blk.newAt w _ _ (b:=w.heap.size) rfl),((Below.refl _ _).alloc (Nat.le_refl _) _)⟩
   subst hR
   rintro W ⟨qx,hbn⟩
   have Hx:=lid qx;clear qx
   obtain ⟨x0,x1⟩:=Hx.out.c2
   replace Hb:=bnx Hb hbn;clear hbn
   go_wp2_with fail
   refine (wForm_any s l _ hl).mono ?_
   rintro e w1 ⟨rfl,hbn⟩
   clear x0 x1
   replace Hx:=kB Hx hbn
   obtain ⟨x0,x1⟩:=Hx.out.c2
   replace Hb:=bnx Hb hbn;clear hbn
   go_wp2
   go_ret
   rw [Hres.out]
   refine ⟨rfl,?_⟩
   exact Hb.out.alloc Hb.out.size _
 . have hs : sgnB (iv s l) = false:=by simp [sgnB,hneg]
   by_cases hz : iv s l = 0
   . have Hres : Hid (sgnI (iv s l) = 0):=by show sgnI _ = _;simp [sgnI,hz]
     have hne' : (bs (nt (iv s l).natAbs)).toList.isEmpty = true:=by rw [hne,hz];rfl
     clear hneg hne hz
     go_enter Tryz.func67,Tryz.ntmps67
     have Hb : Hid (Below w.heap.size w w):=Below.refl _ _
     go_wp2_with fail
     obtain ⟨R,hR⟩ : ∃ R : World -> Prop,(fun W=>Blk W (w.heap.size) 34 [.bool s,.string (bs l)] /\ Below w.heap.size w W) = R:=⟨_,rfl⟩
     first | refine wp_world R ?hR ?_ | refine calls_world R ?hR ?_
     case hR=>subst hR;exact ⟨(Blk.newAt w _ _ (b:=w.heap.size) rfl),((Below.refl _ _).alloc (Nat.le_refl _) _)⟩
     subst hR
     rintro W ⟨qx,hbn⟩
     have Hx:=lid qx;clear qx
     obtain ⟨x0,x1⟩:=Hx.out.c2
     replace Hb:=bnx Hb hbn;clear hbn
     go_wp2_with fail
     refine (wForm_any s l _ hl).mono ?_
     rintro e w1 ⟨rfl,hbn⟩
     clear x0 x1
     replace Hx:=kB Hx hbn
     obtain ⟨x0,x1⟩:=Hx.out.c2
     replace Hb:=bnx Hb hbn;clear hbn
     go_wp2
     go_ret
     rw [Hres.out]
     refine ⟨rfl,?_⟩
     exact Hb.out.alloc Hb.out.size _
   . have Hres : Hid (sgnI (iv s l) = 1):=by show sgnI _ = _;simp [sgnI,hz,hneg]
     have hne' : (bs (nt (iv s l).natAbs)).toList.isEmpty = false:=by
      rw [hne]
      cases hq : nt (iv s l).natAbs with
      | nil=>rw [nt_nil_iff] at hq;omega
      | cons a b=>rfl
     clear hneg hne hz
     go_enter Tryz.func67,Tryz.ntmps67
     have Hb : Hid (Below w.heap.size w w):=Below.refl _ _
     go_wp2_with fail
     obtain ⟨R,hR⟩ : ∃ R : World -> Prop,(fun W=>Blk W (w.heap.size) 34 [.bool s,.string (bs l)] /\ Below w.heap.size w W) = R:=⟨_,rfl⟩
     first | refine wp_world R ?hR ?_ | refine calls_world R ?hR ?_
     case hR=>subst hR;exact ⟨(Blk.newAt w _ _ (b:=w.heap.size) rfl),((Below.refl _ _).alloc (Nat.le_refl _) _)⟩
     subst hR
     rintro W ⟨qx,hbn⟩
     have Hx:=lid qx;clear qx
     obtain ⟨x0,x1⟩:=Hx.out.c2
     replace Hb:=bnx Hb hbn;clear hbn
     go_wp2_with fail
     refine (wForm_any s l _ hl).mono ?_
     rintro e w1 ⟨rfl,hbn⟩
     clear x0 x1
     replace Hx:=kB Hx hbn
     obtain ⟨x0,x1⟩:=Hx.out.c2
     replace Hb:=bnx Hb hbn;clear hbn
     go_wp2
     go_ret
     rw [Hres.out]
     refine ⟨rfl,?_⟩
     exact Hb.out.alloc Hb.out.size _
theorem iv_not (s : Bool) (l : List UInt8) : iv (!s) l = -(iv s l):=by unfold iv;cases s<;>simp
theorem wNeg_any (s : Bool) (l : List UInt8) (w : World) (hl : l.length <= 1099511627776) :
 Calls Tryz.prog 115 #[.agg #[.bool s,.string (bs l)]] w fun e w'=>e = .returned (intV (-(iv s l))) /\ Below w.heap.size w w':=by
 rw [<- iv_not]
 go_enter Tryz.func115,Tryz.ntmps115
 have Hb : Hid (Below w.heap.size w w):=Below.refl _ _
 go_wp2_with fail
 obtain ⟨R,hR⟩ : ∃ R : World -> Prop,(fun W=>Blk W (w.heap.size) 34 [.bool s,.string (bs l)] /\ Blk W (w.heap.size + 1) 34 [.bool false,.string (bs [])] /\ Below w.heap.size w W) = R:=⟨_,rfl⟩
 first | refine wp_world R ?hR ?_ | refine calls_world R ?hR ?_
 case hR=>subst hR;exact ⟨((Blk.newAt w _ _ (b:=w.heap.size) rfl).alloc _),(Blk.newAt (w.alloc _) _ _ (b:=w.heap.size + 1) (by simp)),(((Below.refl _ _).alloc (Nat.le_refl _) _).alloc (by simp<;>omega) _)⟩
 subst hR
 rintro W ⟨qx,qr,hbn⟩
 have Hx:=lid qx;clear qx
 have Hr:=lid qr;clear qr
 obtain ⟨x0,x1⟩:=Hx.out.c2
 obtain ⟨r0,fr0,r1,fr1⟩:=Hr.out.g2
 replace Hb:=bnx Hb hbn;clear hbn
 go_wp2_with fail
 refine (made_any l (!s) _ hl).mono ?_
 rintro e w1 ⟨rfl,hbn⟩
 clear x0 x1
 clear r0 fr0 r1 fr1
 replace Hx:=kB Hx hbn
 replace Hr:=kB Hr hbn
 obtain ⟨x0,x1⟩:=Hx.out.c2
 obtain ⟨r0,fr0,r1,fr1⟩:=Hr.out.g2
 replace Hb:=bnx Hb hbn;clear hbn
 go_wp2
 refine bodyPost_ret (v:=intV (iv (!s) l)) (by simp [results,Tryz.results115,go_sem,r0,r1]) rfl ⟨rfl,?_⟩
 (repeat first | exact Hb.out | (refine Below.setCell ?_ (by have:=Hb.out.size;first | (dsimp only;omega) | (show _ <= _;omega) | (simp<;>omega)) _) | (refine Below.alloc ?_ (by have:=Hb.out.size;simp<;>omega) _) | refine Below.drew ?_)
def intC (x : Bool × List UInt8) : List Value:=[.bool x.1,.string (bs x.2)]
def isum (xs : List (Bool × List UInt8)) : Int:=(xs.map fun x=>iv x.1 x.2).sum
theorem isum_take (xs : List (Bool × List UInt8)) (k : Nat) (hk : k < xs.length) : isum (xs.take (k + 1)) = isum (xs.take k) + iv xs[k].1 xs[k].2:=by
 unfold isum
 rw [List.take_succ_eq_append_getElem hk,List.map_append,List.sum_append]
 simp
theorem isum_lt (xs : List (Bool × List UInt8)) (B : Nat) (h : ∀ x ∈ xs,x.2.length <= B) : (isum xs).natAbs <= xs.length * 256 ^ B:=by
 unfold isum
 induction xs with
 | nil=>simp
 | cons x xs ih =>
   have h1:=nv_lt x.2
   have h2 : 256 ^ x.2.length <= 256 ^ B:=Nat.pow_le_pow_right (by decide) (h x (by simp))
   have h3:=ih (fun m hm=>h m (by simp [hm]))
   have h4:=iv_abs x.1 x.2
   simp only [List.map_cons,List.sum_cons,List.length_cons]
   rw [Nat.add_mul,Nat.one_mul];omega
theorem isum_len' (xs : List (Bool × List UInt8)) (B N : Nat) (h : ∀ x ∈ xs,x.2.length <= B) (hx : xs.length <= 1048576) (hN : B + 3 <= N) : (nt (isum xs).natAbs).length <= N:=by
 refine nt_length_le (Nat.lt_of_le_of_lt (isum_lt xs _ h) ?_)
 refine Nat.lt_of_le_of_lt (Nat.mul_le_mul_right _ hx) ?_
 rw [show (1048576 : Nat) * 256 ^ B = 2 ^ 20 * 256 ^ B from rfl,show (256 : Nat) = 2 ^ 8 from rfl,<- Nat.pow_mul,<- Nat.pow_mul,<- Nat.pow_add]
 exact Nat.pow_lt_pow_right (by decide) (by omega)
theorem isum_len (xs : List (Bool × List UInt8)) (h : ∀ x ∈ xs,x.2.length <= 34359738368) (hx : xs.length <= 1048576) : (nt (isum xs).natAbs).length <= 68719476736:=
 isum_len' xs 34359738368 68719476736 h hx (by decide)
theorem wAdd_any (xs : List (Bool × List UInt8)) (a : Option Addr) (cap : Nat) (w : World) (hl : ∀ x ∈ xs,x.2.length <= 34359738368) (hx : xs.length <= 1048576)
 (ha : At w a (xs.flatMap intC)) :
 Calls Tryz.prog 50 #[.slice a xs.length cap] w fun e w'=>e = .returned (intV (isum xs)) /\ Below w.heap.size w w':=by
 have Hl:=lid hl;clear hl
 have Ha:=lid ha;clear ha
 have HLn : Hid (∀ k,(nt (isum (xs.take k)).natAbs).length <= 68719476736):=fun k=>isum_len _ (fun x hm=>Hl.out x (List.mem_of_mem_take hm)) (by rw [List.length_take];omega)
 go_enter Tryz.func50,Tryz.ntmps50
 have Hb : Hid (Below w.heap.size w w):=Below.refl _ _
 go_wp2_with fail
 obtain ⟨R,hR⟩ : ∃ R : World -> Prop,(fun W=>Blk W (w.heap.size) 34 [.bool false,.string (bs [])] /\ Blk W (w.heap.size + 1) 126 [.string (bs []),.bool false] /\ Below w.heap.size w W) = R:=⟨_,rfl⟩
 first | refine wp_world R ?hR ?_ | refine calls_world R ?hR ?_
 case hR=>subst hR;exact ⟨((Blk.newAt w _ _ (b:=w.heap.size) rfl).alloc _),(Blk.newAt (w.alloc _) _ _ (b:=w.heap.size + 1) (by simp)),(((Below.refl _ _).alloc (Nat.le_refl _) _).alloc (by simp<;>omega) _)⟩
 subst hR
 rintro W ⟨qr,qs,hbn⟩
 have Hr:=lid qr;clear qr
 have Hs:=lid qs;clear qs
 obtain ⟨r0,fr0,r1,fr1⟩:=Hr.out.g2
 obtain ⟨s0,fs0,s1,fs1⟩:=Hs.out.g2
 replace Hb:=bnx Hb hbn;clear hbn
 go_loopw [5,8] (fun _ i wr=>∃ (k : Nat) (t : Bool),k <= xs.length /\ i = .int .i64 k /\ iv t (nt (isum (xs.take k)).natAbs) = isum (xs.take k) /\ Blk wr w.heap.size 34 [.bool false,.string (bs [])] /\
  Blk wr (w.heap.size + 1) 126 [.string (bs (nt (isum (xs.take k)).natAbs)),.bool t] /\ Below w.heap.size w wr) (fun _ i _=>xs.length - (intOf i).toNat)
 case atStart=>exact ⟨0,false,Nat.zero_le _,rfl,rfl,Hr.out,Hs.out,Hb.out⟩
 case round=>
  obtain ⟨k,t,hk,rfl,hiv,qr,qs,hb⟩:=hrel
  have Hr:=lid qr;have Hs:=lid qs;have Hb:=lid hb;have Hiv:=lid hiv;clear qr qs hb hiv
  by_cases hlt : k < xs.length
  . obtain ⟨b,o,hab,hcs⟩:=(Ha.out.below Hb.out).elem (f:=intC) (sz:=2) (fun _=>rfl) (by decide) k hlt
    have hc0 : wr.cell? ⟨b,o + k * 2,none⟩ = some (.bool xs[k].1):=hcs 0 (by decide)
    have hc1 : wr.cell? ⟨b,o + k * 2 + 1,none⟩ = some (.string (bs xs[k].2)):=hcs 1 (by decide)
    have hix:=i123x34 xs.length cap k (k : Int) hab hlt rfl
    have Hst:=lid (isum_take xs k hlt)
    have HLx : Hid (xs[k].2.length <= 34359738368):=Hl.out _ (List.getElem_mem hlt)
    have HL1:=lid (HLn.out k)
    clear hcs hab
    generalize xs[k] = x at *
    obtain ⟨t1,l1⟩:=x
    generalize hS : isum (xs.take k) = S at *
    have HS:=lid hS;clear hS
    obtain ⟨r0,fr0,r1,fr1⟩:=Hr.out.g2
    obtain ⟨s0,fs0,s1,fs1⟩:=Hs.out.g2
    have lz_r_W1:=Hr.out.lt
    have lz_s_W1:=Hs.out.lt
    go_wp2_with fail
    obtain ⟨R,hR⟩ : ∃ R : World -> Prop,(fun W1=>Blk W1 (wr.heap.size) 34 [.bool t1,.string (bs l1)] /\ Below wr.heap.size wr W1) = R:=⟨_,rfl⟩
    first | refine wp_world R ?hR ?_ | refine calls_world R ?hR ?_
    case hR=>subst hR;exact ⟨(Blk.newAt wr _ _ (b:=wr.heap.size) rfl),((Below.refl _ _).alloc (Nat.le_refl _) _)⟩
    subst hR
    rintro W1 ⟨qa,hbn⟩
    have Ha:=lid qa;clear qa
    clear r0 fr0 r1 fr1
    replace Hr:=kB Hr hbn
    obtain ⟨r0,fr0,r1,fr1⟩:=Hr.out.g2
    clear s0 fs0 s1 fs1
    replace Hs:=kB Hs hbn
    obtain ⟨s0,fs0,s1,fs1⟩:=Hs.out.g2
    obtain ⟨a0,a1⟩:=Ha.out.c2
    replace Hb:=bnx Hb hbn;clear hbn
    go_region_with (first | (go_at_call 72;refine (wof_any l1 t1 _).mono ?_;rintro e w1 ⟨rfl,hq⟩;have hw1 : Below W1.heap.size W1 w1:=bundrew hq;clear hq;have s0_1 : w1.cell? ⟨w.heap.size + 1,0,none⟩ = some (.string (bs (nt S.natAbs))):=cell_later hw1 s0;have s1_1 : w1.cell? ⟨w.heap.size + 1,1,none⟩ = some (.bool t):=cell_later hw1 s1;have fs0_1:=(Hs.out.below hw1).free 0;have fs1_1:=(Hs.out.below hw1).free 1) | (go_at_call 71;refine (plus_any (nt S.natAbs) l1 t t1 _ HL1.out (by have:=HLx.out;omega)).mono ?_;rintro e w2 ⟨rfl,hw2⟩;have s0_2:=cell_later hw2 s0_1;have s1_2:=cell_later hw2 s1_1;have fs0_2:=((Hs.out.below hw1).below hw2).free 0;have fs1_2:=((Hs.out.below hw1).below hw2).free 1))
    all_goals
     go_wp2
     go_roundw
     case rel=>
      have hq:=psign_iv t (nt S.natAbs) t1 l1
      rw [Hiv.out,<- Hst.out] at hq
      rw [Hiv.out,<- Hst.out]
      refine ⟨k + 1,_,by omega,by go_num,hq,((((Hr.out.below hw1).below hw2).set_other ⟨w.heap.size + 1,0,none⟩ (by dsimp only;omega) _).set_other ⟨w.heap.size + 1,1,none⟩ (by dsimp only;omega) _),((((Hs.out.below hw1).below hw2).set 0 _).set 1 _),?_⟩
      exact ((bnext (bnext Hb.out hw1) hw2).setCell (by dsimp only;omega) _).setCell (by dsimp only;omega) _
     case measure=>simp [intOf];omega
  . obtain rfl : k = xs.length:=by omega
    rw [List.take_length] at Hs Hiv
    have HL1:=HLn.out xs.length
    rw [List.take_length] at HL1
    obtain ⟨r0,fr0,r1,fr1⟩:=Hr.out.g2
    obtain ⟨s0,fs0,s1,fs1⟩:=Hs.out.g2
    go_wp2_with fail
    refine (made_any (nt (isum xs).natAbs) t _ (by omega)).mono ?_
    rintro e w1 ⟨rfl,hbn⟩
    clear r0 fr0 r1 fr1
    clear s0 fs0 s1 fs1
    replace Hr:=kB Hr hbn
    replace Hs:=kB Hs hbn
    obtain ⟨r0,fr0,r1,fr1⟩:=Hr.out.g2
    obtain ⟨s0,fs0,s1,fs1⟩:=Hs.out.g2
    replace Hb:=bnx Hb hbn;clear hbn
    rw [Hiv.out]
    go_wp2
    refine bodyPost_ret (v:=intV (isum xs)) (by simp [results,Tryz.results50,go_sem,r0,r1]) rfl ⟨rfl,?_⟩
    (repeat first | exact Hb.out | (refine Below.setCell ?_ (by have:=Hb.out.size;first | (dsimp only;omega) | (show _ <= _;omega) | (simp<;>omega)) _) | (refine Below.alloc ?_ (by have:=Hb.out.size;simp<;>omega) _) | refine Below.drew ?_)
end Go.Proofs.YtidjljldhdckiaaGreatDoor
namespace Go.Proofs.YtidjljldhdckiaaGreatDoor
theorem toRat_owp (n k : Int) : (Dyadic.ofIntWithPrec n k).toRat = n * 2 ^ (-k):=Dyadic.toRat_ofIntWithPrec_eq_mul_two_pow
theorem rat2_ne : ((2 : Rat)) ≠ 0:=by decide
theorem owp_add (a b k : Int) : Dyadic.ofIntWithPrec a k + Dyadic.ofIntWithPrec b k = Dyadic.ofIntWithPrec (a + b) k:=by
 rw [<- Dyadic.toRat_inj,Dyadic.toRat_add,toRat_owp,toRat_owp,toRat_owp,Rat.intCast_add,Rat.add_mul]
theorem owp_mul (a b j k : Int) : Dyadic.ofIntWithPrec a j * Dyadic.ofIntWithPrec b k = Dyadic.ofIntWithPrec (a * b) (j + k):=by
 rw [<- Dyadic.toRat_inj,Dyadic.toRat_mul,toRat_owp,toRat_owp,toRat_owp,Rat.intCast_mul,Int.neg_add,Rat.zpow_add rat2_ne]
 grind
theorem owp_shift (a : Int) (n : Nat) (k : Int) : Dyadic.ofIntWithPrec (a * 2 ^ n) (k + n) = Dyadic.ofIntWithPrec a k:=by
 have:=@Dyadic.ofIntWithPrec_shiftLeft_add a k n
 rwa [Int.shiftLeft_eq] at this
theorem owp_neg (a k : Int) : -Dyadic.ofIntWithPrec a k = Dyadic.ofIntWithPrec (-a) k:=Dyadic.neg_ofIntWithPrec
theorem owp_zero (k : Int) : Dyadic.ofIntWithPrec 0 k = 0:=Dyadic.ofIntWithPrec_zero
abbrev Raw:=Bool × List UInt8 × Int
def dval (x : Raw) : Dyadic:=Dyadic.ofIntWithPrec (iv x.1 x.2.1) (-x.2.2)
def dN : Dyadic -> Int
 | .zero=>0
 | .ofOdd n _ _=>n
def dE : Dyadic -> Int
 | .zero=>0
 | .ofOdd _ k _=>-k
def canon (d : Dyadic) : Raw:=(sgnB (dN d),nt (dN d).natAbs,dE d)
theorem dval_canon (d : Dyadic) : dval (canon d) = d:=by
 unfold dval canon
 simp only [iv_int]
 cases d with
 | zero=>rfl
 | ofOdd n k hn=>simp only [dN,dE,Int.neg_neg];exact (Dyadic.ofOdd_eq_ofIntWithPrec).symm
theorem dN_owp {n k : Int} (h : n ≠ 0) : dN (Dyadic.ofIntWithPrec n k) = n / 2 ^ n.trailingZeros /\ dE (Dyadic.ofIntWithPrec n k) = n.trailingZeros - k:=by
 unfold Dyadic.ofIntWithPrec
 rw [dif_neg h]
 simp only [dN,dE,Int.shiftRight_eq_div_pow]
 refine ⟨by simp [Int.natCast_pow],by omega⟩
theorem dN_zero : dN 0 = 0:=rfl
theorem dE_zero : dE 0 = 0:=rfl
def Sm (B : Nat) (d : Dyadic) : Prop:=∃ m : Int,d = Dyadic.ofIntWithPrec m B /\ m.natAbs < 2 ^ (2 * B)
theorem Sm.zero (B : Nat) : Sm B 0:=⟨0,(owp_zero _).symm,Nat.pow_pos (by decide)⟩
theorem Sm.mono {A B : Nat} {d : Dyadic} (h : Sm A d) (hAB : A <= B) : Sm B d:=by
 obtain ⟨m,rfl,hm⟩:=h
 obtain ⟨j,rfl⟩ : ∃ j,B = A + j:=⟨B - A,by omega⟩
 refine ⟨m * 2 ^ j,?_,?_⟩
 . rw [Int.natCast_add,owp_shift]
 . rw [Int.natAbs_mul,Int.natAbs_pow]
   have : m.natAbs * 2 ^ j < 2 ^ (2 * A) * 2 ^ j:=Nat.mul_lt_mul_of_pos_right hm (Nat.pow_pos (by decide))
   rw [<- Nat.pow_add] at this
   exact Nat.lt_of_lt_of_le this (Nat.pow_le_pow_right (by decide) (by omega))
theorem Sm.add {B : Nat} {a b : Dyadic} (ha : Sm B a) (hb : Sm B b) : Sm (B + 1) (a + b):=by
 obtain ⟨m,rfl,hm⟩:=ha
 obtain ⟨n,rfl,hn⟩:=hb
 refine ⟨(m + n) * 2 ^ 1,?_,?_⟩
 . rw [owp_add,Int.natCast_add];exact (owp_shift _ 1 _).symm
 . rw [show 2 * (B + 1) = 2 * B + 2 by omega,Nat.pow_add]
   omega
theorem Sm.neg {B : Nat} {a : Dyadic} (ha : Sm B a) : Sm B (-a):=by
 obtain ⟨m,rfl,hm⟩:=ha
 exact ⟨-m,owp_neg _ _,by omega⟩
theorem Sm.sub {B : Nat} {a b : Dyadic} (ha : Sm B a) (hb : Sm B b) : Sm (B + 1) (a - b):=ha.add hb.neg
theorem Sm.mul {A B : Nat} {a b : Dyadic} (ha : Sm A a) (hb : Sm B b) : Sm (A + B) (a * b):=by
 obtain ⟨m,rfl,hm⟩:=ha
 obtain ⟨n,rfl,hn⟩:=hb
 refine ⟨m * n,?_,?_⟩
 . rw [owp_mul,Int.natCast_add]
 . rw [Int.natAbs_mul,Nat.mul_add,Nat.pow_add]
   exact Nat.mul_lt_mul'' hm hn
theorem tz_pow_le {n : Int} (h : n ≠ 0) : 2 ^ n.trailingZeros <= n.natAbs:=by
 have hd:=Int.two_pow_trailingZeros_dvd h
 have h2 : (2 ^ n.trailingZeros : Nat) ∣ n.natAbs:=by
  have:=Int.natAbs_dvd_natAbs.2 hd
  rwa [Int.natAbs_pow] at this
 exact Nat.le_of_dvd (by omega) h2
theorem Sm.parts {B : Nat} {d : Dyadic} (h : Sm B d) : (dN d).natAbs < 2 ^ (2 * B) /\ -(B : Int) <= dE d /\ dE d <= B:=by
 obtain ⟨m,rfl,hm⟩:=h
 by_cases h0 : m = 0
 . subst h0
   rw [owp_zero,dN_zero,dE_zero]
   exact ⟨Nat.pow_pos (by decide),by omega,by omega⟩
 . obtain ⟨e1,e2⟩:=dN_owp (k:=B) h0
   have h1:=tz_pow_le h0
   have h2 : m.trailingZeros < 2 * B:=by
    rcases Nat.lt_or_ge m.trailingZeros (2 * B) with h | h
    . exact h
    . have:=Nat.pow_le_pow_right (show 0 < 2 by decide) h;omega
   rw [e1,e2]
   refine ⟨?_,by omega,by omega⟩
   obtain ⟨q,hq⟩:=Int.two_pow_trailingZeros_dvd h0
   have hp : (2 : Int) ^ m.trailingZeros ≠ 0:=by
    have : ((2 ^ m.trailingZeros : Nat) : Int) ≠ 0:=by have:=Nat.pow_pos (n:=m.trailingZeros) (show 0 < 2 by decide);omega
    simpa [Int.natCast_pow] using this
   have e3 : m / 2 ^ m.trailingZeros = q:=by
    conv=>lhs;lhs;rw [hq]
    exact Int.mul_ediv_cancel_left _ hp
   rw [e3]
   have e4 : m.natAbs = 2 ^ m.trailingZeros * q.natAbs:=by
    conv=>lhs;rw [hq]
    rw [Int.natAbs_mul,Int.natAbs_pow];rfl
   have:=Nat.pow_pos (n:=m.trailingZeros) (show 0 < 2 by decide)
   have : q.natAbs <= 2 ^ m.trailingZeros * q.natAbs:=Nat.le_mul_of_pos_left _ this
   omega
def Ok (x : Raw) : Prop:=x.2.1.length <= 268435456 /\ -268435456 <= x.2.2 /\ x.2.2 <= 268435456
theorem len_of_bits {n k N : Nat} (h : n < 2 ^ k) (hN : k <= 8 * N) : (nt n).length <= N:=
 nt_length_le (Nat.lt_of_lt_of_le h (by rw [show (256 : Nat) = 2 ^ 8 by rfl,<- Nat.pow_mul];exact Nat.pow_le_pow_right (by decide) hN))
theorem Sm.ok {B : Nat} {d : Dyadic} (h : Sm B d) (hB : B <= 268435456) : Ok (canon d):=by
 obtain ⟨h1,h2,h3⟩:=h.parts
 exact ⟨len_of_bits h1 (by omega),by show -268435456 <= dE d;omega,by show dE d <= 268435456;omega⟩
theorem Sm.raw {x : Raw} {B : Nat} (hl : 8 * x.2.1.length <= B) (h1 : -(B : Int) <= x.2.2) (h2 : x.2.2 <= B) : Sm (2 * B) (dval x):=by
 unfold dval
 obtain ⟨j,hj⟩ : ∃ j : Nat,x.2.2 + (2 * B : Nat) = j:=⟨(x.2.2 + (2 * B : Nat)).toNat,by omega⟩
 refine ⟨iv x.1 x.2.1 * 2 ^ j,?_,?_⟩
 . rw [<- owp_shift (iv x.1 x.2.1) j (-x.2.2)];congr 1;omega
 . rw [Int.natAbs_mul,Int.natAbs_pow,iv_abs]
   have hv:=nv_lt x.2.1
   rw [show (256 : Nat) = 2 ^ 8 by rfl,<- Nat.pow_mul] at hv
   have : nv x.2.1 * 2 ^ j < 2 ^ (8 * x.2.1.length) * 2 ^ j:=Nat.mul_lt_mul_of_pos_right hv (Nat.pow_pos (by decide))
   rw [<- Nat.pow_add] at this
   exact Nat.lt_of_lt_of_le this (Nat.pow_le_pow_right (by decide) (by omega))
theorem Ok.sm {x : Raw} (h : Ok x) : Sm 4294967296 (dval x):=Sm.raw (B:=2147483648) (by have:=h.1;omega) (by have:=h.2.1;omega) (by have:=h.2.2;omega)
def partF (g : Nat -> Nat -> Int) (k : Nat) (last : Int) (i j : Nat) : Nat -> Nat -> Int:=fun a b=>if k < a /\ k < b /\ (a < i \/ a = i /\ b < j) then numF g k a b / last else g a b
theorem partF_start (g : Nat -> Nat -> Int) (k : Nat) (last : Int) : partF g k last (k + 1) (k + 1) = g:=by
 funext a b;unfold partF
 rw [if_neg (by omega)]
theorem partF_next (g : Nat -> Nat -> Int) (k : Nat) (last : Int) (i j : Nat) (hi : k < i) (hj : k < j) : (fun a b=>if a = i /\ b = j then numF g k i j / last else partF g k last i j a b) = partF g k last i (j + 1):=by
 funext a b;unfold partF
 by_cases h : a = i /\ b = j
 . obtain ⟨rfl,rfl⟩:=h
   rw [if_pos ⟨rfl,rfl⟩,if_pos ⟨hi,hj,.inr ⟨rfl,by omega⟩⟩]
 . rw [if_neg h]
   by_cases h2 : k < a /\ k < b /\ (a < i \/ a = i /\ b < j)
   . rw [if_pos h2,if_pos ⟨h2.1,h2.2.1,by omega⟩]
   . rw [if_neg h2,if_neg (fun h3=>h2 ⟨h3.1,h3.2.1,by omega⟩)]
theorem partF_row (g : Nat -> Nat -> Int) (k : Nat) (last : Int) (i n : Nat) : ∀ a b,b < n -> partF g k last i n a b = partF g k last (i + 1) (k + 1) a b:=by
 intro a b hb;unfold partF
 by_cases h2 : k < a /\ k < b /\ (a < i \/ a = i /\ b < n)
 . rw [if_pos h2,if_pos ⟨h2.1,h2.2.1,by omega⟩]
 . rw [if_neg h2,if_neg (fun h3=>h2 ⟨h3.1,h3.2.1,by omega⟩)]
theorem partF_all (g : Nat -> Nat -> Int) (k : Nat) (last : Int) (n : Nat) : ∀ a b,a < n -> partF g k last n (k + 1) a b = stepF g k last a b:=by
 intro a b ha;unfold partF stepF
 by_cases h2 : k < a /\ k < b /\ (a < n \/ a = n /\ b < k + 1)
 . rw [if_pos h2,if_pos ⟨h2.1,h2.2.1⟩]
 . rw [if_neg h2,if_neg (fun h3=>h2 ⟨h3.1,h3.2,by omega⟩)]
theorem partF_at (g : Nat -> Nat -> Int) (k : Nat) (last : Int) (i j : Nat) : partF g k last i j i j = g i j /\ partF g k last i j k k = g k k /\ partF g k last i j i k = g i k /\ partF g k last i j k j = g k j:=by
 unfold partF
 refine ⟨if_neg (by omega),if_neg (by omega),if_neg (by omega),if_neg (by omega)⟩
theorem num_lt (g : Nat -> Nat -> Int) (k a b K : Nat) (h1 : (g a b).natAbs < 2 ^ K) (h2 : (g k k).natAbs < 2 ^ K) (h3 : (g a k).natAbs < 2 ^ K) (h4 : (g k b).natAbs < 2 ^ K) :
 (g a b * g k k).natAbs < 2 ^ (2 * K) /\ (g a k * g k b).natAbs < 2 ^ (2 * K) /\ (numF g k a b).natAbs < 2 ^ (2 * K + 1):=by
 have e : 2 ^ (2 * K) = 2 ^ K * 2 ^ K:=by rw [<- Nat.pow_add];congr 1;omega
 have m1 : (g a b * g k k).natAbs < 2 ^ K * 2 ^ K:=by rw [Int.natAbs_mul];exact Nat.mul_lt_mul'' h1 h2
 have m2 : (g a k * g k b).natAbs < 2 ^ K * 2 ^ K:=by rw [Int.natAbs_mul];exact Nat.mul_lt_mul'' h3 h4
 refine ⟨by rw [e];exact m1,by rw [e];exact m2,?_⟩
 rw [Nat.pow_succ,e]
 unfold numF
 generalize g a b * g k k = x at *
 generalize g a k * g k b = y at *
 omega
theorem div_lt (x y : Int) (M : Nat) (h : x.natAbs < M) : (x / y).natAbs < M \/ ¬ y ∣ x:=by
 by_cases hd : y ∣ x
 . left
   obtain ⟨q,rfl⟩:=hd
   by_cases hy : y = 0
   . subst hy;simp;omega
   . rw [Int.mul_ediv_cancel_left _ hy]
     rw [Int.natAbs_mul] at h
     have : 1 <= y.natAbs:=by omega
     have:=Nat.mul_le_mul_right q.natAbs this
     omega
 . right;exact hd
theorem owp_sub (a b k : Int) : Dyadic.ofIntWithPrec a k - Dyadic.ofIntWithPrec b k = Dyadic.ofIntWithPrec (a - b) k:=by
 have h : Dyadic.ofIntWithPrec a k - Dyadic.ofIntWithPrec b k = Dyadic.ofIntWithPrec a k + -Dyadic.ofIntWithPrec b k:=by grind
 rw [h,owp_neg,owp_add];rfl
theorem det_scl (n : Nat) (hn : 1 <= n) (hn4 : n <= 4) (f : Nat -> Nat -> Int) (e : Nat -> Nat -> Dyadic) (q : Int) (h : ∀ a b,a < n -> b < n -> e a b = Dyadic.ofIntWithPrec (f a b) q) :
 detD n e = Dyadic.ofIntWithPrec (bareF n n 0 f 1 false) (n * q):=by
 have hc : n = 1 \/ n = 2 \/ n = 3 \/ n = 4:=by omega
 rcases hc with rfl | rfl | rfl | rfl
 . rw [bare1];unfold detD;simp only;rw [h 0 0 (by omega) (by omega)];congr 1;omega
 . rw [bare2];unfold detD det2;simp only
   rw [h 0 0 (by omega) (by omega),h 1 1 (by omega) (by omega),h 0 1 (by omega) (by omega),h 1 0 (by omega) (by omega),owp_mul,owp_mul,owp_sub]
   congr 1;omega
 . rw [bare3];unfold detD det3;simp only
   rw [h 0 0 (by omega) (by omega),h 1 1 (by omega) (by omega),h 0 1 (by omega) (by omega),h 1 0 (by omega) (by omega),h 0 2 (by omega) (by omega),h 2 0 (by omega) (by omega),h 1 2 (by omega) (by omega),h 2 1 (by omega) (by omega),h 2 2 (by omega) (by omega)]
   simp only [owp_mul,owp_sub,owp_add]
   congr 1;omega
 . rw [bare4];unfold detD det4;simp only
   rw [h 0 0 (by omega) (by omega),h 1 1 (by omega) (by omega),h 0 1 (by omega) (by omega),h 1 0 (by omega) (by omega),h 0 2 (by omega) (by omega),h 2 0 (by omega) (by omega),h 1 2 (by omega) (by omega),h 2 1 (by omega) (by omega),h 2 2 (by omega) (by omega)]
   rw [h 0 3 (by omega) (by omega),h 1 3 (by omega) (by omega),h 2 3 (by omega) (by omega),h 3 0 (by omega) (by omega),h 3 1 (by omega) (by omega),h 3 2 (by omega) (by omega),h 3 3 (by omega) (by omega)]
   simp only [owp_mul,owp_sub,owp_add]
   congr 1;omega
theorem exactN (n : Nat) (hn : 1 <= n) (hn4 : n <= 4) (f : Nat -> Nat -> Int) : exactF n n 0 f 1:=by
 have hc : n = 1 \/ n = 2 \/ n = 3 \/ n = 4:=by omega
 rcases hc with rfl | rfl | rfl | rfl
 . exact exact1 f
 . exact exact2 f
 . exact exact3 f
 . exact exact4 f
end Go.Proofs.YtidjljldhdckiaaGreatDoor
