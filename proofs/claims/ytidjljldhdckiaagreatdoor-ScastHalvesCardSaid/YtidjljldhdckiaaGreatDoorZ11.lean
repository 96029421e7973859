/- Small facts that many walks share: numbers in memory,windows,own rows. -/
import Derived.Test.YtidjljldhdckiaaGreatDoorZ9
import Derived.Test.YtidjljldhdckiaaGreatDoorZ10
import Derived.Test.YtidjljldhdckiaaGreatDoorZ7
import Derived.Carry
import Derived.Maps.AppendAt
import Derived.Maps.OwnIn
import Derived.Maps.Own
import Derived.Maps.Views
import Derived.Maps.Keyed
import Derived.Maps.OwnSet
import Derived.Shelf.Abstract
import Derived.Shelf.RegionOpen
import Derived.OwnWalkIn
import Derived.TacticsInMore
import Derived.LoopNIn
import Derived.LoopIn
import Derived.Lib.BufferWrite
import Derived.Deep.WholeRow
import Derived.Test.YtidjljldhdckiaaGreatDoorZ5
import Derived.Test.YtidjljldhdckiaaGreatDoorZ6
set_option maxRecDepth 100000
set_option maxHeartbeats 16000000
namespace Go.Proofs.YtidjljldhdckiaaGreatDoor
open Go.RowKit
attribute [local go_sem ↓] Go.wp_at_zero Go.wp_at_succ
def hp (k : Nat) : Dyadic:=Dyadic.ofIntWithPrec 1 k
theorem hp_succ (k : Nat) : hp (k + 1) + hp (k + 1) = hp k:=by
 unfold hp
 rw [owp_add]
 exact owp_shift 1 1 k
theorem hp_zero : hp 0 = 1:=rfl
theorem hp_two : hp 1 + hp 1 = 1:=by rw [hp_succ 0,hp_zero]
theorem shift_half (D : Dyadic) (k : Nat) : dval (sgnB (dN D),nt (dN D).natAbs,dE D + -(k : Int)) = D * hp k:=by
 have h:=dval_canon D
 unfold dval canon at h
 unfold dval hp
 simp only [iv_int] at h ⊢
 conv=>rhs;rw [<- h]
 rw [owp_mul,Int.mul_one]
 congr 1;omega
theorem hp_sm (k : Nat) : Sm (k + 1) (hp k):=by
 refine ⟨2,?_,?_⟩
 . unfold hp
   rw [<- owp_shift 1 1 k];rfl
 . have : 2 ^ 2 <= 2 ^ (2 * (k + 1)):=Nat.pow_le_pow_right (by decide) (by omega)
   omega
theorem Tryz.infoN : (Tryz.prog.info? 36).map (fun i=>(i.zero,i.size,i.bytes)) = some (some (.agg #[.bool false,.string (bs []),.int .i64 0]),3,32):=by kernel_rfl
def dC (ds : List Dyadic) : List Value:=ds.flatMap fun d=>numC (canon d)
theorem dC_length (ds : List Dyadic) : (dC ds).length = ds.length * 3:=flat_length _ 3 (fun _=>rfl) ds
theorem dC_append (a b : List Dyadic) : dC (a ++ b) = dC a ++ dC b:=by unfold dC;rw [List.flatMap_append]
theorem made_nums (n : Nat) : madeCells (Value.agg #[.bool false,.string (bs []),.int .i64 0]).cells (n * 3) = (dC (List.replicate n 0)).toArray:=by
 have h : ∀ n,(List.range (n * 3)).map (fun i=>(Value.agg #[.bool false,.string (bs []),.int .i64 0]).cells[i % 3]!) = dC (List.replicate n 0):=by
  intro n
  induction n with
  | zero=>rfl
  | succ n ih =>
    rw [show (n + 1) * 3 = n * 3 + 1 + 1 + 1 by omega,List.range_succ,List.range_succ,List.range_succ,List.map_append,List.map_append,List.map_append,ih,List.replicate_succ',dC_append]
    simp only [List.map_cons,List.map_nil,List.append_assoc]
    rw [show n * 3 % 3 = 0 by omega,show (n * 3 + 1) % 3 = 1 by omega,show (n * 3 + 1 + 1) % 3 = 2 by omega]
    rfl
 apply Array.ext'
 rw [<- h n]
 simp [madeCells]
 intro a _
 rfl
theorem mk_nums (c : Int) (n : Nat) (hc : c = n) (h : n <= 1048576) (w : World) :
 (Instr.makeSlice 22 (.int .i64 c) (.int .i64 c)).run Tryz.prog w = .ok (.slice (some ⟨w.heap.size,0,none⟩) n n) (w.alloc (.cells (dC (List.replicate n 0)).toArray 36)):=by
 subst hc
 obtain ⟨i0,hi,hz0,hz1,hz2⟩:=info_parts Tryz.infoN
 rw [run_make (P:=Tryz.prog) w 22 36 i0 _ Tryz.underlying22 hi hz0 .i64 .i64 n n (by omega) (by omega) (by rw [hz2];omega) (by omega)]
 simp only [Int.toNat_natCast,hz1]
 rw [made_nums]
theorem ownsRow_chg {Y : Nat -> Prop} {W W' : World} {base : Nat} {e : TypeId} {size : Nat} {v : Value} {n : Nat} {xs : List Value} (h : W.ownsRow base e size v n xs) (hc : Chg Y W W') (hy : ∀ b,v.ownBlock = some b -> ¬ Y b) : W'.ownsRow base e size v n xs:=by
 refine ⟨h.1,?_⟩
 rcases h.2 with h1 | ⟨g,cap,cur,rfl,hb,hg,h2,h3,h4,h5⟩
 . exact .inl h1
 . exact .inr ⟨g,cap,cur,rfl,hb,(hc.block g (Array.getElem?_eq_some_iff.1 hg).1 (hy g rfl)).trans hg,h2,h3,h4,h5⟩
theorem ownsRow_at {W : World} {base : Nat} {e : TypeId} {size : Nat} {v : Value} {n : Nat} {xs : List Value} (h : W.ownsRow base e size v n xs) : ∃ a cap,v = .slice a n cap /\ At W a xs /\ ∀ b o,a = some ⟨b,o,none⟩ -> base <= b:=by
 rcases h.2 with ⟨rfl,rfl⟩ | ⟨g,cap,cur,rfl,hb,hg,h2,h3,h4,h5⟩
 . refine ⟨none,0,rfl,.inl ?_,fun b o e=>by cases e⟩
   have:=h.1;simpa using this
 . refine ⟨_,cap,rfl,.inr ⟨g,0,rfl,fun j hj=>?_⟩,fun b o e=>by cases e;exact hb⟩
   have:=h.cells (g:=g) rfl j (xs[j]) (by simp [hj])
   rw [Nat.zero_add]
   have e2 : ((⟨g,0,none⟩ : Addr).add j) = ⟨g,j,none⟩:=by simp [Addr.add];omega
   rw [e2] at this
   rw [this];simp [hj]
def Win (w : World) (b o : Nat) (cs : List Value) : Prop:=∀ j (h : j < cs.length),w.cell? ⟨b,o + j,none⟩ = some cs[j]
theorem Win.cell {w : World} {b o : Nat} {cs : List Value} (h : Win w b o cs) (j : Nat) (hj : j < cs.length) : w.cell? ⟨b,o + j,none⟩ = some cs[j]:=h j hj
theorem Win.w1 {w : World} {b o : Nat} {x0 : Value} (h : Win w b o [x0]) : w.cell? ⟨b,o,none⟩ = some x0:=h 0 (by simp)
theorem Win.w2 {w : World} {b o : Nat} {x0 x1 : Value} (h : Win w b o [x0,x1]) : w.cell? ⟨b,o,none⟩ = some x0 /\ w.cell? ⟨b,o + 1,none⟩ = some x1:=⟨h 0 (by simp),h 1 (by simp)⟩
theorem Win.w3 {w : World} {b o : Nat} {x0 x1 x2 : Value} (h : Win w b o [x0,x1,x2]) : w.cell? ⟨b,o,none⟩ = some x0 /\ w.cell? ⟨b,o + 1,none⟩ = some x1 /\ w.cell? ⟨b,o + 2,none⟩ = some x2:=⟨h 0 (by simp),h 1 (by simp),h 2 (by simp)⟩
theorem Win.w4 {w : World} {b o : Nat} {x0 x1 x2 x3 : Value} (h : Win w b o [x0,x1,x2,x3]) : w.cell? ⟨b,o,none⟩ = some x0 /\ w.cell? ⟨b,o + 1,none⟩ = some x1 /\ w.cell? ⟨b,o + 2,none⟩ = some x2 /\ w.cell? ⟨b,o + 3,none⟩ = some x3:=⟨h 0 (by simp),h 1 (by simp),h 2 (by simp),h 3 (by simp)⟩
theorem Win.below {w w' : World} {b o : Nat} {cs : List Value} (h : Win w b o cs) (hb : Below w.heap.size w w') : Win w' b o cs:=fun j hj=>cell_later hb (h j hj)
theorem kW {w w' : World} {b o : Nat} {cs : List Value} (h : Hid (Win w b o cs)) (k : Below w.heap.size w w') : Hid (Win w' b o cs):=h.out.below k
theorem Win.set_other {w : World} {b o : Nat} {cs : List Value} (h : Win w b o cs) (a : Addr) (hne : b ≠ a.block) (u : Value) : Win (w.setCell a u) b o cs:=fun j hj=>cell_set_ne hne (h j hj)
theorem Win.num {w : World} {b : Nat} {t : TypeId} {ds : List Dyadic} (h : Blk w b t (dC ds)) (i : Nat) (hi : i < ds.length) : Win w b (i * 3) [.bool (sgnB (dN ds[i])),.string (bs (nt (dN ds[i]).natAbs)),.int .i64 (dE ds[i])]:=by
 intro j hj
 have hj3 : j < 3:=hj
 rw [h.cell]
 have:=flat_get (fun d=>numC (canon d)) 3 (fun _=>rfl) ds i j hi hj3
 unfold dC
 rw [this]
 rcases j with _ | _ | _ | j
 . rfl
 . rfl
 . rfl
 . omega
theorem dC_set (ds : List Dyadic) (i : Nat) (D : Dyadic) : (((dC ds).set (i * 3) (.bool (sgnB (dN D)))).set (i * 3 + 1) (.string (bs (nt (dN D).natAbs)))).set (i * 3 + 2) (.int .i64 (dE D)) = dC (ds.set i D):=by
 induction ds generalizing i with
 | nil=>simp [dC]
 | cons x ds ih =>
   have e : ∀ y : Dyadic,∀ zs,dC (y :: zs) = .bool (sgnB (dN y)) :: .string (bs (nt (dN y).natAbs)) :: .int .i64 (dE y) :: dC zs:=fun y zs=>rfl
   cases i with
   | zero=>rw [e];rfl
   | succ i =>
     rw [List.set_cons_succ,e,e,<- ih i,show (i + 1) * 3 = i * 3 + 1 + 1 + 1 by omega]
     rfl
theorem Tab.lt {w : World} (h : Tab w) : 0 < w.heap.size:=World.block_lt_of_cell? w _ (h 0 (by decide))
theorem dC_raws (ds : List Dyadic) : dC ds = (ds.map canon).flatMap numC:=by
 unfold dC;rw [List.flatMap_map]
theorem body_world {P : Program} {fn : Func} {R : Ending -> World -> Prop} {e : Exit} {a : Act} {W : World} (S : World -> Prop) (hS : S W) (h : ∀ W',S W' -> bodyPost P fn R e a W') : bodyPost P fn R e a W:=h W hS
theorem Blk.not_row {W : World} {B : Nat} {t e : TypeId} {cs : List Value} (h : Blk W B t cs) (hte : t ≠ e) {base size k : Nat} {v : Value} {xs : List Value} (hr : W.ownsRow base e size v k xs) : some B ≠ v.ownBlock:=by
 rcases hr.2 with ⟨rfl,_⟩ | ⟨g,cap,cur,rfl,_,hgb,_⟩
 . simp [Value.ownBlock]
 . intro e'
   simp only [Value.ownBlock,Option.some.injEq] at e'
   subst e'
   have:=h.symm.trans hgb
   simp at this
   exact hte this.2
theorem Blk.row {W W' : World} {B : Nat} {t e : TypeId} {cs : List Value} (h : Blk W B t cs) (hte : t ≠ e) {base size k : Nat} {v : Value} {xs : List Value} (hr : W.ownsRow base e size v k xs) (hg : W.grownBy W' v.ownBlock) : Blk W' B t cs:=
 h.grown hg (h.not_row hte hr)
theorem ownsRow_below {W W' : World} {base : Nat} {e : TypeId} {size : Nat} {v : Value} {n : Nat} {xs : List Value} (h : W.ownsRow base e size v n xs) (hb : Below W.heap.size W W') : W'.ownsRow base e size v n xs:=by
 refine ownsRow_chg (Y:=fun _=>False) h (Chg.of_below hb) (fun _ _ h=>h)
theorem ownsRow_base {W : World} {base : Nat} {e : TypeId} {size : Nat} {v : Value} {n : Nat} {xs : List Value} (h : W.ownsRow base e size v n xs) : ∀ k,v.ownBlock = some k -> base <= k:=fun k hk=>(h.lt k hk).1
theorem win3 {w : World} {b o : Nat} {x y z : Value} (h0 : w.cell? ⟨b,o,none⟩ = some x) (h1 : w.cell? ⟨b,o + 1,none⟩ = some y) (h2 : w.cell? ⟨b,o + 2,none⟩ = some z) : Win w b o [x,y,z]:=by
 intro j hj
 rcases j with _ | _ | _ | j
 . exact h0
 . exact h1
 . exact h2
 . simp at hj;omega
theorem blk_news {W : World} {b : Nat} {t : TypeId} {cs : List Value} (h : Blk W b t cs) : ∀ j u,cs[j]? = some u -> W.cell? ((⟨b,0,none⟩ : Addr).add j) = some u:=by
 intro j u hj
 have e2 : ((⟨b,0,none⟩ : Addr).add j) = ⟨b,j,none⟩:=by simp [Addr.add];omega
 rw [e2,h.cell];exact hj
theorem At.num {W : World} {a : Option Addr} {raws : List Raw} (h : At W a (raws.flatMap numC)) (k : Nat) (hk : k < raws.length) {s : Bool} {m : List UInt8} {e : Int} (hx : raws[k] = (s,m,e)) :
 ∃ b o,a = some ⟨b,o,none⟩ /\ W.cell? ⟨b,o + k * 3,none⟩ = some (.bool s) /\ W.cell? ⟨b,o + k * 3 + 1,none⟩ = some (.string (bs m)) /\ W.cell? ⟨b,o + k * 3 + 2,none⟩ = some (.int .i64 e):=by
 obtain ⟨b,o,ha,hc⟩:=h.elem (f:=numC) (sz:=3) (fun _=>rfl) (by decide) k hk
 rw [hx] at hc
 exact ⟨b,o,ha,by simpa [numC] using hc 0 (by decide),by simpa [numC] using hc 1 (by decide),by simpa [numC] using hc 2 (by decide)⟩
theorem getD_sm {B : Nat} {cs : List Dyadic} (h : ∀ c ∈ cs,Sm B c) (k : Nat) : Sm B (cs.getD k 0):=by
 by_cases hk : k < cs.length
 . have : cs.getD k 0 = cs[k]:=by simp [hk]
   rw [this];exact h _ (List.getElem_mem hk)
 . have : cs.getD k 0 = 0:=by simp [List.getD_eq_getElem?_getD,List.getElem?_eq_none (by omega : cs.length <= k)]
   rw [this];exact Sm.zero B
def Bv (w : World) (x : Value) (n v : Nat) : Prop:=v < 2 ^ n /\ ((x = .slice none 0 0 /\ n = 0) \/ ∃ b o cap,x = .slice (some ⟨b,o,none⟩) n cap /\ n <= cap /\ ∀ j,j < n -> w.cell? ⟨b,o + j,none⟩ = some (.int .u8 (bd v j : Int)))
theorem Bv.below {w w' : World} {x : Value} {n v : Nat} (h : Bv w x n v) (hb : Below w.heap.size w w') : Bv w' x n v:=by
 refine ⟨h.1,?_⟩
 rcases h.2 with h | ⟨b,o,cap,e,h1,hc⟩
 . exact .inl h
 . exact .inr ⟨b,o,cap,e,h1,fun j hj=>cell_later hb (hc j hj)⟩
theorem Bv.of_own {w : World} {base : Nat} {e : TypeId} {x : Value} {n v : Nat} (h : w.ownsRow base e 1 x n (ubs n (bd v))) (hx : v < 2 ^ n) : Bv w x n v:=by
 refine ⟨hx,?_⟩
 rcases h.2 with ⟨rfl,rfl⟩ | ⟨g,cap,cur,rfl,hb,hg,h2,h3,h4,h5⟩
 . exact .inl ⟨rfl,rfl⟩
 . refine .inr ⟨g,0,cap,rfl,h2,fun j hj=>?_⟩
   have:=h.cells (g:=g) rfl j _ (ubs_get n (bd v) j hj)
   have e2 : ((⟨g,0,none⟩ : Addr).add j) = ⟨g,j,none⟩:=by simp [Addr.add];omega
   rw [Nat.zero_add,<- e2];exact this
theorem Bv.of_blk {w : World} {b : Nat} {t : TypeId} {n v : Nat} (h : Blk w b t (ubs n (bd v))) (hv : v < 2 ^ n) : Bv w (.slice (some ⟨b,0,none⟩) n n) n v:=
 ⟨hv,.inr ⟨b,0,n,rfl,Nat.le_refl _,fun j hj=>by rw [Nat.zero_add,h.cell,ubs_get _ _ _ hj]⟩⟩
theorem rcut_at (b o n cap v : Nat) (w : World) (hm : n <= 1099511627776) (hcap : n <= cap) (hc : ∀ j,j < n -> w.cell? ⟨b,o + j,none⟩ = some (.int .u8 (bd v j : Int))) (hv : v < 2 ^ n) :
 Calls Tryz.prog 103 #[.slice (some ⟨b,o,none⟩) n cap] w fun e w'=>e = .returned (.slice (some ⟨b,o,none⟩) (blen v) cap) /\ w = w':=by
 have Hc:=lid hc;clear hc
 have Hv:=lid hv;clear hv
 go_enter Tryz.func103,Tryz.ntmps103
 go_wp2_with fail
 go_loop [3] (fun x=>∃ k : Nat,k <= n /\ v < 2 ^ k /\ x = .int .i64 (k : Int)) (fun x=>(intOf x).toNat)
 case atStart=>exact ⟨n,Nat.le_refl _,Hv.out,rfl⟩
 case round=>
  obtain ⟨k,hk,hvk,rfl⟩:=hrel
  have Hvk:=lid hvk;clear hvk
  by_cases h0 : 0 < k
  . have hcell : w.cell? ⟨b,o + (k - 1),none⟩ = some (.int .u8 (bd v (k - 1) : Int)):=Hc.out _ (by omega)
    have hix:=i67x5 n cap (k - 1) ((k : Int) - 1) (rfl : (some ⟨b,o,none⟩ : Option Addr) = _) (by omega) (by omega)
    rw [Nat.mul_one] at hix
    by_cases hd : bd v (k - 1) = 0
    . have hd' : ((bd v (k - 1) : Int) == 0) = true:=by simp [hd]
      have Hd:=lid hd;clear hd
      go_wp2
      refine ⟨⟨k - 1,by omega,?_,by go_num⟩,by simp [intOf];omega⟩
      refine btop_zero ?_ Hd.out
      rw [show k - 1 + 1 = k by omega];exact Hvk.out
    . have hd' : ((bd v (k - 1) : Int) == 0) = false:=by simp [hd]
      have Hd:=lid hd;clear hd
      go_wp2
      go_ret
      have e : blen v = k:=by
       have:=blen_eq (v:=v) (k:=k - 1) (by rw [show k - 1 + 1 = k by omega];exact Hvk.out) (btop_pos Hd.out)
       omega
      rw [e];exact ⟨rfl,rfl⟩
  . obtain rfl : k = 0:=by omega
    go_wp2
    go_ret
    have e : blen v = 0:=by
     have:=Hvk.out;simp at this;subst this;rfl
    rw [e];exact ⟨rfl,rfl⟩
theorem rcut_nil (w : World) :
 Calls Tryz.prog 103 #[.slice none 0 0] w fun e w'=>e = .returned (.slice none 0 0) /\ w = w':=by
 go_enter Tryz.func103,Tryz.ntmps103
 go_wp2_with fail
 refine wp_loop_rounds 1 ?_
 rw [rounds_succ]
 go_wp2
 go_ret
 exact ⟨rfl,rfl⟩
def LiesV (x : Value) (lo : Nat) : Prop:=∀ b o n c,x = .slice (some ⟨b,o,none⟩) n c -> lo <= b
theorem rcut_any (x : Value) (n v : Nat) (w : World) (hm : n <= 1099511627776) (hx : Bv w x n v) :
 Calls Tryz.prog 103 #[x] w fun e w'=>(∃ y,e = .returned y /\ Bv w y (blen v) v /\ ∀ lo,LiesV x lo -> LiesV y lo) /\ w = w':=by
 have hl:=blen_le hx.1
 rcases hx.2 with ⟨rfl,rfl⟩ | ⟨b,o,cap,rfl,h1,hc⟩
 . refine (rcut_nil w).mono ?_
   rintro e w' ⟨rfl,rfl⟩
   exact ⟨⟨_,rfl,⟨blen_lt v,.inl ⟨rfl,by omega⟩⟩,fun _ h=>h⟩,rfl⟩
 . refine (rcut_at b o n cap v w hm h1 hc hx.1).mono ?_
   rintro e w' ⟨rfl,rfl⟩
   exact ⟨⟨_,rfl,⟨blen_lt v,.inr ⟨b,o,cap,rfl,by omega,fun j hj=>hc j (by omega)⟩⟩,fun lo h b' o' n' c' e=>by cases e;exact h _ _ _ _ rfl⟩,rfl⟩
theorem rtext_at (b o n cap v : Nat) (w : World) (hm : n <= 1099511627776) (hcap : n <= cap) (hc : ∀ j,j < n -> w.cell? ⟨b,o + j,none⟩ = some (.int .u8 (bd v j : Int))) (hv : v < 2 ^ n) :
 Calls Tryz.prog 81 #[.slice (some ⟨b,o,none⟩) n cap] w fun e w'=>e = .returned (.string (bs (nt v))) /\ Below w.heap.size w w':=by
 have hle:=blen_le hv
 have hcut:=rcut_at b o n cap v w hm hcap hc hv
 have hvl:=blen_lt v
 have Hfin : Hid ((List.range ((blen v + 7) / 8)).map (fun j=>UInt8.ofNat (v / 256 ^ ((blen v + 7) / 8 - 1 - j) % 256)) = nt v):=nt_range _ _ (blen_bytes v).1 (blen_bytes v).2
 generalize hL : blen v = L at *
 obtain ⟨nb,hnb⟩ : ∃ nb,(L + 7) / 8 = nb:=⟨_,rfl⟩
 have hmk:=mk_bytes (((L : Int) + 7) / 8) nb (by omega) (by omega)
 have hnI : ((L : Int) + 7) / 8 = (nb : Int):=by omega
 rw [hnI] at hmk
 rw [hnb] at Hfin
 have Hcut:=lid hcut;have Hc:=lid hc;have Hv:=lid hv;have Hvl:=lid hvl;have HL:=lid hL
 clear hcut hc hv hvl hL
 go_enter Tryz.func81,Tryz.ntmps81
 go_wp2_with fail
 refine Hcut.out.mono ?_;rintro e w' ⟨rfl,rfl⟩
 go_wp2_with fail
 go_loopw [4] (fun i wr=>∃ k : Nat,k <= L /\ i = .int .i64 (k : Int) /\ Blk wr w.heap.size 5 (ubs nb (fun j=>v % 2 ^ k / 256 ^ (nb - 1 - j) % 256)) /\ Below w.heap.size w wr) (fun i _=>L - (intOf i).toNat)
 case atStart=>
  refine ⟨0,Nat.zero_le _,rfl,?_,(Below.refl _ _).alloc (Nat.le_refl _) _⟩
  have e : ubs nb (fun j=>v % 2 ^ 0 / 256 ^ (nb - 1 - j) % 256) = ubs nb fun _=>0:=ubs_congr fun j hj=>by simp [Nat.mod_one]
  rw [e];exact Blk.new _ _ _
 case round=>
  obtain ⟨k,hk,rfl,hB,hb⟩:=hrel
  by_cases hlt : k < L
  . have hq : k / 8 < nb:=by omega
    obtain ⟨Z,hZ⟩ : ∃ Z,bd v k = Z:=⟨_,rfl⟩
    have hZ1 : Z <= 1:=by rw [<- hZ];exact bd_le v k
    have hcx : wr.cell? ⟨b,o + k,none⟩ = some (.int .u8 (Z : Int)):=by rw [<- hZ];exact cell_later hb (Hc.out _ (by omega))
    obtain ⟨A,hA⟩ : ∃ A,v % 2 ^ k / 256 ^ (k / 8) % 256 = A:=⟨_,rfl⟩
    have hcell : wr.cell? ⟨w.heap.size,nb - 1 - k / 8,none⟩ = some (.int .u8 (A : Int)):=by
     rw [hB.cell,ubs_get _ _ _ (by omega),show nb - 1 - (nb - 1 - k / 8) = k / 8 by omega,hA]
    have hfree : wr.frozen? ⟨w.heap.size,nb - 1 - k / 8,none⟩ = false:=hB.free _
    obtain ⟨hb1,hb2⟩:=byte_bit_at v k
    rw [hA,hZ] at hb1 hb2
    have hB1:=hB.set (nb - 1 - k / 8) (.int .u8 ((A + Z * 2 ^ (k % 8) : Nat) : Int))
    have hb3:=hb.setCell (p:=⟨w.heap.size,nb - 1 - k / 8,none⟩) (Nat.le_refl _) (.int .u8 ((A + Z * 2 ^ (k % 8) : Nat) : Int))
    rw [ubs_set,ubs_congr (g:=fun j=>v % 2 ^ (k + 1) / 256 ^ (nb - 1 - j) % 256) fun j hj=>by
     by_cases hj1 : j = nb - 1 - k / 8
     . subst hj1;rw [if_pos rfl,show nb - 1 - (nb - 1 - k / 8) = k / 8 by omega,hb1]
     . rw [if_neg hj1,byte_bit_other v k _ (by omega)]] at hB1
    have Hend:=lid hB1;have Hb:=lid hb3
    clear hB hb hB1 hb3 hb1 hA hZ
    have He : Hid ((((A : Int) + (Z : Int) * 2 ^ (k % 8)) % 256) = ((A + Z * 2 ^ (k % 8) : Nat) : Int)):=by
     show _ = _
     have : ((Z : Int) * 2 ^ (k % 8)) = ((Z * 2 ^ (k % 8) : Nat) : Int):=by simp
     rw [this];omega
    clear hb2
    go_wp2
    go_region
    go_wp2
    go_roundw
    case rel=>
     rw [He.out]
     exact ⟨k + 1,by omega,by go_num,Hend.out,Hb.out.drew⟩
    case measure=>simp [intOf];omega
  . obtain rfl : k = L:=by omega
    rw [Nat.mod_eq_of_lt Hvl.out] at hB
    have hconv:=to_string hB nb
    rw [Hfin.out] at hconv
    have Hb:=lid hb;clear hb hB
    go_wp2
    go_ret
    exact ⟨rfl,Hb.out⟩
theorem rtext_nil (w : World) :
 Calls Tryz.prog 81 #[.slice none 0 0] w fun e w'=>e = .returned (.string (bs [])) /\ Below w.heap.size w w':=by
 have hmk:=mk_bytes 0 0 rfl (by omega)
 have hconv:=to_string (Blk.new w 5 (ubs 0 fun _=>0)) 0
 go_enter Tryz.func81,Tryz.ntmps81
 go_wp2_with fail
 refine (rcut_nil w).mono ?_;rintro e w' ⟨rfl,rfl⟩
 go_wp2_with fail
 refine wp_loop_rounds 1 ?_
 rw [rounds_succ]
 go_wp2
 go_ret
 exact ⟨rfl,(Below.refl _ _).alloc (Nat.le_refl _) _⟩
theorem rtext_any (x : Value) (n v : Nat) (w : World) (hm : n <= 1099511627776) (hx : Bv w x n v) :
 Calls Tryz.prog 81 #[x] w fun e w'=>e = .returned (.string (bs (nt v))) /\ Below w.heap.size w w':=by
 rcases hx.2 with ⟨rfl,rfl⟩ | ⟨b,o,cap,rfl,h1,hc⟩
 . have h0:=hx.1
   obtain rfl : v = 0:=by simpa using h0
   exact rtext_nil w
 . exact rtext_at b o n cap v w hm h1 hc hx.1
theorem ubs_one (n : Nat) (f : Nat -> Nat) : ubs (n + 1) f = ubs n f ++ [.int .u8 (f n : Int)]:=by
 unfold ubs;rw [List.range_succ,List.map_append];rfl
theorem rof_any (N : Nat) (w : World) (hN : N < WW) :
 Calls Tryz.prog 63 #[.int .u64 (N : Int)] w fun e w'=>e = .returned (.string (bs (nt N))) /\ Below w.heap.size w w':=by
 obtain ⟨i0,hi,hz0,hz1,hz2⟩:=info_parts Tryz.infoB
 have hNb : blen N <= 64:=blen_le (by rw [WW_two] at hN;exact hN)
 have hW:=WW_def
 go_enter Tryz.func63,Tryz.ntmps63
 go_wp2_with fail
 go_loopw [0,3] (fun u v wr=>∃ k : Nat,k <= blen N /\ u = .int .u64 ((N / 2 ^ k : Nat) : Int) /\ wr.ownsRow w.heap.size 5 1 v k (ubs k (bd N)) /\ Below w.heap.size w wr) (fun u _ _=>(intOf u).toNat)
 case atStart=>exact ⟨0,Nat.zero_le _,by simp,World.ownsRow_nil _ _ _ _,Below.refl _ _⟩
 case round=>
  obtain ⟨k,hk,rfl,hown,hb⟩:=hrel
  obtain ⟨M,hM⟩ : ∃ M,N / 2 ^ k = M:=⟨_,rfl⟩
  have hMl : M < 18446744073709551616:=by
   have:=Nat.div_le_self N (2 ^ k);omega
  have HM:=lid hM
  rw [hM]
  have hM2 : N / 2 ^ (k + 1) = M / 2:=by rw [Nat.pow_succ,<- Nat.div_div_eq_div_mul,hM]
  have hbd : bd N k = M % 2:=by unfold bd;rw [hM]
  have HM2:=lid hM2;have Hbd:=lid hbd
  clear hM hM2 hbd hW hN
  by_cases h0 : 0 < M
  . have h01 : (0 : Int) < (M : Int):=by omega
    have hkl : k < blen N:=by
     rcases Nat.lt_or_ge k (blen N) with h | h
     . exact h
     . have h1 : N < 2 ^ k:=Nat.lt_of_lt_of_le (blen_lt N) (Nat.pow_le_pow_right (by decide) h)
       have:=HM.out;rw [Nat.div_eq_of_lt h1] at this;omega
    have hs0:=hb.size
    have Hown:=lid hown;clear hown
    go_wp2_with (first | (at_builtin;refine wpList_append_own _ rfl _ _ 67 rfl w.heap.size 5 i0 (.int .u8 0) 1 1 Tryz.underlying67 hi hz0 hz1 hz2 rfl (by decide) _ _ _ rfl (Hown.out.alloc _) ⟨wr.heap.size,0,none⟩ 1 1 [.int .u8 ((M : Int) % 2)] rfl rfl (cell_one_new _ _ _) (by simp [Value.oneCell']) (by simp [maxLen];omega) (by omega) (by simp;omega) ?_;intro v' w1 ho hg _;have Ho:=lid ho;have Hg:=lid hg;clear ho hg))
    go_roundw
    case rel=>
     refine ⟨k + 1,by omega,?_,?_,?_⟩
     . rw [HM2.out];go_num
     . rw [ubs_one,Hbd.out]
       have e : ((M % 2 : Nat) : Int) = (M : Int) % 2:=by omega
       rw [e];exact Ho.out
     . exact (hb.alloc hs0 _).grown Hg.out (by simp;omega) (fun j e=>ownsRow_base Hown.out j e)
    case measure=>simp [intOf];omega
  . obtain rfl : M = 0:=by omega
    have hkN : N < 2 ^ k:=by
     have:=HM.out
     exact (Nat.div_eq_zero_iff_lt (Nat.pow_pos (by decide))).1 this
    have Hbv:=lid (Bv.of_own hown hkN);have Hb:=lid hb
    clear hown hkN hb
    go_wp2_with fail
    refine (rtext_any u3 k N wr (by omega) Hbv.out).mono ?_
    rintro e w2 ⟨rfl,hb2⟩
    have Hb2:=lid hb2;clear hb2
    go_wp2
    go_ret
    exact ⟨rfl,bnext Hb.out Hb2.out⟩
theorem and_one8 (a : Nat) (ha : a < 256) : bits .and .u8 (a : Int) 1 = ((a % 2 : Nat) : Int):=by
 have h1 : (BitVec.ofInt 8 (a : Int)).toNat = a:=by
  rw [BitVec.ofInt_natCast,BitVec.toNat_ofNat];exact Nat.mod_eq_of_lt (by omega)
 show IntKind.u8.wrap ((BitVec.ofInt 8 (a : Int) &&& BitVec.ofInt 8 1).toNat : Int) = _
 rw [BitVec.toNat_and,h1,show (BitVec.ofInt 8 1).toNat = 1 from rfl,Nat.and_one_is_mod,IntKind.wrap_u8]
 omega
theorem rbits_any (l : List UInt8) (w : World) (hl : l.length <= 68719476736) :
 Calls Tryz.prog 82 #[.string (bs l)] w fun e w'=>(∃ y,e = .returned y /\ Bv w' y (blen (nv l)) (nv l)) /\ Below w.heap.size w w':=by
 obtain ⟨i0,hi,hz0,hz1,hz2⟩:=info_parts Tryz.infoB
 have hsz : (bs l).size = l.length:=bs_size l
 go_enter Tryz.func82,Tryz.ntmps82
 go_wp2_with fail
 go_loopw [3,4,5] (fun v i _ wr=>∃ m : Nat,m <= l.length /\ i = .int .i64 ((l.length : Int) - 1 - (m : Int)) /\ wr.ownsRow w.heap.size 5 1 v (8 * m) (ubs (8 * m) (bd (nv l))) /\ Below w.heap.size w wr) (fun _ i _ _=>(intOf i + 1).toNat)
 case atStart=>exact ⟨0,Nat.zero_le _,by go_num,World.ownsRow_nil _ _ _ _,Below.refl _ _⟩
 case round=>
  obtain ⟨m,hm,rfl,hown,hb⟩:=hrel
  have Hown:=lid hown;have Hb:=lid hb;clear hown hb
  by_cases hlt : m < l.length
  . have hge : (m : Int) <= (l.length : Int) - 1:=by omega
    have hidx:=idx_bs l ((l.length : Int) - 1 - (m : Int)) (l.length - 1 - m) (by omega) (by omega)
    have Hbit : Hid (∀ k,k < 8 -> l[l.length - 1 - m].toNat / 2 ^ k % 2 = bd (nv l) (8 * m + k)):=fun k hk=>nv_bit l m k hlt hk
    have hC:=(l[l.length - 1 - m]'(by omega)).toNat_lt
    generalize hCe : l[l.length - 1 - m].toNat = C at *
    clear hCe
    go_wp2_with fail
    go_loopw [3,5] (fun v j wr=>∃ k : Nat,k <= 8 /\ j = .int .i64 (k : Int) /\ wr.ownsRow w.heap.size 5 1 v (8 * m + k) (ubs (8 * m + k) (bd (nv l))) /\ Below w.heap.size w wr) (fun _ j _=>8 - (intOf j).toNat)
    case atStart=>exact ⟨0,Nat.zero_le _,rfl,Hown.out,Hb.out⟩
    case round=>
     clear Hown Hb
     obtain ⟨k,hk,rfl,hown,hb⟩:=hrel
     have Hown:=lid hown;have Hb:=lid hb;have hs0:=hb.size;clear hown hb
     by_cases hk8 : k < 8
     . obtain ⟨Z,hZ⟩ : ∃ Z,C / 2 ^ k % 2 = Z:=⟨_,rfl⟩
       have hbk:=Hbit.out k hk8
       rw [hZ] at hbk
       have Hbk:=lid hbk;clear hbk
       have hand : bits .and .u8 ((C : Int) / 2 ^ k) 1 = (Z : Int):=by
        have e : (C : Int) / 2 ^ k = ((C / 2 ^ k : Nat) : Int):=by simp
        have:=Nat.div_le_self C (2 ^ k)
        rw [e,and_one8 _ (by omega),hZ]
       clear hZ
       go_wp2_with (first | (at_builtin;refine wpList_append_own _ rfl _ _ 67 rfl w.heap.size 5 i0 (.int .u8 0) 1 1 Tryz.underlying67 hi hz0 hz1 hz2 rfl (by decide) _ _ _ rfl (Hown.out.alloc _) ⟨wr.heap.size,0,none⟩ 1 1 [.int .u8 (Z : Int)] rfl rfl (cell_one_new _ _ _) (by simp [Value.oneCell']) (by simp [maxLen];omega) (by omega) (by simp;omega) ?_;intro v' w1 ho hg _;have Ho:=lid ho;have Hg:=lid hg;clear ho hg))
       go_roundw
       case rel=>
        refine ⟨k + 1,by omega,?_,?_,?_⟩
        . go_num
        . rw [<- Nat.add_assoc,ubs_one,<- Hbk.out];exact Ho.out
        . exact (Hb.out.alloc hs0 _).grown Hg.out (by simp;omega) (fun j e=>ownsRow_base Hown.out j e)
       case measure=>simp [intOf];omega
     . obtain rfl : k = 8:=by omega
       go_wp2
       go_roundw
       case rel=>exact ⟨m + 1,by omega,by go_num,Hown.out,Hb.out⟩
       case measure=>simp [intOf];omega
  . obtain rfl : m = l.length:=by omega
    have Hbv:=lid (Bv.of_own Hown.out (nv_bits l))
    clear hlt
    go_wp2_with fail
    refine (rcut_any u3 (8 * l.length) (nv l) wr (by omega) Hbv.out).mono ?_
    rintro e w2 ⟨⟨y,rfl,hy,_⟩,rfl⟩
    have Hy:=lid hy;clear hy
    go_wp2
    go_ret
    exact ⟨⟨_,rfl,Hy.out⟩,Hb.out⟩
theorem rbit_any (x : Value) (n v i : Nat) (w : World) (hx : Bv w x n v) (hi : i <= 1099511627776) (hn : n <= 1099511627776) :
 Calls Tryz.prog 127 #[x,.int .i64 (i : Int)] w fun e w'=>e = .returned (.int .u8 (bd v i : Int)) /\ w = w':=by
 obtain ⟨hv,h⟩:=hx
 by_cases hlt : i < n
 . rcases h with ⟨rfl,h0⟩ | ⟨b,o,cap,rfl,h1,hc⟩
   . omega
   . have hcell:=hc i hlt
     have hix:=i67x5 n cap i (i : Int) (rfl : (some ⟨b,o,none⟩ : Option Addr) = _) hlt rfl
     rw [Nat.mul_one] at hix
     clear hc hv
     go_enter Tryz.func127,Tryz.ntmps127
     go_wp2
     go_ret
     exact ⟨rfl,rfl⟩
 . have h0 : bd v i = 0:=bd_of_lt hv (by omega)
   have H0:=lid h0
   clear h0 hv
   rcases h with ⟨rfl,h0⟩ | ⟨b,o,cap,rfl,h1,hc⟩
   . subst h0
     go_enter Tryz.func127,Tryz.ntmps127
     go_wp2
     go_ret
     exact ⟨by rw [H0.out];rfl,rfl⟩
   . clear hc
     go_enter Tryz.func127,Tryz.ntmps127
     go_wp2
     go_ret
     exact ⟨by rw [H0.out];rfl,rfl⟩
theorem Bv.len {w : World} {x : Value} {n v : Nat} (h : Bv w x n v) : ∃ a cap,x = .slice a n cap:=by
 rcases h.2 with ⟨rfl,rfl⟩ | ⟨b,o,cap,rfl,_⟩
 . exact ⟨_,_,rfl⟩
 . exact ⟨_,_,rfl⟩
theorem rcmp_any (x y : Value) (n m v u : Nat) (w : World) (hx : Bv w x n v) (hy : Bv w y m u) (hn : n <= 1099511627776) (hm : m <= 1099511627776) :
 Calls Tryz.prog 104 #[x,y] w fun e w'=>e = .returned (.int .i64 (cmpI v u)) /\ w = w':=by
 obtain ⟨a,cap,hxe⟩:=hx.len
 obtain ⟨a',cap',hye⟩:=hy.len
 have hbx:=fun i (hi : i <= 1099511627776)=>rbit_any x n v i w hx hi hn
 have hby:=fun i (hi : i <= 1099511627776)=>rbit_any y m u i w hy hi hm
 have hv:=hx.1;have hu:=hy.1
 subst hxe;subst hye
 have Hbx:=lid hbx;have Hby:=lid hby;have Hv:=lid hv;have Hu:=lid hu
 clear hbx hby hv hu hx hy
 obtain ⟨M,hM⟩ : ∃ M,max n m = M:=⟨_,rfl⟩
 have hMI : max (n : Int) (m : Int) = (M : Int):=by omega
 have Hst : Hid (v / 2 ^ M = u / 2 ^ M):=by
  show _ = _
  rw [Nat.div_eq_of_lt (Nat.lt_of_lt_of_le Hv.out (Nat.pow_le_pow_right (by decide) (by omega))),Nat.div_eq_of_lt (Nat.lt_of_lt_of_le Hu.out (Nat.pow_le_pow_right (by decide) (by omega)))]
 have hMl : M <= 1099511627776:=by omega
 clear hM
 go_enter Tryz.func104,Tryz.ntmps104
 go_wp2_with fail
 go_loop [5] (fun i=>∃ k : Nat,k <= M /\ v / 2 ^ k = u / 2 ^ k /\ i = .int .i64 ((k : Int) - 1)) (fun i=>(intOf i + 1).toNat)
 case atStart=>exact ⟨M,Nat.le_refl _,Hst.out,rfl⟩
 case round=>
  obtain ⟨k,hk,hvk,rfl⟩:=hrel
  have Hvk:=lid hvk;clear hvk
  by_cases h0 : 0 < k
  . obtain ⟨j,rfl⟩ : ∃ j,k = j + 1:=⟨k - 1,by omega⟩
    have hbx:=Hbx.out j (by omega);have hby:=Hby.out j (by omega)
    have Hlt:=lid (fun h=>bd_lt_of (v:=v) (u:=u) Hvk.out h)
    have Hgt:=lid (fun h=>bd_lt_of (v:=u) (u:=v) Hvk.out.symm h)
    have Heq:=lid (fun h=>bd_eq_of (v:=v) (u:=u) Hvk.out h)
    have hp1:=bd_le v j;have hq1:=bd_le u j
    generalize bd v j = p at *
    generalize bd u j = q at *
    have H1:=lid hbx;have H2:=lid hby
    clear hbx hby
    have hj : ((j + 1 : Nat) : Int) - 1 = (j : Int):=by omega
    rw [hj]
    clear hj h0
    go_wp2_with fail
    refine H1.out.mono ?_;rintro e w' ⟨rfl,rfl⟩
    go_wp2_with fail
    refine H2.out.mono ?_;rintro e w' ⟨rfl,rfl⟩
    by_cases hpq : p < q
    . have hpq' : (p : Int) < (q : Int):=by omega
      go_wp2
      go_ret
      have:=Hlt.out hpq
      exact ⟨by unfold cmpI;rw [if_pos this];rfl,rfl⟩
    . have hpq' : ¬ (p : Int) < (q : Int):=by omega
      go_wp2_with fail
      refine H1.out.mono ?_;rintro e w' ⟨rfl,rfl⟩
      go_wp2_with fail
      refine H2.out.mono ?_;rintro e w' ⟨rfl,rfl⟩
      by_cases hqp : q < p
      . have hqp' : (q : Int) < (p : Int):=by omega
        go_wp2
        go_ret
        have:=Hgt.out hqp
        exact ⟨by unfold cmpI;rw [if_neg (by omega),if_pos this];rfl,rfl⟩
      . have hqp' : ¬ (q : Int) < (p : Int):=by omega
        go_wp2
        refine ⟨⟨j,by omega,Heq.out (by omega),by go_num⟩,by simp [intOf]⟩
  . obtain rfl : k = 0:=by omega
    have he : v = u:=by simpa using Hvk.out
    go_wp2
    go_ret
    exact ⟨by unfold cmpI;rw [if_neg (by omega),if_neg (by omega)];rfl,rfl⟩
theorem rminus_any (x y : Value) (n m v u : Nat) (w : World) (hx : Bv w x n v) (hy : Bv w y m u) (hn : n <= 1099511627776) (hm : m <= 1099511627776) (huv : u <= v) :
 Calls Tryz.prog 105 #[x,y] w fun e w'=>(∃ z,e = .returned z /\ Bv w' z n (v - u) /\ LiesV z w.heap.size) /\ Below w.heap.size w w':=by
 obtain ⟨a,cap,hxe⟩:=hx.len
 obtain ⟨a',cap',hye⟩:=hy.len
 have hbx:=fun W (hW : Below w.heap.size w W) i (hi : i <= 1099511627776)=>rbit_any x n v i W (hx.below hW) hi hn
 have hby:=fun W (hW : Below w.heap.size w W) i (hi : i <= 1099511627776)=>rbit_any y m u i W (hy.below hW) hi hm
 have Hvn : Hid (v - u < 2 ^ n):=by show _ < _;have:=hx.1;omega
 subst hxe;subst hye
 have Hbx:=lid hbx;have Hby:=lid hby;have Huv:=lid huv
 clear hbx hby hx hy huv
 have hmk:=mk_bytes (n : Int) n rfl (by omega)
 go_enter Tryz.func105,Tryz.ntmps105
 go_wp2_with fail
 go_loopw [6,7,8] (fun b i _ wr=>∃ k : Nat,k <= n /\ i = .int .i64 (k : Int) /\ b = .int .u8 (bb v u k : Int) /\ Blk wr w.heap.size 5 (ubs n (fun j=>if j < k then bd (v - u) j else 0)) /\ Below w.heap.size w wr) (fun _ i _ _=>n - (intOf i).toNat)
 case atStart=>
  refine ⟨0,Nat.zero_le _,rfl,by rw [bb_zero];rfl,?_,(Below.refl _ _).alloc (Nat.le_refl _) _⟩
  have e : ubs n (fun j=>if j < 0 then bd (v - u) j else 0) = ubs n fun _=>0:=ubs_congr fun j hj=>by rw [if_neg (by omega)]
  rw [e];exact Blk.new _ _ _
 case round=>
  obtain ⟨k,hk,rfl,rfl,hB,hb⟩:=hrel
  by_cases hlt : k < n
  . have H1:=lid (Hbx.out wr hb k (by omega));have H2:=lid (Hby.out wr hb k (by omega))
    have hs:=bb_step v u k
    have hd:=bb_digit v u k Huv.out
    have hp:=bd_le v k;have hq:=bd_le u k;have hr:=bb_le v u k
    have hcell : wr.cell? ⟨w.heap.size,k,none⟩ = some (.int .u8 0):=by rw [hB.cell,ubs_get _ _ _ hlt,if_neg (by omega)];rfl
    have hfree : wr.frozen? ⟨w.heap.size,k,none⟩ = false:=hB.free _
    have hB1:=hB.set k (.int .u8 ((bd (v - u) k : Nat) : Int))
    rw [ubs_set,ubs_congr (g:=fun j=>if j < k + 1 then bd (v - u) j else 0) fun j hj=>by
     by_cases e : j = k
     . subst e;rw [if_pos rfl,if_pos (by omega)]
     . rw [if_neg e]
       by_cases e2 : j < k
       . rw [if_pos e2,if_pos (by omega)]
       . rw [if_neg e2,if_neg (by omega)]] at hB1
    have Hend:=lid hB1
    have Hb:=lid (hb.setCell (p:=⟨w.heap.size,k,none⟩) (Nat.le_refl _) (.int .u8 ((bd (v - u) k : Nat) : Int)))
    clear hB hB1 hb
    generalize bd v k = p at *
    generalize bd u k = q at *
    generalize bb v u k = r at *
    generalize bd (v - u) k = z at *
    have Hs:=lid hs;clear hs
    obtain ⟨S,hS⟩ : ∃ S,2 + p - q - r = S:=⟨_,rfl⟩
    have hS3 : S <= 3:=by omega
    have hw1 : IntKind.u8.wrap (2 + (p : Int)) = 2 + (p : Int):=by rw [IntKind.wrap_u8];omega
    have hw2 : IntKind.u8.wrap (2 + (p : Int) - (q : Int)) = 2 + (p : Int) - (q : Int):=by rw [IntKind.wrap_u8];omega
    have hw3 : IntKind.u8.wrap (2 + (p : Int) - (q : Int) - (r : Int)) = (S : Int):=by rw [IntKind.wrap_u8];omega
    have hand : bits .and .u8 (S : Int) 1 = (z : Int):=by rw [and_one8 S (by omega),<- hd];omega
    have HS:=lid hS;have Hd:=lid hd
    clear hS hd
    go_wp2_with fail
    refine H1.out.mono ?_;rintro e w' ⟨rfl,rfl⟩
    go_wp2_with fail
    refine H2.out.mono ?_;rintro e w' ⟨rfl,rfl⟩
    go_wp2
    go_roundw
    case rel=>
     refine ⟨k + 1,by omega,by go_num,?_,Hend.out,Hb.out⟩
     rw [Hs.out]
     have:=HS.out
     congr 1
     split<;>omega
    case measure=>simp [intOf];omega
  . obtain rfl : k = n:=by omega
    rw [ubs_congr (g:=bd (v - u)) fun j hj=>by rw [if_pos hj]] at hB
    have Hz:=lid (Bv.of_blk hB Hvn.out);have Hb:=lid hb
    clear hB hb
    go_wp2
    go_ret
    exact ⟨⟨_,rfl,Hz.out,fun b o n' c e=>by cases e;exact Nat.le_refl _⟩,Hb.out⟩
end Go.Proofs.YtidjljldhdckiaaGreatDoor
namespace Go.Proofs.YtidjljldhdckiaaGreatDoor
def sumTo (f : Nat -> Dyadic) : Nat -> Dyadic
 | 0=>0
 | n + 1=>sumTo f n + f n
theorem sumTo_congr {f g : Nat -> Dyadic} (n : Nat) (h : ∀ k,k < n -> f k = g k) : sumTo f n = sumTo g n:=by
 induction n with
 | zero=>rfl
 | succ n ih=>rw [sumTo,sumTo,ih (fun k hk=>h k (by omega)),h n (by omega)]
theorem sumTo_add (f g : Nat -> Dyadic) (n : Nat) : sumTo (fun k=>f k + g k) n = sumTo f n + sumTo g n:=by
 induction n with
 | zero=>simp only [sumTo];grind
 | succ n ih=>simp only [sumTo,ih];grind
theorem sumTo_sub (f g : Nat -> Dyadic) (n : Nat) : sumTo (fun k=>f k - g k) n = sumTo f n - sumTo g n:=by
 induction n with
 | zero=>simp only [sumTo];grind
 | succ n ih=>simp only [sumTo,ih];grind
theorem sumTo_mul (c : Dyadic) (f : Nat -> Dyadic) (n : Nat) : sumTo (fun k=>c * f k) n = c * sumTo f n:=by
 induction n with
 | zero=>simp only [sumTo];grind
 | succ n ih=>simp only [sumTo,ih];grind
theorem sumTo_zero (n : Nat) : sumTo (fun _=>0) n = 0:=by
 induction n with
 | zero=>rfl
 | succ n ih=>rw [sumTo,ih];grind
theorem sumTo_swap (f : Nat -> Nat -> Dyadic) (m n : Nat) : sumTo (fun j=>sumTo (fun k=>f j k) n) m = sumTo (fun k=>sumTo (fun j=>f j k) m) n:=by
 induction m with
 | zero=>simp only [sumTo,sumTo_zero]
 | succ m ih=>simp only [sumTo,ih,sumTo_add]
theorem sumTo_first (f : Nat -> Dyadic) (n : Nat) : sumTo f (n + 1) = f 0 + sumTo (fun k=>f (k + 1)) n:=by
 induction n with
 | zero=>simp only [sumTo];grind
 | succ n ih=>rw [sumTo,ih,sumTo];grind
theorem ite_succ {α : Type} (i n : Nat) (h : n ≠ i) (a b : α) : (if i < n + 1 then a else b) = if i < n then a else b:=by
 by_cases h1 : i < n
 . rw [if_pos h1,if_pos (by omega)]
 . rw [if_neg h1,if_neg (by omega)]
theorem sumTo_two (D : Nat -> Dyadic) (i j : Nat) (hij : i ≠ j) (n : Nat) (h : ∀ k,k ≠ i -> k ≠ j -> D k = 0) :
 sumTo D n = (if i < n then D i else 0) + (if j < n then D j else 0):=by
 induction n with
 | zero=>simp only [sumTo,Nat.not_lt_zero,if_false];grind
 | succ n ih =>
   rw [sumTo,ih]
   by_cases h1 : n = i
   . subst h1
     rw [ite_succ j n hij,if_neg (Nat.lt_irrefl n),if_pos (Nat.lt_succ_self n)];grind
   . by_cases h2 : n = j
     . subst h2
       rw [ite_succ i n (fun e=>hij e.symm),if_neg (Nat.lt_irrefl n),if_pos (Nat.lt_succ_self n)];grind
     . rw [ite_succ i n h1,ite_succ j n h2,h n h1 h2];grind
theorem sumTo_pair {f g : Nat -> Dyadic} (i j n : Nat) (hij : i ≠ j) (hi : i < n) (hj : j < n) (h : ∀ k,k < n -> k ≠ i -> k ≠ j -> f k = g k) (h2 : f i + f j = g i + g j) : sumTo f n = sumTo g n:=by
 have h3:=sumTo_two (fun k=>if k < n then f k - g k else 0) i j hij n (fun k h1 h2=>by
  split
  . rename_i hk;rw [h k hk h1 h2];grind
  . rfl)
 rw [if_pos hi,if_pos hj,if_pos hi,if_pos hj] at h3
 rw [sumTo_congr (g:=fun k=>f k - g k) n (fun k hk=>by rw [if_pos hk]),sumTo_sub] at h3
 grind
def ch : Nat -> Nat -> Nat
 | _,0=>1
 | 0,_ + 1=>0
 | n + 1,k + 1=>ch n k + ch n (k + 1)
theorem ch_big (n k : Nat) (h : n < k) : ch n k = 0:=by
 induction n generalizing k with
 | zero=>cases k with
   | zero=>omega
   | succ k=>rfl
 | succ n ih=>cases k with
   | zero=>omega
   | succ k=>rw [ch,ih k (by omega),ih (k + 1) (by omega)]
theorem ch_zero (n : Nat) : ch n 0 = 1:=by cases n<;>rfl
def chD (n k : Nat) : Dyadic:=Dyadic.ofIntWithPrec (ch n k : Nat) 0
theorem chD_zero (n : Nat) : chD n 0 = 1:=by unfold chD;rw [ch_zero];rfl
theorem chD_big (n k : Nat) (h : n < k) : chD n k = 0:=by unfold chD;rw [ch_big n k h];exact owp_zero 0
theorem chD_succ (n k : Nat) : chD (n + 1) (k + 1) = chD n k + chD n (k + 1):=by
 unfold chD;rw [owp_add,ch];simp
theorem pascal (F : Nat -> Dyadic) (a : Nat) : sumTo (fun t=>chD (a + 1) t * F t) (a + 2) = sumTo (fun t=>chD a t * (F t + F (t + 1))) (a + 1):=by
 rw [sumTo_first,sumTo_congr (g:=fun k=>chD a k * F (k + 1) + chD a (k + 1) * F (k + 1)) (a + 1) (fun k _=>by rw [chD_succ];grind),sumTo_add]
 rw [sumTo_congr (f:=fun t=>chD a t * (F t + F (t + 1))) (g:=fun k=>chD a k * F k + chD a k * F (k + 1)) (a + 1) (fun k _=>by grind),sumTo_add]
 rw [sumTo_first (fun k=>chD a k * F k),chD_zero,chD_zero]
 have e : sumTo (fun k=>chD a (k + 1) * F (k + 1)) (a + 1) = sumTo (fun k=>chD a (k + 1) * F (k + 1)) a:=by
  rw [sumTo,chD_big a (a + 1) (by omega)];grind
 rw [e];grind
def inc (x : List Nat) (k : Nat) : List Nat:=x.set k (x.getD k 0 + 1)
def mv (x : List Nat) (i j t : Nat) : List Nat:=(x.set i (x.getD i 0 - t)).set j (x.getD j 0 + t)
theorem inc_length (x : List Nat) (k : Nat) : (inc x k).length = x.length:=by simp [inc]
theorem mv_length (x : List Nat) (i j t : Nat) : (mv x i j t).length = x.length:=by simp [mv]
theorem getD_set (x : List Nat) (i k v : Nat) (hi : i < x.length) : (x.set i v).getD k 0 = if i = k then v else x.getD k 0:=by
 rw [List.getD_eq_getElem?_getD,List.getD_eq_getElem?_getD,List.getElem?_set]
 by_cases h : i = k
 . rw [if_pos h,if_pos h,if_pos hi];rfl
 . rw [if_neg h,if_neg h]
theorem getD_inc (x : List Nat) (k l : Nat) (hk : k < x.length) : (inc x k).getD l 0 = if k = l then x.getD l 0 + 1 else x.getD l 0:=by
 unfold inc;rw [getD_set _ _ _ _ hk];split
 . rename_i h;rw [h]
 . rfl
theorem getD_mv (x : List Nat) (i j t l : Nat) (_hij : i ≠ j) (hi : i < x.length) (hj : j < x.length) : (mv x i j t).getD l 0 = if j = l then x.getD l 0 + t else if i = l then x.getD l 0 - t else x.getD l 0:=by
 unfold mv;rw [getD_set _ _ _ _ (by simpa using hj),getD_set _ _ _ _ hi]
 by_cases h : j = l
 . rw [if_pos h,if_pos h,h]
 . rw [if_neg h,if_neg h]
   by_cases h2 : i = l
   . rw [if_pos h2,if_pos h2,h2]
   . rw [if_neg h2,if_neg h2]
theorem ext_getD {x y : List Nat} (hl : x.length = y.length) (h : ∀ l,l < x.length -> x.getD l 0 = y.getD l 0) : x = y:=by
 apply List.ext_getElem hl
 intro l h1 h2
 have:=h l h1
 simpa [h1,h2] using this
def halfG (i j : Nat) (g : List Nat -> Dyadic) (x : List Nat) : Dyadic:=sumTo (fun t=>chD (x.getD i 0) t * hp (x.getD j 0 + t) * g (mv x i j t)) (x.getD i 0 + 1)
end Go.Proofs.YtidjljldhdckiaaGreatDoor
namespace Go.Proofs.YtidjljldhdckiaaGreatDoor
open Go.RowKit
attribute [local go_sem ↓] Go.wp_at_zero Go.wp_at_succ
theorem Tryz.infoI8 : (Tryz.prog.info? 2).map (fun i=>(i.zero,i.size,i.bytes)) = some (some (.int .i64 0),1,8):=by kernel_rfl
def ils (n : Nat) (f : Nat -> Nat) : List Value:=(List.range n).map fun j=>.int .i64 (f j : Int)
theorem ils_length (n : Nat) (f : Nat -> Nat) : (ils n f).length = n:=by simp [ils]
theorem ils_get (n : Nat) (f : Nat -> Nat) (j : Nat) (h : j < n) : (ils n f)[j]? = some (.int .i64 (f j : Int)):=by
 simp [ils,List.getElem?_range h]
theorem ils_congr {n : Nat} {f g : Nat -> Nat} (h : ∀ j,j < n -> f j = g j) : ils n f = ils n g:=by
 unfold ils
 refine List.map_congr_left fun j hj=>?_
 rw [h j (by simpa using hj)]
theorem ils_set (n : Nat) (f : Nat -> Nat) (i x : Nat) : (ils n f).set i (.int .i64 (x : Int)) = ils n (fun j=>if j = i then x else f j):=by
 apply List.ext_getElem?
 intro j
 rw [List.getElem?_set,ils_length]
 by_cases h : j < n
 . rw [ils_get _ _ _ h,ils_get _ _ _ h]
   by_cases e : i = j
   . subst e;simp [h]
   . simp [e,Ne.symm e]
 . by_cases e : i = j
   . subst e;simp [ils,h]
   . simp [e,ils,h]
theorem ils_zero (n : Nat) : List.replicate n (Value.int .i64 0) = ils n fun _=>0:=by
 apply List.ext_getElem?
 intro j
 by_cases h : j < n
 . rw [ils_get _ _ _ h];simp [h]
 . simp [ils,h]
theorem mk_i64 (c : Int) (n : Nat) (hc : c = n) (h : n <= 1099511627776) (w : World) :
 (Instr.makeSlice 89 (.int .i64 c) (.int .i64 c)).run Tryz.prog w = .ok (.slice (some ⟨w.heap.size,0,none⟩) n n) (w.alloc (.cells (ils n fun _=>0).toArray 2)):=by
 subst hc
 obtain ⟨i0,hi,hz0,hz1,hz2⟩:=info_parts Tryz.infoI8
 rw [run_make (P:=Tryz.prog) w 89 2 i0 _ Tryz.underlying89 hi hz0 .i64 .i64 n n (by omega) (by omega) (by rw [hz2];omega) (by omega)]
 simp only [Int.toNat_natCast,hz1,Nat.mul_one]
 rw [<- ils_zero,<- toList_madeCells_one]
 simp [Value.cells]
theorem ch_le (n k : Nat) : ch n k <= 2 ^ n:=by
 induction n generalizing k with
 | zero=>cases k<;>simp [ch]
 | succ n ih=>cases k with
   | zero=>rw [ch_zero];exact Nat.pow_pos (by decide)
   | succ k=>rw [ch,Nat.pow_succ];have:=ih k;have:=ih (k + 1);omega
def chMix (i k j : Nat) : Nat:=if k < j then ch (i + 1) j else ch i j
theorem chosen_any (n : Nat) (hn : n <= 20) (w : World) :
 Calls Tryz.prog 44 #[.int .i64 (n : Int)] w fun e w'=>e = .returned (.slice (some ⟨w.heap.size,0,none⟩) (n + 1) (n + 1)) /\ Blk w' w.heap.size 2 (ils (n + 1) (ch n)) /\ Below w.heap.size w w':=by
 have hmk:=mk_i64 ((n : Int) + 1) (n + 1) (by omega) (by omega)
 have h0 : (ils (n + 1) fun _=>0).set 0 (.int .i64 1) = ils (n + 1) (ch 0):=by
  have:=ils_set (n + 1) (fun _=>0) 0 1
  rw [show ((1 : Nat) : Int) = 1 from rfl] at this
  rw [this]
  refine ils_congr (fun j _=>?_)
  cases j with
  | zero=>rfl
  | succ j=>rfl
 obtain ⟨W,hW⟩ : ∃ W,(w.alloc (.cells (ils (n + 1) fun _=>0).toArray 2)).setCell ⟨w.heap.size,0,none⟩ (.int .i64 1) = W:=⟨_,rfl⟩
 have hB : Blk W w.heap.size 2 (ils (n + 1) (ch 0)):=by rw [<- hW,<- h0];exact (Blk.new w _ _).set 0 _
 have hbl : Below w.heap.size w W:=by rw [<- hW];exact ((Below.refl _ _).alloc (Nat.le_refl _) _).setCell (by simp) _
 have n0 : (w.alloc (.cells (ils (n + 1) fun _=>0).toArray 2)).cell? ⟨w.heap.size,0,none⟩ = some (.int .i64 0):=by rw [(Blk.new w _ _).cell 0,ils_get _ _ _ (by omega)];rfl
 have nf : (w.alloc (.cells (ils (n + 1) fun _=>0).toArray 2)).frozen? ⟨w.heap.size,0,none⟩ = false:=(Blk.new w _ _).free 0
 have HB:=lid hB;have Hbl:=lid hbl;clear h0 hB hbl
 go_enter Tryz.func44,Tryz.ntmps44
 go_wp2_with fail
 go_loopw [4,5,12] (fun _ _ i wr=>∃ k : Nat,k <= n /\ i = .int .i64 (k : Int) /\ Blk wr w.heap.size 2 (ils (n + 1) (ch k)) /\ Below w.heap.size w wr) (fun _ _ i _=>n - (intOf i).toNat)
 case atStart=>exact ⟨0,Nat.zero_le _,rfl,HB.out,Hbl.out⟩
 case round=>
  obtain ⟨k,hk,rfl,pB,pb⟩:=hrel
  by_cases hlt : k < n
  . go_wp2_with fail
    go_loopw [5] (fun i wr=>∃ m : Nat,m <= k + 1 /\ i = .int .i64 (m : Int) /\ Blk wr w.heap.size 2 (ils (n + 1) (chMix k m)) /\ Below w.heap.size w wr) (fun i _=>(intOf i).toNat)
    case atStart=>
     refine ⟨k + 1,Nat.le_refl _,by go_num,?_,pb⟩
     rw [ils_congr (g:=ch k) (fun j _=>?_)]
     . exact pB
     . unfold chMix
       split
       . rw [ch_big _ _ (by omega),ch_big _ _ (by omega)]
       . rfl
    case round=>
     obtain ⟨m,hm,rfl,qB,qb⟩:=hrel
     clear pB pb n0 nf
     by_cases hp : 0 < m
     . have c0 : wr.cell? ⟨w.heap.size,m,none⟩ = some (.int .i64 (ch k m : Int)):=by
        rw [qB.cell,ils_get _ _ _ (by omega)]
        unfold chMix;rw [if_neg (by omega)]
       have c1 : wr.cell? ⟨w.heap.size,m - 1,none⟩ = some (.int .i64 (ch k (m - 1) : Int)):=by
        rw [qB.cell,ils_get _ _ _ (by omega)]
        unfold chMix;rw [if_neg (by omega)]
       have fz : wr.frozen? ⟨w.heap.size,m,none⟩ = false:=qB.free _
       have l1 : ch k m <= 1048576:=Nat.le_trans (ch_le k m) (Nat.pow_le_pow_right (by decide) (show k <= 20 by omega))
       have l2 : ch k (m - 1) <= 1048576:=Nat.le_trans (ch_le k (m - 1)) (Nat.pow_le_pow_right (by decide) (show k <= 20 by omega))
       have hs : ch k m + ch k (m - 1) = ch (k + 1) m:=by
        obtain ⟨m',rfl⟩ : ∃ m',m = m' + 1:=⟨m - 1,by omega⟩
        rw [Nat.add_sub_cancel,ch];omega
       have qB2:=qB.set m (.int .i64 ((ch (k + 1) m : Nat) : Int))
       rw [ils_set,ils_congr (g:=chMix k (m - 1)) (fun j _=>by
        unfold chMix
        by_cases e : j = m
        . subst e;rw [if_pos rfl,if_pos (by omega)]
        . rw [if_neg e]
          by_cases e2 : m < j
          . rw [if_pos e2,if_pos (by omega)]
          . rw [if_neg e2,if_neg (by omega)])] at qB2
       rw [<- hs] at qB2
       have ix1:=i89x2 (n + 1) (n + 1) m (m : Int) (rfl : (some ⟨w.heap.size,0,none⟩ : Option Addr) = _) (by omega) rfl
       have ix2:=i89x2 (n + 1) (n + 1) (m - 1) ((m : Int) - 1) (rfl : (some ⟨w.heap.size,0,none⟩ : Option Addr) = _) (by omega) (by omega)
       rw [Nat.mul_one,Nat.zero_add] at ix1 ix2
       have e0 : ((ch k m + ch k (m - 1) : Nat) : Int) = (ch k m : Int) + (ch k (m - 1) : Int):=by omega
       rw [e0] at qB2
       have HqB2:=lid qB2
       clear qB2 hs e0
       generalize hA : (ch k m : Int) = A at *
       generalize hA2 : (ch k (m - 1) : Int) = A2 at *
       have b1 : 0 <= A /\ A <= 1048576:=by omega
       have b2 : 0 <= A2 /\ A2 <= 1048576:=by omega
       clear hA hA2 l1 l2
       go_wp2
       go_region
       go_wp2
       go_roundw
       case rel=>
        refine ⟨m - 1,by omega,by go_num,?_,?_⟩
        . exact HqB2.out
        . exact Below.drew (qb.setCell (by dsimp only;omega) _)
       case measure=>simp [intOf];omega
     . obtain rfl : m = 0:=by omega
       go_wp2
       go_roundw
       case rel=>
        refine ⟨k + 1,by omega,by go_num,?_,qb⟩
        rw [ils_congr (g:=chMix k 0) (fun j _=>?_)]
        . exact qB
        . unfold chMix
          split
          . rfl
          . obtain rfl : j = 0:=by omega
            rw [ch_zero,ch_zero]
       case measure=>simp [intOf];omega
  . obtain rfl : k = n:=by omega
    go_wp2
    go_ret
    exact ⟨rfl,pB,pb⟩
end Go.Proofs.YtidjljldhdckiaaGreatDoor
namespace Go.Proofs.YtidjljldhdckiaaGreatDoor
theorem sumTo_one (D : Nat -> Dyadic) (q n : Nat) (hq : q < n) (h : ∀ k,k < n -> k ≠ q -> D k = 0) : sumTo D n = D q:=by
 have key : ∀ m,m <= n -> sumTo D m = if q < m then D q else 0:=by
  intro m
  induction m with
  | zero=>intro _;simp [sumTo]
  | succ m ih =>
    intro hm
    rw [sumTo,ih (by omega)]
    by_cases h1 : m = q
    . subst h1;rw [if_neg (Nat.lt_irrefl _),if_pos (Nat.lt_succ_self _)];grind
    . rw [h m (by omega) h1]
      rw [ite_succ q m h1];grind
 rw [key n (Nat.le_refl _),if_pos hq]
theorem nodup_inj {α : Type} {l : List α} (h : l.Nodup) {i j : Nat} {hi : i < l.length} {hj : j < l.length} (e : l[i] = l[j]) : i = j:=by
 have h2:=List.pairwise_iff_getElem.1 h
 rcases Nat.lt_trichotomy i j with h1 | h1 | h1
 . exact absurd e (h2 i j hi hj h1)
 . exact h1
 . exact absurd e.symm (h2 j i hj hi h1)
abbrev Puts:=List (List Nat × Dyadic)
def pairE (g : List Nat -> Dyadic) : Puts -> Dyadic
 | []=>0
 | p :: ps=>p.2 * g p.1 + pairE g ps
theorem pairE_append (g : List Nat -> Dyadic) (a b : Puts) : pairE g (a ++ b) = pairE g a + pairE g b:=by
 induction a with
 | nil=>simp only [List.nil_append,pairE];grind
 | cons p a ih=>simp only [List.cons_append,pairE,ih];grind
theorem pairE_range (g : List Nat -> Dyadic) (r : Nat -> List Nat) (c : Nat -> Dyadic) (n : Nat) : pairE g ((List.range n).map fun k=>(r k,c k)) = sumTo (fun k=>c k * g (r k)) n:=by
 induction n with
 | zero=>rfl
 | succ n ih=>rw [List.range_succ,List.map_append,pairE_append,ih,sumTo];simp only [List.map_cons,List.map_nil,pairE];grind
theorem pairE_flat (g : List Nat -> Dyadic) (P : Nat -> Puts) (n : Nat) : pairE g ((List.range n).flatMap P) = sumTo (fun k=>pairE g (P k)) n:=by
 induction n with
 | zero=>rfl
 | succ n ih=>rw [List.range_succ,List.flatMap_append,pairE_append,ih,sumTo];simp only [List.flatMap_cons,List.flatMap_nil,List.append_nil]
def delta (r x : List Nat) : Dyadic:=if x = r then 1 else 0
def coef (ps : Puts) (r : List Nat) : Dyadic:=pairE (delta r) ps
def zipE (h : List Nat -> Dyadic) (R : List (List Nat)) (cs : List Dyadic) : Dyadic:=sumTo (fun k=>cs.getD k 0 * h (R.getD k [])) R.length
theorem zipE_congr {g h : List Nat -> Dyadic} (R : List (List Nat)) (cs : List Dyadic) (hg : ∀ x ∈ R,g x = h x) : zipE g R cs = zipE h R cs:=by
 refine sumTo_congr _ (fun k hk=>?_)
 rw [hg _ (by simp [hk])]
theorem zipE_coef (h : List Nat -> Dyadic) (R : List (List Nat)) (hn : R.Nodup) (ps : Puts) (hp : ∀ p ∈ ps,p.1 ∈ R) : zipE h R (R.map (coef ps)) = pairE h ps:=by
 have e : zipE h R (R.map (coef ps)) = sumTo (fun k=>coef ps (R.getD k []) * h (R.getD k [])) R.length:=by
  refine sumTo_congr _ (fun k hk=>?_)
  simp [hk]
 rw [e]
 clear e
 induction ps with
 | nil =>
   rw [sumTo_congr (g:=fun _=>0) _ (fun k _=>by simp only [coef,pairE];grind),sumTo_zero];rfl
 | cons p ps ih =>
   rw [sumTo_congr (g:=fun k=>p.2 * (delta (R.getD k []) p.1 * h (R.getD k [])) + coef ps (R.getD k []) * h (R.getD k [])) _ (fun k _=>by simp only [coef,pairE];grind),sumTo_add,ih (fun q hq=>hp q (by simp [hq])),sumTo_mul]
   obtain ⟨q,hq,hpq⟩:=List.mem_iff_getElem.1 (hp p (by simp))
   rw [sumTo_one _ q _ hq (fun k hk hne=>by
    unfold delta
    have : p.1 ≠ R.getD k []:=by
     rw [<- hpq]
     have e1 : R.getD k [] = R[k]:=by simp [hk]
     rw [e1]
     intro e2
     exact hne (nodup_inj hn e2).symm
    rw [if_neg this];grind)]
   have e1 : R.getD q [] = p.1:=by simp [hq,hpq]
   rw [e1]
   unfold delta
   rw [if_pos rfl]
   simp only [pairE];grind
theorem zipE_add (h : List Nat -> Dyadic) (R : List (List Nat)) (cs ds : List Dyadic) (hl : cs.length = ds.length) : zipE h R (List.zipWith (· + ·) cs ds) = zipE h R cs + zipE h R ds:=by
 unfold zipE
 rw [<- sumTo_add]
 refine sumTo_congr _ (fun k _=>?_)
 have : (List.zipWith (· + ·) cs ds).getD k 0 = cs.getD k 0 + ds.getD k 0:=by
  by_cases hk : k < cs.length
  . simp only [List.getD_eq_getElem?_getD,List.getElem?_zipWith]
    simp [hk,show k < ds.length by omega]
  . have h1 : ¬ k < ds.length:=by omega
    have z : (0 : Dyadic) + 0 = 0:=by grind
    simp only [List.getD_eq_getElem?_getD,List.getElem?_zipWith]
    simp [hk,h1,z]
 rw [this];grind
def liftR (x : List Nat) (c : Dyadic) : Puts:=(List.range x.length).map fun k=>(inc x k,c)
def halfR (i j : Nat) (x : List Nat) (c : Dyadic) : Puts:=(List.range (x.getD i 0 + 1)).map fun t=>(mv x i j t,c * chD (x.getD i 0) t * hp (x.getD j 0 + t))
def liftP (R : List (List Nat)) (cs : List Dyadic) : Puts:=(List.range R.length).flatMap fun k=>liftR (R.getD k []) (cs.getD k 0)
def halfP (i j : Nat) (R : List (List Nat)) (cs : List Dyadic) : Puts:=(List.range R.length).flatMap fun k=>halfR i j (R.getD k []) (cs.getD k 0)
theorem pair_half (i j : Nat) (g : List Nat -> Dyadic) (R : List (List Nat)) (cs : List Dyadic) : pairE g (halfP i j R cs) = zipE (halfG i j g) R cs:=by
 unfold halfP
 rw [pairE_flat]
 refine sumTo_congr _ (fun k _=>?_)
 unfold halfR
 rw [pairE_range]
 unfold halfG
 rw [<- sumTo_mul]
 refine sumTo_congr _ (fun t _=>?_)
 grind
def colL (R : List (List Nat)) (ps : Puts) : List Dyadic:=R.map (coef ps)
theorem colL_length (R : List (List Nat)) (ps : Puts) : (colL R ps).length = R.length:=by simp [colL]
theorem split_add (i j : Nat) (R : List (List Nat)) (cs ds : List Dyadic) (hl : cs.length = ds.length) :
 colL R (halfP i j R (List.zipWith (· + ·) cs ds)) = List.zipWith (· + ·) (colL R (halfP i j R cs)) (colL R (halfP i j R ds)):=by
 apply List.ext_getElem (by simp [colL])
 intro k hk _
 simp only [colL,List.getElem_map,List.getElem_zipWith]
 unfold coef
 rw [pair_half,pair_half,pair_half,zipE_add _ _ _ _ hl]
theorem sum_set (x : List Nat) (k v : Nat) (hk : k < x.length) : (x.set k v).sum + x.getD k 0 = x.sum + v:=by
 induction x generalizing k with
 | nil=>simp at hk
 | cons a x ih =>
   cases k with
   | zero=>simp;omega
   | succ k =>
     have:=ih k (by simpa using hk)
     simp at this ⊢;omega
theorem getD_le_sum (x : List Nat) (k : Nat) : x.getD k 0 <= x.sum:=by
 induction x generalizing k with
 | nil=>simp
 | cons a x ih =>
   cases k with
   | zero=>simp
   | succ k=>have:=ih k;simp at this ⊢;omega
theorem getD_two_le (x : List Nat) (k l : Nat) (h : k ≠ l) : x.getD k 0 + x.getD l 0 <= x.sum:=by
 induction x generalizing k l with
 | nil=>simp
 | cons a x ih =>
   cases k with
   | zero=>cases l with
     | zero=>omega
     | succ l=>have:=getD_le_sum x l;simp at this ⊢;omega
   | succ k=>cases l with
     | zero=>have:=getD_le_sum x k;simp at this ⊢;omega
     | succ l=>have:=ih k l (by omega);simp at this ⊢;omega
theorem inc_sum (x : List Nat) (k : Nat) (hk : k < x.length) : (inc x k).sum = x.sum + 1:=by
 have:=sum_set x k (x.getD k 0 + 1) hk
 unfold inc;omega
theorem mv_sum (x : List Nat) (i j t : Nat) (hij : i ≠ j) (hi : i < x.length) (hj : j < x.length) (ht : t <= x.getD i 0) : (mv x i j t).sum = x.sum:=by
 have h1:=sum_set x i (x.getD i 0 - t) hi
 have h2:=sum_set (x.set i (x.getD i 0 - t)) j (x.getD j 0 + t) (by simpa using hj)
 rw [getD_set _ _ _ _ hi,if_neg hij] at h2
 unfold mv;omega
def cornTo (n d : Nat) (R : List (List Nat)) (cs : List Dyadic) : Nat -> Dyadic
 | 0=>0
 | k + 1=>if (R.getD k []).getD n 0 = d then cs.getD k 0 else cornTo n d R cs k
def timesG (l : Nat -> Dyadic) (g : List Nat -> Dyadic) (x : List Nat) : Dyadic:=sumTo (fun k=>l k * g (inc x k)) x.length
theorem times_half (i j : Nat) (l l' : Nat -> Dyadic) (g : List Nat -> Dyadic) (x : List Nat) (hij : i ≠ j) (hi : i < x.length) (hj : j < x.length) (h0 : ∀ k,k ≠ j -> l' k = l k) (h1 : l' j + l' j = l i + l j) : timesG l (halfG i j g) x = halfG i j (timesG l' g) x:=by
 obtain ⟨a,ha⟩ : ∃ a,x.getD i 0 = a:=⟨_,rfl⟩
 obtain ⟨b,hb⟩ : ∃ b,x.getD j 0 = b:=⟨_,rfl⟩
 have hR : halfG i j (timesG l' g) x = sumTo (fun k=>l' k * sumTo (fun t=>chD a t * hp (b + t) * g (inc (mv x i j t) k)) (a + 1)) x.length:=by
  unfold halfG
  rw [ha,hb]
  rw [sumTo_congr (g:=fun t=>sumTo (fun k=>l' k * (chD a t * hp (b + t) * g (inc (mv x i j t) k))) x.length) (a + 1) (fun t _=>by
   unfold timesG;rw [mv_length,<- sumTo_mul]
   exact sumTo_congr _ (fun k _=>by grind))]
  rw [sumTo_swap]
  exact sumTo_congr _ (fun k _=>by rw [sumTo_mul])
 rw [hR]
 unfold timesG
 refine sumTo_pair i j x.length hij hi hj (fun k hk h1 h2=>?_) ?_
 . rw [h0 k h2]
   congr 1
   unfold halfG
   rw [getD_inc _ _ _ hk,getD_inc _ _ _ hk,if_neg h1,if_neg h2,ha,hb]
   refine sumTo_congr _ (fun t ht=>?_)
   congr 2
   refine ext_getD (by simp only [inc_length,mv_length]) (fun l hl=>?_)
   rw [getD_mv _ _ _ _ _ hij (by rw [inc_length];exact hi) (by rw [inc_length];exact hj),getD_inc _ _ _ hk,getD_inc _ _ _ (by rw [mv_length];exact hk),getD_mv _ _ _ _ _ hij hi hj]
   by_cases e1 : j = l
   . subst e1;simp [h2]
   . by_cases e2 : i = l
     . subst e2;simp [h1,e1]
     . simp [e1,e2]
 . obtain ⟨G,hG⟩ : ∃ G : Nat -> Dyadic,G = fun s=>g ((x.set i (a + 1 - s)).set j (b + s)):=⟨_,rfl⟩
   have e1 : halfG i j g (inc x i) = sumTo (fun t=>chD (a + 1) t * (hp (b + t) * G t)) (a + 2):=by
    unfold halfG
    rw [getD_inc _ _ _ hi,getD_inc _ _ _ hi,if_pos rfl,if_neg hij,ha,hb]
    refine sumTo_congr _ (fun t ht=>?_)
    have : mv (inc x i) i j t = (x.set i (a + 1 - t)).set j (b + t):=by
     refine ext_getD (by simp [inc_length,mv_length]) (fun l hl=>?_)
     rw [getD_mv _ _ _ _ _ hij (by rw [inc_length];exact hi) (by rw [inc_length];exact hj),getD_inc _ _ _ hi,getD_set _ _ _ _ (by simpa using hj),getD_set _ _ _ _ hi]
     have ha' : i = l -> x.getD l 0 = a:=fun e=>by rw [<- e];exact ha
     have hb' : j = l -> x.getD l 0 = b:=fun e=>by rw [<- e];exact hb
     generalize x.getD l 0 = y at *
     clear hl
     (repeat' split)<;>omega
    rw [this,hG];grind
   have e2 : halfG i j g (inc x j) = sumTo (fun t=>chD a t * (hp (b + 1 + t) * G (t + 1))) (a + 1):=by
    unfold halfG
    rw [getD_inc _ _ _ hj,getD_inc _ _ _ hj,if_pos rfl,if_neg (fun h=>hij h.symm),ha,hb]
    refine sumTo_congr _ (fun t ht=>?_)
    have : mv (inc x j) i j t = (x.set i (a + 1 - (t + 1))).set j (b + (t + 1)):=by
     refine ext_getD (by simp [inc_length,mv_length]) (fun l hl=>?_)
     rw [getD_mv _ _ _ _ _ hij (by rw [inc_length];exact hi) (by rw [inc_length];exact hj),getD_inc _ _ _ hj,getD_set _ _ _ _ (by simpa using hj),getD_set _ _ _ _ hi]
     have ha' : i = l -> x.getD l 0 = a:=fun e=>by rw [<- e];exact ha
     have hb' : j = l -> x.getD l 0 = b:=fun e=>by rw [<- e];exact hb
     generalize x.getD l 0 = y at *
     clear hl
     (repeat' split)<;>omega
    rw [this,hG];grind
   have e3 : sumTo (fun t=>chD a t * hp (b + t) * g (inc (mv x i j t) i)) (a + 1) = sumTo (fun t=>chD a t * (hp (b + t) * G t)) (a + 1):=by
    refine sumTo_congr _ (fun t ht=>?_)
    have : inc (mv x i j t) i = (x.set i (a + 1 - t)).set j (b + t):=by
     refine ext_getD (by simp [inc_length,mv_length]) (fun l hl=>?_)
     rw [getD_inc _ _ _ (by rw [mv_length];exact hi),getD_mv _ _ _ _ _ hij hi hj,getD_set _ _ _ _ (by simpa using hj),getD_set _ _ _ _ hi]
     have ha' : i = l -> x.getD l 0 = a:=fun e=>by rw [<- e];exact ha
     have hb' : j = l -> x.getD l 0 = b:=fun e=>by rw [<- e];exact hb
     generalize x.getD l 0 = y at *
     clear hl
     (repeat' split)<;>omega
    rw [this,hG];grind
   have e4 : sumTo (fun t=>chD a t * hp (b + t) * g (inc (mv x i j t) j)) (a + 1) = sumTo (fun t=>chD a t * (hp (b + t) * G (t + 1))) (a + 1):=by
    refine sumTo_congr _ (fun t ht=>?_)
    have : inc (mv x i j t) j = (x.set i (a + 1 - (t + 1))).set j (b + (t + 1)):=by
     refine ext_getD (by simp [inc_length,mv_length]) (fun l hl=>?_)
     rw [getD_inc _ _ _ (by rw [mv_length];exact hj),getD_mv _ _ _ _ _ hij hi hj,getD_set _ _ _ _ (by simpa using hj),getD_set _ _ _ _ hi]
     have ha' : i = l -> x.getD l 0 = a:=fun e=>by rw [<- e];exact ha
     have hb' : j = l -> x.getD l 0 = b:=fun e=>by rw [<- e];exact hb
     generalize x.getD l 0 = y at *
     clear hl
     (repeat' split)<;>omega
    rw [this,hG];grind
   rw [e1,e2,e3,e4,pascal (fun t=>hp (b + t) * G t) a,h0 i hij,<- sumTo_mul,<- sumTo_mul,<- sumTo_mul,<- sumTo_mul,<- sumTo_add,<- sumTo_add]
   refine sumTo_congr _ (fun t ht=>?_)
   have h2:=hp_succ (b + t)
   have h3 : b + (t + 1) = b + t + 1:=by omega
   have h4 : b + 1 + t = b + t + 1:=by omega
   rw [h3,h4,<- h2]
   generalize hp (b + t + 1) = h
   generalize chD a t = c
   generalize G (t + 1) = y
   generalize G t = z
   have h5 : l' j * (c * ((h + h) * y)) = (l' j + l' j) * (c * (h * y)):=by grind
   rw [h5,h1];grind
def timesR (x : List Nat) (c : Dyadic) (l : Nat -> Dyadic) : Puts:=(List.range x.length).map fun k=>(inc x k,c * l k)
def timesP (R : List (List Nat)) (cs : List Dyadic) (l : Nat -> Dyadic) : Puts:=(List.range R.length).flatMap fun k=>timesR (R.getD k []) (cs.getD k 0) l
theorem pair_times (g : List Nat -> Dyadic) (R : List (List Nat)) (cs : List Dyadic) (l : Nat -> Dyadic) : pairE g (timesP R cs l) = zipE (timesG l g) R cs:=by
 unfold timesP
 rw [pairE_flat]
 refine sumTo_congr _ (fun k _=>?_)
 unfold timesR
 rw [pairE_range]
 unfold timesG
 rw [<- sumTo_mul]
 exact sumTo_congr _ (fun t _=>by grind)
theorem timesP_mem {R R' : List (List Nat)} {cs : List Dyadic} {l : Nat -> Dyadic} {n : Nat} (hn : ∀ x ∈ R,x.length = n) (h1 : ∀ x ∈ R,∀ k,k < n -> inc x k ∈ R') : ∀ p ∈ timesP R cs l,p.1 ∈ R':=by
 intro p hp
 unfold timesP at hp
 rw [List.mem_flatMap] at hp
 obtain ⟨k,hk,hp⟩:=hp
 rw [List.mem_range] at hk
 unfold timesR at hp
 rw [List.mem_map] at hp
 obtain ⟨t,ht,rfl⟩:=hp
 rw [List.mem_range] at ht
 have hm : R.getD k [] ∈ R:=by simp [hk]
 exact h1 _ hm t (by rw [hn _ hm] at ht;exact ht)
theorem halfP_mem {R : List (List Nat)} {cs : List Dyadic} {i j : Nat} (h2 : ∀ x ∈ R,∀ t,t <= x.getD i 0 -> mv x i j t ∈ R) : ∀ p ∈ halfP i j R cs,p.1 ∈ R:=by
 intro p hp
 unfold halfP at hp
 rw [List.mem_flatMap] at hp
 obtain ⟨k,hk,hp⟩:=hp
 rw [List.mem_range] at hk
 unfold halfR at hp
 rw [List.mem_map] at hp
 obtain ⟨t,ht,rfl⟩:=hp
 rw [List.mem_range] at ht
 exact h2 _ (by simp [hk]) t (by omega)
theorem split_times (i j n : Nat) (R R' : List (List Nat)) (cs : List Dyadic) (l l' : Nat -> Dyadic) (hij : i ≠ j) (hi : i < n) (hj : j < n) (hR : R.Nodup) (hR' : R'.Nodup) (hn : ∀ x ∈ R,x.length = n)
 (h1 : ∀ x ∈ R,∀ k,k < n -> inc x k ∈ R') (h2 : ∀ x ∈ R,∀ t,t <= x.getD i 0 -> mv x i j t ∈ R) (h3 : ∀ k,k ≠ j -> l' k = l k) (h4 : l' j + l' j = l i + l j) :
 colL R' (halfP i j R' (colL R' (timesP R cs l))) = colL R' (timesP R (colL R (halfP i j R cs)) l'):=by
 unfold colL
 refine List.map_congr_left (fun r _=>?_)
 unfold coef
 rw [pair_half,pair_times]
 rw [show (R'.map fun r=>pairE (delta r) (timesP R cs l)) = R'.map (coef (timesP R cs l)) from rfl,show (R.map fun r=>pairE (delta r) (halfP i j R cs)) = R.map (coef (halfP i j R cs)) from rfl]
 rw [zipE_coef _ R' hR' _ (timesP_mem hn h1),zipE_coef _ R hR _ (halfP_mem h2),pair_times,pair_half]
 exact zipE_congr R cs (fun x hx=>times_half i j l l' _ x hij (by rw [hn x hx];exact hi) (by rw [hn x hx];exact hj) h3 h4)
end Go.Proofs.YtidjljldhdckiaaGreatDoor
namespace Go.Proofs.YtidjljldhdckiaaGreatDoor
open Go.RowKit
attribute [local go_sem ↓] Go.wp_at_zero Go.wp_at_succ
def idxFrom (p : Value -> Bool) : List Value -> Nat -> Int
 | [],_=>-1
 | v :: l,k=>if p v then (k : Int) else idxFrom p l (k + 1)
theorem idxFrom_at (p : Value -> Bool) (l : List Value) (k n : Nat) (h : n < l.length) : idxFrom p (l.drop n) k = if p l[n] then (k : Int) else idxFrom p (l.drop (n + 1)) (k + 1):=by
 rw [List.drop_eq_getElem_cons h];rfl
theorem idxFrom_any (p : Value -> Bool) (l : List Value) (k : Nat) : decide (0 <= idxFrom p l k) = l.any p:=by
 induction l generalizing k with
 | nil=>rfl
 | cons v l ih =>
   unfold idxFrom
   rw [List.any_cons]
   by_cases h : p v = true
   . rw [if_pos h,h,Bool.true_or];simp
   . rw [if_neg h,ih];simp [h]
theorem idxP_any (a : Option Addr) (n cap : Nat) (vals : List Value) (gf : Nat) (lb : Array Value) (p : Value -> Bool) (w : World) (hn : vals.length = n) (hl : n <= 1099511627776) (ha : At w a vals)
 (eg : ∀ args w,(callFunc gf args).run Tryz.prog w = .ok (.enter gf args) w)
 (hcl : ∀ v ∈ vals,∀ W,Below w.heap.size w W -> Calls Tryz.prog gf (#[v] ++ lb) W fun e w'=>e = .returned (.bool (p v)) /\ Below W.heap.size W w') :
 Calls Tryz.prog 78 #[.slice a n cap,.func (.func gf) #[] lb] w fun e w'=>e = .returned (.int .i64 (idxFrom p vals 0)) /\ Below w.heap.size w w':=by
 have Hn:=lid hn;have Ha:=lid ha;have Hcl:=lid hcl;have Heg:=lid eg
 clear hn ha hcl eg
 have Hb : Hid (Below w.heap.size w w):=Below.refl _ _
 go_enter Tryz.func78,Tryz.ntmps78
 go_wp2_with fail
 go_loopw [5,8] (fun _ i wr=>∃ k : Nat,k <= n /\ i = .int .i64 (k : Int) /\ idxFrom p vals 0 = idxFrom p (vals.drop k) k /\ Below w.heap.size w wr) (fun _ i _=>n - (intOf i).toNat)
 case atStart=>exact ⟨0,Nat.zero_le _,rfl,rfl,Hb.out⟩
 case round=>
  clear Hb
  obtain ⟨k,hk,rfl,hidx,pb⟩:=hrel
  have Hidx:=lid hidx;have Hb:=lid pb
  clear hidx pb
  by_cases hlt : k < n
  . have hlt2 : k < vals.length:=by rw [Hn.out];exact hlt
    obtain ⟨b,o,hab,hcs⟩:=(Ha.out.below Hb.out).get (by intro h;rw [h] at hlt2;simp at hlt2)
    obtain ⟨v,hv⟩ : ∃ v,vals[k] = v:=⟨_,rfl⟩
    have hc0 : wr.cell? ⟨b,o + k,none⟩ = some v:=by rw [hcs k hlt2,List.getElem?_eq_getElem hlt2,hv]
    have hix:=i45x46 n cap k (k : Int) hab hlt rfl
    rw [Nat.mul_one] at hix
    have hcall:=Hcl.out v (by rw [<- hv];exact List.getElem_mem hlt2) wr Hb.out
    have hstep:=idxFrom_at p vals k k hlt2
    rw [hv,<- Hidx.out] at hstep
    have Hstep:=lid hstep;have Hcall:=lid hcall
    have Heg2:=Heg.out
    clear hcs hab hv hstep hcall
    go_wp2_with fail
    refine Hcall.out.mono ?_
    rintro e w1 ⟨rfl,hb1⟩
    replace Hb:=lid (bnext Hb.out hb1)
    clear hb1 hc0 hix Heg2
    obtain ⟨t,ht⟩ : ∃ t,p v = t:=⟨_,rfl⟩
    rw [ht] at Hstep ⊢
    clear ht
    cases t with
    | true =>
      go_wp2
      refine bodyPost_ret (results_tmp rfl _ _ _) rfl ⟨?_,Hb.out⟩
      have h:=Hstep.out
      rw [if_pos (by trivial)] at h
      rw [h];rfl
    | false =>
      go_wp2
      go_roundw
      case rel=>exact ⟨k + 1,by omega,by go_num,by have h:=Hstep.out;rw [if_neg (by decide)] at h;exact h,Hb.out⟩
      case measure=>simp [intOf];omega
  . obtain rfl : k = n:=by omega
    go_wp2
    refine bodyPost_ret (results_tmp rfl _ _ _) rfl ⟨?_,Hb.out⟩
    have h:=Hidx.out
    rw [List.drop_of_length_le (by rw [Hn.out];exact Nat.le_refl _)] at h
    rw [h];rfl
theorem contP_any (a : Option Addr) (n cap : Nat) (vals : List Value) (gf : Nat) (lb : Array Value) (p : Value -> Bool) (w : World) (hn : vals.length = n) (hl : n <= 1099511627776) (ha : At w a vals)
 (eg : ∀ args w,(callFunc gf args).run Tryz.prog w = .ok (.enter gf args) w)
 (hcl : ∀ v ∈ vals,∀ W,Below w.heap.size w W -> Calls Tryz.prog gf (#[v] ++ lb) W fun e w'=>e = .returned (.bool (p v)) /\ Below W.heap.size W w') :
 Calls Tryz.prog 58 #[.slice a n cap,.func (.func gf) #[] lb] w fun e w'=>e = .returned (.bool (vals.any p)) /\ Below w.heap.size w w':=by
 have h1:=idxP_any a n cap vals gf lb p w hn hl ha eg hcl
 rw [<- idxFrom_any p vals 0]
 generalize idxFrom p vals 0 = i at *
 have H1:=lid h1
 clear h1 hcl eg ha hn
 have Hb : Hid (Below w.heap.size w w):=Below.refl _ _
 go_enter Tryz.func58,Tryz.ntmps58
 go_wp2_with fail
 refine (H1.out).mono ?_
 rintro e w1 ⟨rfl,hbn⟩
 replace Hb:=bnx Hb hbn;clear hbn
 go_wp2
 refine bodyPost_ret (v:=.bool (decide (0 <= i))) (by simp [results,Tryz.results58,go_sem]) rfl ⟨rfl,?_⟩
 (repeat first | exact Hb.out | (refine Below.setCell ?_ (by have:=Hb.out.size;first | (dsimp only;omega) | (show _ <= _;omega) | (simp<;>omega)) _) | (refine Below.alloc ?_ (by have:=Hb.out.size;simp<;>omega) _) | refine Below.drew ?_)
theorem idxN_any (a : Option Addr) (n cap : Nat) (vals : List Value) (gf : Nat) (lb : Array Value) (p : Value -> Bool) (w : World) (hn : vals.length = n) (hl : n <= 1099511627776) (ha : At w a vals)
 (eg : ∀ args w,(callFunc gf args).run Tryz.prog w = .ok (.enter gf args) w)
 (hcl : ∀ v ∈ vals,∀ W,Below w.heap.size w W -> Calls Tryz.prog gf (#[v] ++ lb) W fun e w'=>e = .returned (.bool (p v)) /\ Below W.heap.size W w') :
 Calls Tryz.prog 138 #[.slice a n cap,.func (.func gf) #[] lb] w fun e w'=>e = .returned (.int .i64 (idxFrom p vals 0)) /\ Below w.heap.size w w':=by
 have Hn:=lid hn;have Ha:=lid ha;have Hcl:=lid hcl;have Heg:=lid eg
 clear hn ha hcl eg
 have Hb : Hid (Below w.heap.size w w):=Below.refl _ _
 go_enter Tryz.func138,Tryz.ntmps138
 go_wp2_with fail
 go_loopw [5,8] (fun _ i wr=>∃ k : Nat,k <= n /\ i = .int .i64 (k : Int) /\ idxFrom p vals 0 = idxFrom p (vals.drop k) k /\ Below w.heap.size w wr) (fun _ i _=>n - (intOf i).toNat)
 case atStart=>exact ⟨0,Nat.zero_le _,rfl,rfl,Hb.out⟩
 case round=>
  clear Hb
  obtain ⟨k,hk,rfl,hidx,pb⟩:=hrel
  have Hidx:=lid hidx;have Hb:=lid pb
  clear hidx pb
  by_cases hlt : k < n
  . have hlt2 : k < vals.length:=by rw [Hn.out];exact hlt
    obtain ⟨b,o,hab,hcs⟩:=(Ha.out.below Hb.out).get (by intro h;rw [h] at hlt2;simp at hlt2)
    obtain ⟨v,hv⟩ : ∃ v,vals[k] = v:=⟨_,rfl⟩
    have hc0 : wr.cell? ⟨b,o + k,none⟩ = some v:=by rw [hcs k hlt2,List.getElem?_eq_getElem hlt2,hv]
    have hix:=i131x22 n cap k (k : Int) hab hlt rfl
    rw [Nat.mul_one] at hix
    have hcall:=Hcl.out v (by rw [<- hv];exact List.getElem_mem hlt2) wr Hb.out
    have hstep:=idxFrom_at p vals k k hlt2
    rw [hv,<- Hidx.out] at hstep
    have Hstep:=lid hstep;have Hcall:=lid hcall
    have Heg2:=Heg.out
    clear hcs hab hv hstep hcall
    go_wp2_with fail
    refine Hcall.out.mono ?_
    rintro e w1 ⟨rfl,hb1⟩
    replace Hb:=lid (bnext Hb.out hb1)
    clear hb1 hc0 hix Heg2
    obtain ⟨t,ht⟩ : ∃ t,p v = t:=⟨_,rfl⟩
    rw [ht] at Hstep ⊢
    clear ht
    cases t with
    | true =>
      go_wp2
      refine bodyPost_ret (results_tmp rfl _ _ _) rfl ⟨?_,Hb.out⟩
      have h:=Hstep.out
      rw [if_pos (by trivial)] at h
      rw [h];rfl
    | false =>
      go_wp2
      go_roundw
      case rel=>exact ⟨k + 1,by omega,by go_num,by have h:=Hstep.out;rw [if_neg (by decide)] at h;exact h,Hb.out⟩
      case measure=>simp [intOf];omega
  . obtain rfl : k = n:=by omega
    go_wp2
    refine bodyPost_ret (results_tmp rfl _ _ _) rfl ⟨?_,Hb.out⟩
    have h:=Hidx.out
    rw [List.drop_of_length_le (by rw [Hn.out];exact Nat.le_refl _)] at h
    rw [h];rfl
theorem contN_any (a : Option Addr) (n cap : Nat) (vals : List Value) (gf : Nat) (lb : Array Value) (p : Value -> Bool) (w : World) (hn : vals.length = n) (hl : n <= 1099511627776) (ha : At w a vals)
 (eg : ∀ args w,(callFunc gf args).run Tryz.prog w = .ok (.enter gf args) w)
 (hcl : ∀ v ∈ vals,∀ W,Below w.heap.size w W -> Calls Tryz.prog gf (#[v] ++ lb) W fun e w'=>e = .returned (.bool (p v)) /\ Below W.heap.size W w') :
 Calls Tryz.prog 122 #[.slice a n cap,.func (.func gf) #[] lb] w fun e w'=>e = .returned (.bool (vals.any p)) /\ Below w.heap.size w w':=by
 have h1:=idxN_any a n cap vals gf lb p w hn hl ha eg hcl
 rw [<- idxFrom_any p vals 0]
 generalize idxFrom p vals 0 = i at *
 have H1:=lid h1
 clear h1 hcl eg ha hn
 have Hb : Hid (Below w.heap.size w w):=Below.refl _ _
 go_enter Tryz.func122,Tryz.ntmps122
 go_wp2_with fail
 refine (H1.out).mono ?_
 rintro e w1 ⟨rfl,hbn⟩
 replace Hb:=bnx Hb hbn;clear hbn
 go_wp2
 refine bodyPost_ret (v:=.bool (decide (0 <= i))) (by simp [results,Tryz.results122,go_sem]) rfl ⟨rfl,?_⟩
 (repeat first | exact Hb.out | (refine Below.setCell ?_ (by have:=Hb.out.size;first | (dsimp only;omega) | (show _ <= _;omega) | (simp<;>omega)) _) | (refine Below.alloc ?_ (by have:=Hb.out.size;simp<;>omega) _) | refine Below.drew ?_)
theorem idxI_any (a : Option Addr) (n cap : Nat) (vals : List Value) (gf : Nat) (lb : Array Value) (p : Value -> Bool) (w : World) (hn : vals.length = n) (hl : n <= 1099511627776) (ha : At w a vals)
 (eg : ∀ args w,(callFunc gf args).run Tryz.prog w = .ok (.enter gf args) w)
 (hcl : ∀ v ∈ vals,∀ W,Below w.heap.size w W -> Calls Tryz.prog gf (#[v] ++ lb) W fun e w'=>e = .returned (.bool (p v)) /\ Below W.heap.size W w') :
 Calls Tryz.prog 124 #[.slice a n cap,.func (.func gf) #[] lb] w fun e w'=>e = .returned (.int .i64 (idxFrom p vals 0)) /\ Below w.heap.size w w':=by
 have Hn:=lid hn;have Ha:=lid ha;have Hcl:=lid hcl;have Heg:=lid eg
 clear hn ha hcl eg
 have Hb : Hid (Below w.heap.size w w):=Below.refl _ _
 go_enter Tryz.func124,Tryz.ntmps124
 go_wp2_with fail
 go_loopw [5,8] (fun _ i wr=>∃ k : Nat,k <= n /\ i = .int .i64 (k : Int) /\ idxFrom p vals 0 = idxFrom p (vals.drop k) k /\ Below w.heap.size w wr) (fun _ i _=>n - (intOf i).toNat)
 case atStart=>exact ⟨0,Nat.zero_le _,rfl,rfl,Hb.out⟩
 case round=>
  clear Hb
  obtain ⟨k,hk,rfl,hidx,pb⟩:=hrel
  have Hidx:=lid hidx;have Hb:=lid pb
  clear hidx pb
  by_cases hlt : k < n
  . have hlt2 : k < vals.length:=by rw [Hn.out];exact hlt
    obtain ⟨b,o,hab,hcs⟩:=(Ha.out.below Hb.out).get (by intro h;rw [h] at hlt2;simp at hlt2)
    obtain ⟨v,hv⟩ : ∃ v,vals[k] = v:=⟨_,rfl⟩
    have hc0 : wr.cell? ⟨b,o + k,none⟩ = some v:=by rw [hcs k hlt2,List.getElem?_eq_getElem hlt2,hv]
    have hix:=i155x123 n cap k (k : Int) hab hlt rfl
    rw [Nat.mul_one] at hix
    have hcall:=Hcl.out v (by rw [<- hv];exact List.getElem_mem hlt2) wr Hb.out
    have hstep:=idxFrom_at p vals k k hlt2
    rw [hv,<- Hidx.out] at hstep
    have Hstep:=lid hstep;have Hcall:=lid hcall
    have Heg2:=Heg.out
    clear hcs hab hv hstep hcall
    go_wp2_with fail
    refine Hcall.out.mono ?_
    rintro e w1 ⟨rfl,hb1⟩
    replace Hb:=lid (bnext Hb.out hb1)
    clear hb1 hc0 hix Heg2
    obtain ⟨t,ht⟩ : ∃ t,p v = t:=⟨_,rfl⟩
    rw [ht] at Hstep ⊢
    clear ht
    cases t with
    | true =>
      go_wp2
      refine bodyPost_ret (results_tmp rfl _ _ _) rfl ⟨?_,Hb.out⟩
      have h:=Hstep.out
      rw [if_pos (by trivial)] at h
      rw [h];rfl
    | false =>
      go_wp2
      go_roundw
      case rel=>exact ⟨k + 1,by omega,by go_num,by have h:=Hstep.out;rw [if_neg (by decide)] at h;exact h,Hb.out⟩
      case measure=>simp [intOf];omega
  . obtain rfl : k = n:=by omega
    go_wp2
    refine bodyPost_ret (results_tmp rfl _ _ _) rfl ⟨?_,Hb.out⟩
    have h:=Hidx.out
    rw [List.drop_of_length_le (by rw [Hn.out];exact Nat.le_refl _)] at h
    rw [h];rfl
def Pt (w : World) (v : Value) (raws : List Raw) : Prop:=∃ a cap,v = .slice a raws.length cap /\ At w a (raws.flatMap numC)
theorem Pt.below {w w' : World} {v : Value} {raws : List Raw} (h : Pt w v raws) (hb : Below w.heap.size w w') : Pt w' v raws:=
 let ⟨a,cap,hv,ha⟩:=h;⟨a,cap,hv,ha.below hb⟩
def Tbl (w : World) (a : Option Addr) (rows : List (List Raw)) : Prop:=∃ vals : List Value,vals.length = rows.length /\ At w a vals /\ ∀ i (h : i < rows.length) (h' : i < vals.length),Pt w vals[i] rows[i]
theorem Tbl.below {w w' : World} {a : Option Addr} {rows : List (List Raw)} (h : Tbl w a rows) (hb : Below w.heap.size w w') : Tbl w' a rows:=
 let ⟨vals,hl,ha,hp⟩:=h;⟨vals,hl,ha.below hb,fun i h1 h2=>(hp i h1 h2).below hb⟩
theorem kL {w w' : World} {a : Option Addr} {rows : List (List Raw)} (h : Hid (Tbl w a rows)) (k : Below w.heap.size w w') : Hid (Tbl w' a rows):=h.out.below k
theorem Tbl.row {w : World} {a : Option Addr} {rows : List (List Raw)} (h : Tbl w a rows) (k : Nat) (hk : k < rows.length) :
 ∃ b o a' cap',a = some ⟨b,o,none⟩ /\ w.cell? ⟨b,o + k,none⟩ = some (.slice a' rows[k].length cap') /\ At w a' (rows[k].flatMap numC):=by
 obtain ⟨vals,hl,ha,hp⟩:=h
 have hk2 : k < vals.length:=by rw [hl];exact hk
 obtain ⟨b,o,hab,hcs⟩:=ha.get (by intro h0;rw [h0] at hk2;simp at hk2)
 obtain ⟨a',cap',hv,hat⟩:=hp k hk hk2
 exact ⟨b,o,a',cap',hab,by rw [hcs k hk2,List.getElem?_eq_getElem hk2,hv],hat⟩
def lenV : Value -> Int
 | .slice _ n _=>n
 | _=>0
def otherV (N : Int) (v : Value) : Bool:=decide (lenV v ≠ N)
theorem any_rows {w : World} {vals : List Value} {rows : List (List Raw)} (N : Int) (hl : vals.length = rows.length) (hp : ∀ i (h : i < rows.length) (h' : i < vals.length),Pt w vals[i] rows[i]) :
 vals.any (otherV N) = rows.any fun r=>decide ((r.length : Int) ≠ N):=by
 induction vals generalizing rows with
 | nil =>
   have : rows = []:=List.length_eq_zero_iff.1 hl.symm
   subst this;rfl
 | cons v vs ih =>
   match rows,hl with
   | r :: rs,hl =>
     have h0:=hp 0 (by simp) (by simp)
     obtain ⟨a,cap,hv,_⟩:=h0
     have hv' : v = .slice a r.length cap:=hv
     have:=ih (rows:=rs) (by simpa using hl) (fun i h h'=>hp (i + 1) (by simp;omega) (by simp;omega))
     rw [List.any_cons,List.any_cons,this]
     subst hv'
     rfl
theorem vars1_any (bn : Nat) (N : Int) (a : Option Addr) (n cap : Nat) (w : World) (hN : w.cell? ⟨bn,0,none⟩ = some (.int .i64 N)) :
 Calls Tryz.prog 57 #[.slice a n cap,.pointer (some ⟨bn,0,none⟩)] w fun e w'=>e = .returned (.bool (otherV N (.slice a n cap))) /\ Below w.heap.size w w':=by
 have Hb : Hid (Below w.heap.size w w):=Below.refl _ _
 go_enter Tryz.func57,Tryz.ntmps57
 go_wp2
 refine bodyPost_ret (results_tmp rfl _ _ _) rfl ⟨?_,Hb.out⟩
 simp only [otherV,lenV]
 by_cases h : (n : Int) = N<;>simp [h]
def varsI (rows : List (List Raw)) : Int:=
 let n : Int:=rows.length - 1
 if n < 1 \/ 8 < n \/ (rows.any fun r=>decide ((r.length : Int) ≠ n)) then 0 else n
theorem vars_any (a : Option Addr) (L cap : Nat) (rows : List (List Raw)) (w : World) (hL : rows.length = L) (hl : L <= 1099511627776) (ha : Tbl w a rows) :
 Calls Tryz.prog 35 #[.slice a L cap] w fun e w'=>e = .returned (.int .i64 (varsI rows)) /\ Below w.heap.size w w':=by
 obtain ⟨vals,hvl,hat,hp⟩:=ha
 have hany:=fun N=>any_rows (w:=w) N hvl hp
 have hcl : ∀ (bn : Nat) (W : World),W.cell? ⟨bn,0,none⟩ = some (.int .i64 ((L : Int) - 1)) -> At W a vals -> Calls Tryz.prog 58 #[.slice a L cap,.func (.func 57) #[] #[.pointer (some ⟨bn,0,none⟩)]] W fun e w'=>e = .returned (.bool (rows.any fun r=>decide ((r.length : Int) ≠ (L : Int) - 1))) /\ Below W.heap.size W w':=by
  intro bn W hc hA
  rw [<- hany]
  refine contP_any a L cap vals 57 #[.pointer (some ⟨bn,0,none⟩)] (otherV ((L : Int) - 1)) W (by rw [hvl,hL]) hl hA (enters_of Tryz.func57 (by kernel_rfl) rfl) (fun v hv W' hb=>?_)
  obtain ⟨i,hi,rfl⟩:=List.mem_iff_getElem.1 hv
  obtain ⟨a',cap',e,_⟩:=hp i (by rw [<- hvl];exact hi) hi
  rw [e]
  exact vars1_any bn _ a' _ cap' W' (cell_later hb hc)
 have hv : varsI rows = if (L : Int) - 1 < 1 \/ 8 < (L : Int) - 1 \/ (rows.any fun r=>decide ((r.length : Int) ≠ (L : Int) - 1)) = true then 0 else (L : Int) - 1:=by unfold varsI;rw [hL]
 obtain ⟨T,hT⟩ : ∃ T,(rows.any fun r=>decide ((r.length : Int) ≠ (L : Int) - 1)) = T:=⟨_,rfl⟩
 rw [hT] at hv
 simp only [hT] at hcl
 have Hcl:=lid hcl;have Hat:=lid hat;have Hv:=lid hv
 obtain ⟨V,hV⟩ : ∃ V,varsI rows = V:=⟨_,rfl⟩
 rw [hV] at Hv ⊢
 clear hcl hat hv hany hvl hp hL hT hV
 obtain ⟨W,hW_W⟩ : ∃ W,(w.alloc (.cells #[.int .i64 ((L : Int) - 1)] 3)) = W:=⟨_,rfl⟩
 have Hb : Hid (Below w.heap.size w W):=by rw [<- hW_W];exact ((Below.refl _ _).alloc (Nat.le_refl _) _)
 have Hn : Hid (Blk W (w.heap.size) 3 [.int .i64 ((L : Int) - 1)]):=by rw [<- hW_W];exact Blk.newAt _ _ _ (by simp)
 have n0:=Hn.out.c1
 go_enter Tryz.func35,Tryz.ntmps35
 by_cases h1 : (L : Int) - 1 < 1
 . have hv:=Hv.out
   rw [if_pos (.inl h1)] at hv
   subst hv
   go_wp2
   refine bodyPost_ret (v:=.int .i64 0) (by simp [results,Tryz.results35,go_sem]) rfl ⟨rfl,?_⟩
   (repeat first | exact Hb.out | (refine Below.setCell ?_ (by have:=Hb.out.size;first | (dsimp only;omega) | (show _ <= _;omega) | (simp<;>omega)) _) | (refine Below.alloc ?_ (by have:=Hb.out.size;simp<;>omega) _) | refine Below.drew ?_)
 . by_cases h2 : 8 < (L : Int) - 1
   . have hv:=Hv.out
     rw [if_pos (.inr (.inl h2))] at hv
     subst hv
     go_wp2
     refine bodyPost_ret (v:=.int .i64 0) (by simp [results,Tryz.results35,go_sem]) rfl ⟨rfl,?_⟩
     (repeat first | exact Hb.out | (refine Below.setCell ?_ (by have:=Hb.out.size;first | (dsimp only;omega) | (show _ <= _;omega) | (simp<;>omega)) _) | (refine Below.alloc ?_ (by have:=Hb.out.size;simp<;>omega) _) | refine Below.drew ?_)
   . have Hcall:=lid (Hcl.out w.heap.size W n0 (Hat.out.below Hb.out))
     go_wp2_with fail
     refine (Hcall.out).mono ?_
     rintro e w1 ⟨rfl,hbn⟩
     clear n0
     replace Hn:=kB Hn hbn
     have n0:=Hn.out.c1
     replace Hb:=bnx Hb hbn;clear hbn
     cases T with
     | true =>
       have hv:=Hv.out
       rw [if_pos (.inr (.inr rfl))] at hv
       subst hv
       go_wp2
       refine bodyPost_ret (v:=.int .i64 0) (by simp [results,Tryz.results35,go_sem]) rfl ⟨rfl,?_⟩
       (repeat first | exact Hb.out | (refine Below.setCell ?_ (by have:=Hb.out.size;first | (dsimp only;omega) | (show _ <= _;omega) | (simp<;>omega)) _) | (refine Below.alloc ?_ (by have:=Hb.out.size;simp<;>omega) _) | refine Below.drew ?_)
     | false =>
       have hv:=Hv.out
       rw [if_neg (by rintro (h | h | h);omega;omega;cases h)] at hv
       subst hv
       go_wp2
       refine bodyPost_ret (v:=.int .i64 ((L : Int) - 1)) (by simp [results,Tryz.results35,go_sem]) rfl ⟨rfl,?_⟩
       (repeat first | exact Hb.out | (refine Below.setCell ?_ (by have:=Hb.out.size;first | (dsimp only;omega) | (show _ <= _;omega) | (simp<;>omega)) _) | (refine Below.alloc ?_ (by have:=Hb.out.size;simp<;>omega) _) | refine Below.drew ?_)
theorem mchk1_any (bn : Nat) (a0 : Option Addr) (N c0 : Nat) (a : Option Addr) (n cap : Nat) (w : World) (hN : w.cell? ⟨bn,0,none⟩ = some (.slice a0 N c0)) :
 Calls Tryz.prog 123 #[.slice a n cap,.pointer (some ⟨bn,0,none⟩)] w fun e w'=>e = .returned (.bool (otherV (N : Int) (.slice a n cap))) /\ Below w.heap.size w w':=by
 have Hb : Hid (Below w.heap.size w w):=Below.refl _ _
 go_enter Tryz.func123,Tryz.ntmps123
 go_wp2
 refine bodyPost_ret (results_tmp rfl _ _ _) rfl ⟨?_,Hb.out⟩
 simp only [otherV,lenV]
 by_cases h : (n : Int) = (N : Int)<;>simp [h]
def mchk (rows : List (List Raw)) : Int:=if 8 < rows.length \/ (rows.any fun r=>decide ((r.length : Int) ≠ (rows.length : Int))) then 1 else 0
theorem mchk_any (a : Option Addr) (L cap : Nat) (rows : List (List Raw)) (w : World) (hL : rows.length = L) (hl : L <= 1099511627776) (ha : Tbl w a rows) :
 Calls Tryz.prog 99 #[.slice a L cap] w fun e w'=>e = .returned (.int .i64 (mchk rows)) /\ Below w.heap.size w w':=by
 obtain ⟨vals,hvl,hat,hp⟩:=ha
 have hany:=fun N=>any_rows (w:=w) N hvl hp
 have hcl : ∀ (bn : Nat) (W : World),W.cell? ⟨bn,0,none⟩ = some (.slice a L cap) -> At W a vals -> Calls Tryz.prog 122 #[.slice a L cap,.func (.func 123) #[] #[.pointer (some ⟨bn,0,none⟩)]] W fun e w'=>e = .returned (.bool (rows.any fun r=>decide ((r.length : Int) ≠ (L : Int)))) /\ Below W.heap.size W w':=by
  intro bn W hc hA
  rw [<- hany]
  refine contN_any a L cap vals 123 #[.pointer (some ⟨bn,0,none⟩)] (otherV (L : Int)) W (by rw [hvl,hL]) hl hA (enters_of Tryz.func123 (by kernel_rfl) rfl) (fun v hv W' hb=>?_)
  obtain ⟨i,hi,rfl⟩:=List.mem_iff_getElem.1 hv
  obtain ⟨a',cap',e,_⟩:=hp i (by rw [<- hvl];exact hi) hi
  rw [e]
  exact mchk1_any bn a L cap a' _ cap' W' (cell_later hb hc)
 have hv : mchk rows = if 8 < L \/ (rows.any fun r=>decide ((r.length : Int) ≠ (L : Int))) = true then 1 else 0:=by unfold mchk;rw [hL]
 obtain ⟨T,hT⟩ : ∃ T,(rows.any fun r=>decide ((r.length : Int) ≠ (L : Int))) = T:=⟨_,rfl⟩
 rw [hT] at hv
 simp only [hT] at hcl
 have Hcl:=lid hcl;have Hat:=lid hat;have Hv:=lid hv
 obtain ⟨V,hV⟩ : ∃ V,mchk rows = V:=⟨_,rfl⟩
 rw [hV] at Hv ⊢
 clear hcl hat hv hany hvl hp hL hT hV
 obtain ⟨W,hW_W⟩ : ∃ W,(w.alloc (.cells #[.slice a L cap] 131)) = W:=⟨_,rfl⟩
 have Hb : Hid (Below w.heap.size w W):=by rw [<- hW_W];exact ((Below.refl _ _).alloc (Nat.le_refl _) _)
 have Hn : Hid (Blk W (w.heap.size) 131 [.slice a L cap]):=by rw [<- hW_W];exact Blk.newAt _ _ _ (by simp)
 have n0:=Hn.out.c1
 go_enter Tryz.func99,Tryz.ntmps99
 by_cases h1 : 8 < L
 . have hv:=Hv.out
   rw [if_pos (.inl h1)] at hv
   subst hv
   have h2 : (8 : Int) < (L : Int):=by omega
   go_wp2
   refine bodyPost_ret (v:=.int .i64 1) (by simp [results,Tryz.results99,go_sem]) rfl ⟨rfl,?_⟩
   (repeat first | exact Hb.out | (refine Below.setCell ?_ (by have:=Hb.out.size;first | (dsimp only;omega) | (show _ <= _;omega) | (simp<;>omega)) _) | (refine Below.alloc ?_ (by have:=Hb.out.size;simp<;>omega) _) | refine Below.drew ?_)
 . have h2 : ¬ (8 : Int) < (L : Int):=by omega
   have Hcall:=lid (Hcl.out w.heap.size W n0 (Hat.out.below Hb.out))
   go_wp2_with fail
   refine (Hcall.out).mono ?_
   rintro e w1 ⟨rfl,hbn⟩
   clear n0
   replace Hn:=kB Hn hbn
   have n0:=Hn.out.c1
   replace Hb:=bnx Hb hbn;clear hbn
   cases T with
   | true =>
     have hv:=Hv.out
     rw [if_pos (.inr rfl)] at hv
     subst hv
     go_wp2
     refine bodyPost_ret (v:=.int .i64 1) (by simp [results,Tryz.results99,go_sem]) rfl ⟨rfl,?_⟩
     (repeat first | exact Hb.out | (refine Below.setCell ?_ (by have:=Hb.out.size;first | (dsimp only;omega) | (show _ <= _;omega) | (simp<;>omega)) _) | (refine Below.alloc ?_ (by have:=Hb.out.size;simp<;>omega) _) | refine Below.drew ?_)
   | false =>
     have hv:=Hv.out
     rw [if_neg (by rintro (h | h);omega;cases h)] at hv
     subst hv
     go_wp2
     refine bodyPost_ret (v:=.int .i64 0) (by simp [results,Tryz.results99,go_sem]) rfl ⟨rfl,?_⟩
     (repeat first | exact Hb.out | (refine Below.setCell ?_ (by have:=Hb.out.size;first | (dsimp only;omega) | (show _ <= _;omega) | (simp<;>omega)) _) | (refine Below.alloc ?_ (by have:=Hb.out.size;simp<;>omega) _) | refine Below.drew ?_)
theorem varsI_ok {rows : List (List Raw)} {n : Int} (h : varsI rows = n) (h0 : n ≠ 0) : 1 <= n /\ n <= 8 /\ (rows.length : Int) = n + 1 /\ ∀ r ∈ rows,(r.length : Int) = n:=by
 unfold varsI at h
 dsimp only at h
 split at h
 . exact absurd h.symm h0
 . rename_i hc
   simp only [not_or,Bool.not_eq_true,List.any_eq_false,decide_eq_true_eq,Decidable.not_not] at hc
   obtain ⟨h1,h2,h3⟩:=hc
   refine ⟨by omega,by omega,by omega,fun r hr=>?_⟩
   have:=h3 r hr
   omega
theorem varsI_of {rows : List (List Raw)} {n : Nat} (h1 : rows.length = n + 1) (h2 : ∀ r ∈ rows,r.length = n) (h3 : 1 <= n) (h8 : n <= 8) : varsI rows = n:=by
 unfold varsI
 dsimp only
 rw [if_neg]
 . omega
 . rintro (h | h | h)
   . omega
   . omega
   . rw [List.any_eq_true] at h
     obtain ⟨r,hr,h⟩:=h
     have:=h2 r hr
     simp [h1,this] at h
def sqTo (p q : List Dyadic) : Nat -> Dyadic
 | 0=>0
 | k + 1=>sqTo p q k + (p.getD k 0 - q.getD k 0) * (p.getD k 0 - q.getD k 0)
theorem sqTo_sm {B : Nat} {p q : List Dyadic} (hp : ∀ c ∈ p,Sm B c) (hq : ∀ c ∈ q,Sm B c) (k : Nat) : Sm (2 * B + 2 + k) (sqTo p q k):=by
 induction k with
 | zero=>exact Sm.zero _
 | succ k ih =>
   have h1:=Sm.sub (getD_sm hp k) (getD_sm hq k)
   have h2:=Sm.mul h1 h1
   exact Sm.add ih (h2.mono (show B + 1 + (B + 1) <= 2 * B + 2 + k by omega))
theorem square_any (a : Option Addr) (n cap : Nat) (P : List Raw) (a' : Option Addr) (cap' : Nat) (Q : List Raw) (B : Nat) (w : World) (hP : P.length = n) (hQ : Q.length = n) (hn : n <= 8) (ha : At w a (P.flatMap numC)) (ha' : At w a' (Q.flatMap numC))
 (hfP : ∀ x ∈ P,Fit B x) (hfQ : ∀ x ∈ Q,Fit B x) (hB : B <= 10000000) (hT : Tab w) :
 Calls Tryz.prog 59 #[.slice a n cap,.slice a' n cap'] w fun e w'=>e = .returned (numV (sqTo (P.map dval) (Q.map dval) n)) /\ Below w.heap.size w w':=by
 have hsP : ∀ c ∈ P.map dval,Sm B c:=fun c hc=>by
  obtain ⟨x,hx,rfl⟩:=List.mem_map.1 hc
  exact (hfP x hx).2
 have hsQ : ∀ c ∈ Q.map dval,Sm B c:=fun c hc=>by
  obtain ⟨x,hx,rfl⟩:=List.mem_map.1 hc
  exact (hfQ x hx).2
 have hsq:=fun k=>sqTo_sm hsP hsQ k
 have hstep : ∀ k (h1 : k < P.length) (h2 : k < Q.length),sqTo (P.map dval) (Q.map dval) (k + 1) = sqTo (P.map dval) (Q.map dval) k + (dval P[k] - dval Q[k]) * (dval P[k] - dval Q[k]):=fun k h1 h2=>by
  have e1 : (P.map dval).getD k 0 = dval P[k]:=by simp [h1]
  have e2 : (Q.map dval).getD k 0 = dval Q[k]:=by simp [h2]
  rw [sqTo,e1,e2]
 have hs0 : sqTo (P.map dval) (Q.map dval) 0 = 0:=rfl
 obtain ⟨F,hF⟩ : ∃ F,sqTo (P.map dval) (Q.map dval) = F:=⟨_,rfl⟩
 rw [hF] at hs0 ⊢
 simp only [hF] at hsq hstep
 have HP:=lid hP;have HQ:=lid hQ;have Ha:=lid ha;have Ha':=lid ha';have HfP:=lid hfP;have HfQ:=lid hfQ;have HT:=lid hT;have Hsq:=lid hsq;have Hstep:=lid hstep;have Hs0:=lid hs0
 clear hP hQ ha ha' hfP hfQ hT hsq hstep hs0 hF hsP hsQ
 obtain ⟨W,hW_W⟩ : ∃ W,((w.alloc (.cells #[.bool false,.string ⟨#[]⟩,.int .i64 0] 36)).alloc (.cells #[.bool false,.string ⟨#[]⟩,.int .i64 0] 36)) = W:=⟨_,rfl⟩
 have Hb : Hid (Below w.heap.size w W):=by rw [<- hW_W];exact (((Below.refl _ _).alloc (Nat.le_refl _) _).alloc (by simp<;>omega) _)
 have Hr : Hid (Blk W (w.heap.size) 36 [.bool false,.string ⟨#[]⟩,.int .i64 0]):=by rw [<- hW_W];exact (Blk.newAt _ _ _ (by simp)).alloc _
 have Hs : Hid (Blk W (w.heap.size + 1) 36 [.bool false,.string ⟨#[]⟩,.int .i64 0]):=by rw [<- hW_W];exact Blk.newAt _ _ _ (by simp)
 obtain ⟨r0,fr0,r1,fr1,r2,fr2⟩:=Hr.out.g3
 obtain ⟨s0,fs0,s1,fs1,s2,fs2⟩:=Hs.out.g3
 go_enter Tryz.func59,Tryz.ntmps59
 go_wp2_with fail
 clear r0 fr0 r1 fr1 r2 fr2
 clear s0 fs0 s1 fs1 s2 fs2
 obtain ⟨R,hR⟩ : ∃ R : World -> Prop,(fun w1=>Blk w1 (w.heap.size) 36 [.bool false,.string ⟨#[]⟩,.int .i64 0] /\ Blk w1 (w.heap.size + 1) 36 [.bool false,.string ⟨#[]⟩,.int .i64 0] /\ Below w.heap.size w w1) = R:=⟨_,rfl⟩
 first | refine wp_world R ?hR ?_ | refine calls_world R ?hR ?_
 case hR=>subst hR;exact ⟨(((Hr.out.so (w.heap.size + 1) 0 (by omega) _).so (w.heap.size + 1) 1 (by omega) _).so (w.heap.size + 1) 2 (by omega) _),(((Hs.out.set 0 _).set 1 _).set 2 _),(((Hb.out.sc (w.heap.size + 1) 0 (by have:=Hb.out.size;omega) _).sc (w.heap.size + 1) 1 (by have:=Hb.out.size;omega) _).sc (w.heap.size + 1) 2 (by have:=Hb.out.size;omega) _)⟩
 subst hR
 rintro w1 ⟨qr,qs,hbn⟩
 replace Hr:=lid qr;clear qr
 replace Hs:=lid qs;clear qs
 obtain ⟨r0,fr0,r1,fr1,r2,fr2⟩:=Hr.out.g3
 obtain ⟨s0,fs0,s1,fs1,s2,fs2⟩:=Hs.out.g3
 replace Hb:=lid hbn;clear hbn
 have lr:=Hr.out.lt;have ls:=Hs.out.lt
 go_wp2_with fail
 go_loopw [11] (fun i wr=>∃ (k : Nat) (X : Dyadic),k <= n /\ i = .int .i64 (k : Int) /\ F k = X /\ Blk wr w.heap.size 36 [.bool false,.string ⟨#[]⟩,.int .i64 0] /\ Blk wr (w.heap.size + 1) 36 (numC (canon X)) /\ Below w.heap.size w wr) (fun i _=>n - (intOf i).toNat)
 case atStart=>exact ⟨0,0,Nat.zero_le _,rfl,Hs0.out,Hr.out,Hs.out,Hb.out⟩
 case round=>
  clear r0 r1 r2 fr0 fr1 fr2 s0 s1 s2 fs0 fs1 fs2 Hr Hs
  obtain ⟨k,X,hk,rfl,hX,pr,ps,pb⟩:=hrel
  by_cases hlt : k < n
  . have k1 : k < P.length:=by rw [HP.out];exact hlt
    have k2 : k < Q.length:=by rw [HQ.out];exact hlt
    obtain ⟨sp,mp,ep,hxp⟩ : ∃ s m e,P[k] = (s,m,e):=⟨_,_,_,rfl⟩
    obtain ⟨sq,mq,eq,hxq⟩ : ∃ s m e,Q[k] = (s,m,e):=⟨_,_,_,rfl⟩
    have hfp:=HfP.out _ (List.getElem_mem k1)
    have hfq:=HfQ.out _ (List.getElem_mem k2)
    have hst:=Hstep.out k k1 k2
    rw [hxp] at hfp hst
    rw [hxq] at hfq hst
    obtain ⟨D,hD⟩ : ∃ D,dval (sp,mp,ep) - dval (sq,mq,eq) = D:=⟨_,rfl⟩
    obtain ⟨E,hE⟩ : ∃ E,D * D = E:=⟨_,rfl⟩
    obtain ⟨Y,hY⟩ : ∃ Y,X + E = Y:=⟨_,rfl⟩
    rw [hX,hD,hE,hY] at hst
    have hDs : Sm (B + 1) D:=by rw [<- hD];exact Sm.sub hfp.2 hfq.2
    have hEs : Sm (2 * B + 2) E:=by rw [<- hE];exact (Sm.mul hDs hDs).mono (by omega)
    have hXs : Sm (2 * B + 2 + k) X:=by rw [<- hX];exact Hsq.out k
    obtain ⟨b1,o1,hab1,p0,p1,p2⟩:=(Ha.out.below pb).num k k1 hxp
    obtain ⟨b2,o2,hab2,q0,q1,q2⟩:=(Ha'.out.below pb).num k k2 hxq
    have hix1:=i46x36 n cap k (k : Int) hab1 hlt rfl
    have hix2:=i46x36 n cap' k (k : Int) hab2 hlt rfl
    have Hp : Hid (Win wr b1 (o1 + k * 3) [.bool sp,.string (bs mp),.int .i64 ep]):=win3 p0 p1 p2
    have Hq : Hid (Win wr b2 (o2 + k * 3) [.bool sq,.string (bs mq),.int .i64 eq]):=win3 q0 q1 q2
    have Hfp:=lid hfp;have Hfq:=lid hfq;have HD:=lid hD;have HE:=lid hE;have HY:=lid hY;have Hst:=lid hst;have HDs:=lid hDs;have HEs:=lid hEs;have HXs:=lid hXs
    have Hr:=lid pr;have Hs : Hid (Blk wr (w.heap.size + 1) 36 [.bool (sgnB (dN X)),.string (bs (nt (dN X).natAbs)),.int .i64 (dE X)]):=ps
    have Hb0:=lid pb
    have HT1:=lid (HT.out.below pb)
    have szb:=pb.size
    clear pr ps pb hfp hfq hst hD hE hY hDs hEs hXs p0 p1 p2 q0 q1 q2 hxp hxq hX hab1 hab2
    have Hb : Hid (Below wr.heap.size wr wr):=Below.refl _ _
    go_upto_region 5 with fail
    go_cut [7] (fun s7 wx=>∃ g : Nat,s7 = .pointer (some ⟨g,0,none⟩) /\ wr.heap.size <= g /\ Blk wx g 36 [.bool (sgnB (dN D)),.string (bs (nt (dN D).natAbs)),.int .i64 (dE D)] /\ Below wr.heap.size wr wx)
    case first=>
     have p0 : wr.cell? ⟨b1,o1 + k * 3,none⟩ = some (.bool sp):=Hp.out.cell 0 (by simp)
     have p1 : wr.cell? ⟨b1,o1 + k * 3 + 1,none⟩ = some (.string (bs mp)):=Hp.out.cell 1 (by simp)
     have p2 : wr.cell? ⟨b1,o1 + k * 3 + 2,none⟩ = some (.int .i64 ep):=Hp.out.cell 2 (by simp)
     have q0 : wr.cell? ⟨b2,o2 + k * 3,none⟩ = some (.bool sq):=Hq.out.cell 0 (by simp)
     have q1 : wr.cell? ⟨b2,o2 + k * 3 + 1,none⟩ = some (.string (bs mq)):=Hq.out.cell 1 (by simp)
     have q2 : wr.cell? ⟨b2,o2 + k * 3 + 2,none⟩ = some (.int .i64 eq):=Hq.out.cell 2 (by simp)
     obtain ⟨p0,p1,p2⟩:=Hp.out.w3
     obtain ⟨q0,q1,q2⟩:=Hq.out.w3
     refine wp_region_planB (fun w'=>w'.cell? ⟨b1,o1 + k * 3,none⟩ = some (.bool sp) /\ w'.cell? ⟨b1,o1 + k * 3 + 1,none⟩ = some (.string (bs mp)) /\ w'.cell? ⟨b1,o1 + k * 3 + 2,none⟩ = some (.int .i64 ep) /\ w'.cell? ⟨b2,o2 + k * 3,none⟩ = some (.bool sq) /\ w'.cell? ⟨b2,o2 + k * 3 + 1,none⟩ = some (.string (bs mq)) /\ w'.cell? ⟨b2,o2 + k * 3 + 2,none⟩ = some (.int .i64 eq)) (fun i=>Nat.blt i 10) 8 9 [(9,false),(10,false)] [(8,false),(10,false)] [0,1,2,3,4,5,6,7] (by kernel_rfl) (by kernel_rfl) rfl rfl (by kernel_rfl) (fun o c a v w=>by cases o.dst<;>exact id) ⟨p0,p1,p2,q0,q1,q2⟩ ?_
     iterate 8 (refine planTB rfl rfl (v:=?_) (fun w' hw'=>?_) ?_;rotate_left;(focus obtain ⟨q0,q1,q2,q3,q4,q5⟩:=hw';go_simp;try with_reducible rfl);try simp only [Act.put,U1,U2,U3])
     refine planBB rfl rfl rfl rfl (fun K hK=>?_) (fun K hK=>?_)
     . go_simp
       with_reducible refine (dSub_fit sp mp ep sq mq eq D B HD.out _ Hfp.out Hfq.out (by omega) (by first | exact HT1.out | exact Tab.drew HT1.out | exact Tab.alloc HT1.out _ | exact Tab.drew (Tab.alloc HT1.out _) | exact Tab.alloc (Tab.drew HT1.out) _)).mono ?_
       rintro e w5 ⟨rfl,hq⟩
       have hw5 : Below wr.heap.size wr w5:=bundrew hq
       refine hK _ _ ⟨cell_later hw5 p0,cell_later hw5 p1,cell_later hw5 p2,cell_later hw5 q0,cell_later hw5 q1,cell_later hw5 q2⟩ ?_
       try simp only [Act.put,U1,U2,U3]
       refine planF rfl rfl (fun K hK=>?_)
       go_simp
       refine hK _ _ (fun _=>⟨cell_new (cell_later hw5 p0),cell_new (cell_later hw5 p1),cell_new (cell_later hw5 p2),cell_new (cell_later hw5 q0),cell_new (cell_later hw5 q1),cell_new (cell_later hw5 q2)⟩) ?_
       try simp only [Act.put,U1,U2,U3]
       refine planF rfl rfl (fun K hK=>?_)
       go_simp
       refine hK _ _ (fun h=>absurd h (by decide)) ?_
       simp only [wpPlan]
       go_wp2_with fail
       go_meet
       exact ⟨w5.heap.size,rfl,hw5.size,Blk.new _ _ _,hw5.alloc hw5.size _⟩
     . go_simp
       refine hK _ _ ⟨cell_new p0,cell_new p1,cell_new p2,cell_new q0,cell_new q1,cell_new q2⟩ ?_
       try simp only [Act.put,U1,U2,U3]
       refine planF rfl rfl (fun K hK=>?_)
       go_simp
       with_reducible refine (dSub_fit sp mp ep sq mq eq D B HD.out _ Hfp.out Hfq.out (by omega) (by first | exact HT1.out | exact Tab.drew HT1.out | exact Tab.alloc HT1.out _ | exact Tab.drew (Tab.alloc HT1.out _) | exact Tab.alloc (Tab.drew HT1.out) _)).mono ?_
       rintro e w5 ⟨rfl,hq⟩
       have hw5 : Below wr.heap.size wr w5:=ballocd hq
       have Hn : Blk w5 wr.heap.size 36 [.bool false,.string ⟨#[]⟩,.int .i64 0]:=Blk.below (Blk.new wr.drew 36 [.bool false,.string ⟨#[]⟩,.int .i64 0]) hq
       obtain ⟨n0,fn0,n1,fn1,n2,fn2⟩:=Hn.g3
       refine hK _ _ (fun _=>⟨cell_later hw5 p0,cell_later hw5 p1,cell_later hw5 p2,cell_later hw5 q0,cell_later hw5 q1,cell_later hw5 q2⟩) ?_
       try simp only [Act.put,U1,U2,U3]
       refine planF rfl rfl (fun K hK=>?_)
       go_simp
       refine hK _ _ (fun h=>absurd h (by decide)) ?_
       simp only [wpPlan]
       go_wp2_with fail
       go_meet
       exact ⟨wr.heap.size,rfl,Nat.le_refl _,((Hn.set 0 _).set 1 _).set 2 _,((hw5.sc wr.heap.size 0 (Nat.le_refl _) _).sc wr.heap.size 1 (Nat.le_refl _) _).sc wr.heap.size 2 (Nat.le_refl _) _⟩
    case rest=>
     obtain ⟨g,rfl,hg,qd,qb⟩:=hcut
     have HfD : Hid (Fit (B + 1) (sgnB (dN D),nt (dN D).natAbs,dE D)):=HDs.out.fit (by omega)
     have HfX : Hid (Fit (2 * B + 10) (sgnB (dN X),nt (dN X).natAbs,dE X)):=(HXs.out.mono (by omega)).fit (by omega)
     have HfE : Hid (Fit (2 * B + 10) (sgnB (dN E),nt (dN E).natAbs,dE E)):=(HEs.out.mono (by omega)).fit (by omega)
     have HmE : Hid (dval (sgnB (dN D),nt (dN D).natAbs,dE D) * dval (sgnB (dN D),nt (dN D).natAbs,dE D) = E):=by show dval (canon D) * dval (canon D) = E;rw [dval_canon];exact HE.out
     have HaY : Hid (dval (sgnB (dN X),nt (dN X).natAbs,dE X) + dval (sgnB (dN E),nt (dN E).natAbs,dE E) = Y):=by show dval (canon X) + dval (canon E) = Y;rw [dval_canon,dval_canon];exact HY.out
     have ls2:=Hs.out.lt
     replace Hr:=lid (Hr.out.below qb);replace Hs:=lid (Hs.out.below qb);have Hd:=lid qd
     replace HT1:=lid (HT1.out.below qb)
     clear Hb
     have Hb:=lid (bnext Hb0.out qb)
     have lg:=Hd.out.lt
     clear qd qb
     obtain ⟨r0,r1,r2⟩:=Hr.out.c3
     obtain ⟨s0,fs0,s1,fs1,s2,fs2⟩:=Hs.out.g3
     obtain ⟨d0,d1,d2⟩:=Hd.out.c3
     have HT1 : Hid (Tab wc):=HT1.out
     go_wp2_with fail
     refine wp_region_plan (fun w'=>w'.cell? ⟨w.heap.size + 1,0,none⟩ = some (.bool (sgnB (dN X))) /\ w'.cell? ⟨w.heap.size + 1,1,none⟩ = some (.string (bs (nt (dN X).natAbs))) /\ w'.cell? ⟨w.heap.size + 1,2,none⟩ = some (.int .i64 (dE X)) /\ w'.cell? ⟨g,0,none⟩ = some (.bool (sgnB (dN D))) /\ w'.cell? ⟨g,1,none⟩ = some (.string (bs (nt (dN D).natAbs))) /\ w'.cell? ⟨g,2,none⟩ = some (.int .i64 (dE D))) (fun i=>Nat.blt i 7) [(0,true),(1,true),(2,true),(3,false),(4,false),(5,false),(6,false),(7,false)] (by kernel_rfl) (by kernel_rfl) rfl (by kernel_rfl) (fun o c a v w=>by cases o.dst<;>exact id) ⟨s0,s1,s2,d0,d1,d2⟩ ?_
     iterate 3 (refine planT rfl rfl (v:=?_) (fun w' hw'=>?_) ?_;rotate_left;(focus obtain ⟨q0,q1,q2,q3,q4,q5⟩:=hw';go_simp;try with_reducible rfl);try simp only [Act.put,U1,U2,U3])
     refine planF rfl rfl (fun K hK=>?_)
     go_simp
     refine hK _ _ (fun _=>⟨cell_new s0,cell_new s1,cell_new s2,cell_new d0,cell_new d1,cell_new d2⟩) ?_;clear hK K
     try simp only [Act.put,U1,U2,U3]
     refine plan_world (fun w6=>Blk w6 (wc.heap.size) 36 [.bool (sgnB (dN D)),.string (bs (nt (dN D).natAbs)),.int .i64 (dE D),.bool (sgnB (dN D)),.string (bs (nt (dN D).natAbs)),.int .i64 (dE D)] /\ Below wc.heap.size wc w6) (by first | exact nw1 | exact nw2) ?_
     rintro w6 ⟨qm1,hbn⟩
     clear r0 r1 r2
     clear s0 fs0 s1 fs1 s2 fs2
     clear d0 d1 d2
     have lz_r_w6:=Hr.out.lt
     have lz_s_w6:=Hs.out.lt
     have lz_d_w6:=Hd.out.lt
     replace Hr:=kB Hr hbn
     replace Hs:=kB Hs hbn
     replace Hd:=kB Hd hbn
     replace HT1:=kT HT1 hbn
     have Hm1:=lid qm1;clear qm1
     obtain ⟨r0,r1,r2⟩:=Hr.out.c3
     obtain ⟨s0,fs0,s1,fs1,s2,fs2⟩:=Hs.out.g3
     obtain ⟨d0,d1,d2⟩:=Hd.out.c3
     obtain ⟨m10,m11,m12,m13,m14,m15⟩:=Hm1.out.c6
     replace Hb:=bnx Hb hbn;clear hbn
     refine planF rfl rfl (fun K hK=>?_)
     go_simp
     with_reducible refine (dMul_two _ _ _ _ _ _ E (B + 1) HmE.out _ 2 _ _ HfD.out HfD.out (by omega) Hm1.out (by first | exact HT1.out | exact Tab.drew HT1.out | exact Tab.alloc HT1.out _ | exact Tab.drew (Tab.alloc HT1.out _) | exact Tab.alloc (Tab.drew HT1.out) _)).mono ?_
     rintro e w7 ⟨rfl,hq⟩
     have hbn : Below w6.heap.size w6 w7:=by first | exact hq | exact bundrew hq
     clear r0 r1 r2
     clear s0 fs0 s1 fs1 s2 fs2
     clear d0 d1 d2
     clear m10 m11 m12 m13 m14 m15
     replace Hr:=kB Hr hbn
     replace Hs:=kB Hs hbn
     replace Hd:=kB Hd hbn
     replace HT1:=kT HT1 hbn
     replace Hm1:=kB Hm1 hbn
     obtain ⟨r0,r1,r2⟩:=Hr.out.c3
     obtain ⟨s0,fs0,s1,fs1,s2,fs2⟩:=Hs.out.g3
     obtain ⟨d0,d1,d2⟩:=Hd.out.c3
     obtain ⟨m10,m11,m12,m13,m14,m15⟩:=Hm1.out.c6
     replace Hb:=bnx Hb hbn;clear hbn
     refine hK _ _ (fun _=>⟨s0,s1,s2,d0,d1,d2⟩) ?_;clear hK K
     try simp only [Act.put,U1,U2,U3]
     refine planF rfl rfl (fun K hK=>?_)
     go_simp
     refine hK _ _ (fun _=>⟨cell_new s0,cell_new s1,cell_new s2,cell_new d0,cell_new d1,cell_new d2⟩) ?_;clear hK K
     try simp only [Act.put,U1,U2,U3]
     refine plan_world (fun w8=>Blk w8 (w7.heap.size) 36 [.bool (sgnB (dN X)),.string (bs (nt (dN X).natAbs)),.int .i64 (dE X),.bool (sgnB (dN E)),.string (bs (nt (dN E).natAbs)),.int .i64 (dE E)] /\ Below w7.heap.size w7 w8) (by first | exact nw1 | exact nw2) ?_
     rintro w8 ⟨qm2,hbn⟩
     clear r0 r1 r2
     clear s0 fs0 s1 fs1 s2 fs2
     clear d0 d1 d2
     clear m10 m11 m12 m13 m14 m15
     have lz_r_w8:=Hr.out.lt
     have lz_s_w8:=Hs.out.lt
     have lz_d_w8:=Hd.out.lt
     have lz_m1_w8:=Hm1.out.lt
     replace Hr:=kB Hr hbn
     replace Hs:=kB Hs hbn
     replace Hd:=kB Hd hbn
     replace HT1:=kT HT1 hbn
     replace Hm1:=kB Hm1 hbn
     have Hm2:=lid qm2;clear qm2
     obtain ⟨r0,r1,r2⟩:=Hr.out.c3
     obtain ⟨s0,fs0,s1,fs1,s2,fs2⟩:=Hs.out.g3
     obtain ⟨d0,d1,d2⟩:=Hd.out.c3
     obtain ⟨m10,m11,m12,m13,m14,m15⟩:=Hm1.out.c6
     obtain ⟨m20,m21,m22,m23,m24,m25⟩:=Hm2.out.c6
     replace Hb:=bnx Hb hbn;clear hbn
     refine planF rfl rfl (fun K hK=>?_)
     go_simp
     with_reducible refine (dAdd_two _ _ _ _ _ _ Y (2 * B + 10) HaY.out _ 2 _ _ HfX.out HfE.out (by omega) Hm2.out (by first | exact HT1.out | exact Tab.drew HT1.out | exact Tab.alloc HT1.out _ | exact Tab.drew (Tab.alloc HT1.out _) | exact Tab.alloc (Tab.drew HT1.out) _)).mono ?_
     rintro e w9 ⟨rfl,hq⟩
     have hbn : Below w8.heap.size w8 w9:=by first | exact hq | exact bundrew hq
     clear r0 r1 r2
     clear s0 fs0 s1 fs1 s2 fs2
     clear d0 d1 d2
     clear m10 m11 m12 m13 m14 m15
     clear m20 m21 m22 m23 m24 m25
     replace Hr:=kB Hr hbn
     replace Hs:=kB Hs hbn
     replace Hd:=kB Hd hbn
     replace HT1:=kT HT1 hbn
     replace Hm1:=kB Hm1 hbn
     replace Hm2:=kB Hm2 hbn
     obtain ⟨r0,r1,r2⟩:=Hr.out.c3
     obtain ⟨s0,fs0,s1,fs1,s2,fs2⟩:=Hs.out.g3
     obtain ⟨d0,d1,d2⟩:=Hd.out.c3
     obtain ⟨m10,m11,m12,m13,m14,m15⟩:=Hm1.out.c6
     obtain ⟨m20,m21,m22,m23,m24,m25⟩:=Hm2.out.c6
     replace Hb:=bnx Hb hbn;clear hbn
     refine hK _ _ (fun _=>⟨s0,s1,s2,d0,d1,d2⟩) ?_;clear hK K
     try simp only [Act.put,U1,U2,U3]
     refine planF rfl rfl (fun K hK=>?_)
     go_simp
     refine hK _ _ (fun h=>absurd h (by decide)) ?_;clear hK K
     try simp only [Act.put,U1,U2,U3]
     clear r0 r1 r2
     clear s0 fs0 s1 fs1 s2 fs2
     clear d0 d1 d2
     clear m10 m11 m12 m13 m14 m15
     clear m20 m21 m22 m23 m24 m25
     refine plan_world (fun w10=>Blk w10 (w.heap.size) 36 [.bool false,.string ⟨#[]⟩,.int .i64 0] /\ Blk w10 (w.heap.size + 1) 36 [.bool (sgnB (dN Y)),.string (bs (nt (dN Y).natAbs)),.int .i64 (dE Y)] /\ Blk w10 (g) 36 [.bool (sgnB (dN D)),.string (bs (nt (dN D).natAbs)),.int .i64 (dE D)] /\ Blk w10 (wc.heap.size) 36 [.bool (sgnB (dN D)),.string (bs (nt (dN D).natAbs)),.int .i64 (dE D),.bool (sgnB (dN D)),.string (bs (nt (dN D).natAbs)),.int .i64 (dE D)] /\ Blk w10 (w7.heap.size) 36 [.bool (sgnB (dN X)),.string (bs (nt (dN X).natAbs)),.int .i64 (dE X),.bool (sgnB (dN E)),.string (bs (nt (dN E).natAbs)),.int .i64 (dE E)] /\ Below w.heap.size w w10) ⟨(((Hr.out.so (w.heap.size + 1) 0 (by omega) _).so (w.heap.size + 1) 1 (by omega) _).so (w.heap.size + 1) 2 (by omega) _),(((Hs.out.set 0 _).set 1 _).set 2 _),(((Hd.out.so (w.heap.size + 1) 0 (by omega) _).so (w.heap.size + 1) 1 (by omega) _).so (w.heap.size + 1) 2 (by omega) _),(((Hm1.out.so (w.heap.size + 1) 0 (by omega) _).so (w.heap.size + 1) 1 (by omega) _).so (w.heap.size + 1) 2 (by omega) _),(((Hm2.out.so (w.heap.size + 1) 0 (by omega) _).so (w.heap.size + 1) 1 (by omega) _).so (w.heap.size + 1) 2 (by omega) _),by first | exact (((Hb.out.sc (w.heap.size + 1) 0 (by have:=Hb.out.size;omega) _).sc (w.heap.size + 1) 1 (by have:=Hb.out.size;omega) _).sc (w.heap.size + 1) 2 (by have:=Hb.out.size;omega) _) | exact Below.drew (((Hb.out.sc (w.heap.size + 1) 0 (by have:=Hb.out.size;omega) _).sc (w.heap.size + 1) 1 (by have:=Hb.out.size;omega) _).sc (w.heap.size + 1) 2 (by have:=Hb.out.size;omega) _)⟩ ?_
     rintro w10 ⟨qr,qs,qd,qm1,qm2,hbn⟩
     replace Hr:=lid qr;clear qr
     replace Hs:=lid qs;clear qs
     replace Hd:=lid qd;clear qd
     replace Hm1:=lid qm1;clear qm1
     replace Hm2:=lid qm2;clear qm2
     obtain ⟨r0,r1,r2⟩:=Hr.out.c3
     obtain ⟨s0,fs0,s1,fs1,s2,fs2⟩:=Hs.out.g3
     obtain ⟨d0,d1,d2⟩:=Hd.out.c3
     obtain ⟨m10,m11,m12,m13,m14,m15⟩:=Hm1.out.c6
     obtain ⟨m20,m21,m22,m23,m24,m25⟩:=Hm2.out.c6
     replace Hb:=lid hbn;clear hbn
     simp only [wpPlan]
     go_wp2
     go_roundw
     case rel=>exact ⟨k + 1,Y,by omega,by go_num,Hst.out,Hr.out,Hs.out,Hb.out⟩
     case measure=>simp [intOf];omega
  . obtain rfl : k = n:=by omega
    have Hr:=lid pr
    have Hs : Hid (Blk wr (w.heap.size + 1) 36 [.bool (sgnB (dN X)),.string (bs (nt (dN X).natAbs)),.int .i64 (dE X)]):=ps
    have HX:=lid hX
    replace Hb:=lid pb
    clear pr ps pb hX
    obtain ⟨r0,fr0,r1,fr1,r2,fr2⟩:=Hr.out.g3
    obtain ⟨s0,s1,s2⟩:=Hs.out.c3
    go_wp2
    clear r0 fr0 r1 fr1 r2 fr2
    clear s0 s1 s2
    refine body_world (fun w9=>Blk w9 (w.heap.size) 36 [.bool (sgnB (dN X)),.string (bs (nt (dN X).natAbs)),.int .i64 (dE X)] /\ Blk w9 (w.heap.size + 1) 36 [.bool (sgnB (dN X)),.string (bs (nt (dN X).natAbs)),.int .i64 (dE X)] /\ Below w.heap.size w w9) ⟨(((Hr.out.set 0 _).set 1 _).set 2 _),(((Hs.out.so (w.heap.size) 0 (by omega) _).so (w.heap.size) 1 (by omega) _).so (w.heap.size) 2 (by omega) _),(((Hb.out.sc (w.heap.size) 0 (by have:=Hb.out.size;omega) _).sc (w.heap.size) 1 (by have:=Hb.out.size;omega) _).sc (w.heap.size) 2 (by have:=Hb.out.size;omega) _)⟩ ?_
    rintro w9 ⟨qr,qs,hbn⟩
    replace Hr:=lid qr;clear qr
    replace Hs:=lid qs;clear qs
    obtain ⟨r0,fr0,r1,fr1,r2,fr2⟩:=Hr.out.g3
    obtain ⟨s0,s1,s2⟩:=Hs.out.c3
    replace Hb:=lid hbn;clear hbn
    refine bodyPost_ret (v:=numV X) (by simp [results,Tryz.results59,go_sem,r0,r1,r2]) rfl ⟨by rw [HX.out],Hb.out⟩
end Go.Proofs.YtidjljldhdckiaaGreatDoor
namespace Go.Proofs.YtidjljldhdckiaaGreatDoor
open Go.RowKit
abbrev Trm:=List UInt8 × Raw
def termC (t : Trm) : List Value:=[.string (bs t.1),.bool t.2.1,.string (bs t.2.2.1),.int .i64 t.2.2.2]
theorem At.term {w : World} {a : Option Addr} {ts : List Trm} (h : At w a (ts.flatMap termC)) (k : Nat) (hk : k < ts.length) {l : List UInt8} {s : Bool} {m : List UInt8} {e : Int} (hx : ts[k] = (l,s,m,e)) :
 ∃ b o,a = some ⟨b,o,none⟩ /\ Win w b (o + k * 4) [.string (bs l),.bool s,.string (bs m),.int .i64 e]:=by
 obtain ⟨b,o,hab,hcs⟩:=h.elem (f:=termC) (sz:=4) (fun _=>rfl) (by decide) k hk
 refine ⟨b,o,hab,fun j hj=>?_⟩
 have:=hcs j hj
 rw [hx] at this
 rw [this]
 unfold termC
 rw [List.getElem?_eq_getElem (by simpa using hj)]
def goodT (V : Int) (l : List UInt8) (x : Raw) : Bool:=mayM l V && !(dsg (dval x) == 0) && (canon (dval x) == x)
def goodAt (V : Int) (ts : List Trm) (k : Nat) : Bool:=goodT V (ts.getD k default).1 (ts.getD k default).2 && (k == 0 || Op.bytesLess (bs (ts.getD (k - 1) default).1).toList (bs (ts.getD k default).1).toList)
def pchk (V : Int) (ts : List Trm) : Int:=if ¬ (0 <= V /\ V <= 12) then 1 else if 4096 < ts.length then 3 else if (List.range ts.length).all (goodAt V ts) then 0 else 1
end Go.Proofs.YtidjljldhdckiaaGreatDoor
