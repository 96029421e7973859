/- math/bits: what the calls answer (the walks are the guide's own,turned to this program). -/
import Derived.Test.YtidjljldhdckiaaGreatDoorZ2
import Derived.Test.YtidjljldhdckiaaGreatDoorZ3
import Derived.Lib.BitFns
import Derived.Lib.ItoaNum
import Derived.Lib.TrailingZeros
import Derived.Lib.Mul64
import Derived.Laws.Bits64b
set_option maxRecDepth 100000
set_option maxHeartbeats 16000000
namespace Go.Proofs.YtidjljldhdckiaaGreatDoor
open Go.RowKit
theorem add64_run (x y c : Nat) (hx : x < WW) (hy : y < WW) (hc : c <= 1) (w : World) :
 (callFunc 132 #[.int .u64 x,.int .u64 y,.int .u64 c]).run Tryz.prog w =
  .ok (.value (.tuple #[.int .u64 (((x + y + c) % WW : Nat) : Int),.int .u64 (((x + y + c) / WW : Nat) : Int)])) w:=by
 rw [WW_def] at *
 rw [run_callFunc_extern Tryz.func132 (by kernel_rfl) (by kernel_rfl) (by kernel_rfl) (e:=add64Entry) (by kernel_rfl),run_add64 x y c (by omega) (by omega) (by omega) (by omega)]
 simp only [Result.andThen]
 congr 5<;>omega
def sub64Ent : Array Value -> Sem Value:=fun args=>do
 let (x,y,b) <- Extern.MathBitsCarry.three "Sub64" args
 pure (Extern.MathBitsCarry.pair ((x + Extern.MathBitsCarry.m64 - y - b) % Extern.MathBitsCarry.m64) (if x < y + b then 1 else 0))
theorem run_sub64e (x y b : Nat) (hb : b <= 1) (w : World) :
 (sub64Ent #[.int .u64 x,.int .u64 y,.int .u64 b]).run Tryz.prog w =
  .ok (.tuple #[.int .u64 (((x + 18446744073709551616 - y - b) % 18446744073709551616 : Nat) : Int),.int .u64 ((if x < y + b then 1 else 0 : Nat) : Int)]) w:=by
 have : b = 0 \/ b = 1:=by omega
 rcases this with rfl | rfl<;>rfl
theorem sub64_run (x y b : Nat) (hb : b <= 1) (w : World) :
 (callFunc 133 #[.int .u64 x,.int .u64 y,.int .u64 b]).run Tryz.prog w =
  .ok (.value (.tuple #[.int .u64 (((x + WW - y - b) % WW : Nat) : Int),.int .u64 ((if x < y + b then 1 else 0 : Nat) : Int)])) w:=by
 rw [run_callFunc_extern Tryz.func133 (by kernel_rfl) (by kernel_rfl) (by kernel_rfl) (e:=sub64Ent) (by kernel_rfl),run_sub64e x y b hb]
 rfl
namespace MulX
theorem maskN (a : Nat) (ha : a < 18446744073709551616) : bits .and .u64 (a : Int) 4294967295 = ((a % 4294967296 : Nat) : Int):=by
 have h:=bits_and_u64_nat a 4294967295 ha (by omega)
 have e : a &&& 4294967295 = a % 4294967296:=Nat.and_two_pow_sub_one_eq_mod a 32
 rw [e] at h
 exact h
theorem divN (a : Nat) : (a : Int) / 4294967296 = ((a / 4294967296 : Nat) : Int):=by omega
theorem mulN (a b : Nat) : (a : Int) * (b : Int) = ((a * b : Nat) : Int):=(Int.natCast_mul a b).symm
theorem addN (a b : Nat) : (a : Int) + (b : Int) = ((a + b : Nat) : Int):=(Int.natCast_add a b).symm
theorem wrapN (a : Nat) (ha : a < 18446744073709551616) : IntKind.u64.wrap (a : Int) = (a : Int):=by rw [IntKind.wrap_u64];omega
theorem wrapM (a : Nat) : IntKind.u64.wrap (a : Int) = ((a % 18446744073709551616 : Nat) : Int):=by rw [IntKind.wrap_u64];omega
end MulX
theorem mul64_any (x y : Nat) (hx : x < WW) (hy : y < WW) (w : World) :
 Calls Tryz.prog 140 #[.int .u64 x,.int .u64 y] w fun e w'=>e = .returned (.tuple #[.int .u64 ((x * y / WW : Nat) : Int),.int .u64 ((x * y % WW : Nat) : Int)]) /\ w = w':=by
 rw [WW_def] at *
 obtain ⟨bd,bt,bw,hhi⟩:=Lib.mul64_hi x y hx hy
 have ba:=Lib.half_mul_le (a:=x / 4294967296) (b:=y / 4294967296) (by omega) (by omega)
 have bb:=Lib.half_mul_le (a:=x / 4294967296) (b:=y % 4294967296) (by omega) (by omega)
 have bc:=Lib.half_mul_le (a:=x % 4294967296) (b:=y / 4294967296) (by omega) (by omega)
 have ba' : x / 4294967296 * (y / 4294967296) < 18446744073709551616:=by omega
 have bb' : x / 4294967296 * (y % 4294967296) < 18446744073709551616:=by omega
 have bc' : x % 4294967296 * (y / 4294967296) < 18446744073709551616:=by omega
 have bh1 : x / 4294967296 * (y / 4294967296) + (x / 4294967296 * (y % 4294967296) + x % 4294967296 * (y % 4294967296) / 4294967296) / 4294967296 < 18446744073709551616:=by omega
 have bh : x / 4294967296 * (y / 4294967296) + (x / 4294967296 * (y % 4294967296) + x % 4294967296 * (y % 4294967296) / 4294967296) / 4294967296 + ((x / 4294967296 * (y % 4294967296) + x % 4294967296 * (y % 4294967296) / 4294967296) % 4294967296 + x % 4294967296 * (y / 4294967296)) / 4294967296 < 18446744073709551616:=by omega
 go_enter Tryz.func140,Tryz.ntmps140
 go_wp2
 simp only [MulX.maskN x hx,MulX.maskN y hy,MulX.divN,MulX.mulN,MulX.addN,MulX.wrapN _ bd,MulX.wrapN _ bb',MulX.wrapN _ bt,MulX.maskN _ bt,MulX.wrapN _ bc',MulX.wrapN _ bw,MulX.wrapN _ ba',MulX.wrapN _ bh1,MulX.wrapN _ bh,MulX.wrapM (x * y)]
 rw [hhi]
 go_ret2
 exact ⟨rfl,rfl⟩
def blen (v : Nat) : Nat:=if v = 0 then 0 else Nat.log2 v + 1
theorem blen_lt (v : Nat) : v < 2 ^ blen v:=by
 unfold blen;split
 . subst v;simp
 . exact Nat.lt_log2_self
theorem blen_le {v k : Nat} (h : v < 2 ^ k) : blen v <= k:=by
 unfold blen;split
 . omega
 . rename_i h0;have:=(Nat.log2_lt h0).2 h;omega
theorem blen_pos {v : Nat} (h : 0 < v) : 0 < blen v:=by unfold blen;split<;>omega
theorem blen_ge {v k : Nat} (h : 2 ^ k <= v) : k < blen v:=by
 rcases Nat.lt_or_ge k (blen v) with h1 | h1
 . exact h1
 . have:=blen_lt v
   have:=Nat.pow_le_pow_right (show 0 < 2 by decide) h1
   omega
theorem bitLen_blen (x : Nat) (h : x < 18446744073709551616) : Lib.bitLen x = blen x:=by
 by_cases h0 : x = 0
 . subst h0;rfl
 . obtain ⟨h1,h2,h3⟩:=Lib.bitLenAux_bounds 64 x h h0
   have e : Lib.bitLen x = Lib.bitLenAux 64 x:=rfl
   rw [e]
   have a:=blen_le h3
   have b:=blen_ge h2
   omega
theorem len64_any (x : Nat) (w : World) (h : x < WW) :
 Calls Tryz.prog 141 #[.int .u64 x] w fun e w'=>e = .returned (.int .i64 (blen x)) /\ w = w':=by
 rw [WW_def] at h
 refine (len64_lib x w (by omega) (by omega)).mono ?_
 rintro e w' ⟨rfl,rfl⟩
 rw [Int.toNat_natCast,bitLen_blen x h]
 exact ⟨rfl,rfl⟩
theorem lz64_any (x : Nat) (w : World) (h : x < WW) :
 Calls Tryz.prog 131 #[.int .u64 x] w fun e w'=>e = .returned (.int .i64 (64 - blen x : Int)) /\ w = w':=by
 have hb : blen x <= 64:=blen_le (by rw [WW_two] at h;exact h)
 have Hx:=lid h;clear h
 go_enter Tryz.func131,Tryz.ntmps131
 go_wp2_with (go_at_call 141;refine (len64_any _ _ Hx.out).mono ?_;rintro e w' ⟨rfl,rfl⟩)
 go_ret
 exact ⟨rfl,rfl⟩
def Tab (w : World) : Prop:=∀ j,j < Lib.deBruijn64tab.length -> w.cell? ⟨0,j,none⟩ = some (.int .u8 (Lib.deBruijn64tab.getD j 0))
theorem Tab.below {w w' : World} (h : Tab w) (hb : Below w.heap.size w w') : Tab w':=fun j hj=>cell_later hb (h j hj)
theorem kT {w w' : World} (h : Hid (Tab w)) (k : Below w.heap.size w w') : Hid (Tab w'):=h.out.below k
theorem Tab.grown {w w' : World} {r : Option Nat} (h : Tab w) (hb : w.grownBy w' r) (hr : ∀ k,r = some k -> 0 < k) : Tab w':=
 fun j hj=>hb.cell (h j hj) (fun e=>by have:=hr _ e.symm;simp at this)
theorem tz64_core (x k idx : Nat) (w : World) (hx0 : ((x : Int) == 0) = false)
 (key : IntKind.u64.wrap (bits BinOp.and IntKind.u64 (x : Int) (IntKind.u64.wrap (-(x : Int))) * 285870213051353865) / 288230376151711744 = (idx : Int))
 (hi : idx < 64) (hk : k < 64) (hcell : w.cell? ⟨0,idx,none⟩ = some (.int .u8 k)) :
 Calls Tryz.prog 90 #[.int .u64 x] w fun e w'=>e = .returned (.int .i64 k) /\ w = w':=by
 go_enter Tryz.func90,Tryz.ntmps90
 go_wp2_with (simp only [key])
 go_ret
 exact ⟨rfl,rfl⟩
theorem tz64_key (x a : Nat) (hx : x < 18446744073709551616) (hlow : x &&& (18446744073709551616 - x) = a) (hx0 : x ≠ 0) :
 IntKind.u64.wrap (bits BinOp.and IntKind.u64 (x : Int) (IntKind.u64.wrap (-(x : Int))) * 285870213051353865) / 288230376151711744 = ((a * 285870213051353865 % 18446744073709551616 / 288230376151711744 : Nat) : Int):=by
 have e1 : IntKind.u64.wrap (-(x : Int)) = ((18446744073709551616 - x : Nat) : Int):=by rw [IntKind.wrap_u64];omega
 rw [e1,bits_and_u64_nat x _ hx (by omega),hlow,IntKind.wrap_u64]
 omega
theorem tz64_any (x : Nat) (hx : x < WW) (hx0 : x ≠ 0) (w : World) (hT : Tab w) :
 Calls Tryz.prog 90 #[.int .u64 x] w fun e w'=>e = .returned (.int .i64 (Lib.ctz 64 x)) /\ w = w':=by
 rw [WW_def] at hx
 obtain ⟨hlow,hk⟩:=Lib.lowest_bit 64 x hx0 hx
 obtain ⟨hi,htab⟩:=Lib.deBruijn64_at _ hk
 have hcell:=hT _ hi
 rw [htab] at hcell
 exact tz64_core x _ _ w (by simp;omega) (tz64_key x _ hx hlow hx0) hi hk hcell
theorem ctz_spec (x : Nat) (hx : x < WW) (hx0 : x ≠ 0) : ∃ m,x = 2 ^ Lib.ctz 64 x * (2 * m + 1) /\ Lib.ctz 64 x < 64:=by
 have:=Lib.ctzFrom_spec 64 x (by omega) (by rw [WW_two] at hx;exact hx)
 unfold Lib.ctz;rw [if_neg hx0];exact this
theorem cut_any (b o n cap v : Nat) (w : World) (hm : n <= 1099511627776) (hcap : n <= cap) (hc : LimAt w b o n v) (hv : v < WW ^ n) :
 Calls Tryz.prog 111 #[.slice (some ⟨b,o,none⟩) n cap] w fun e w'=>e = .returned (.slice (some ⟨b,o,none⟩) (ln v) cap) /\ w = w':=by
 have Hc:=lid hc;clear hc
 have Hv:=lid hv;clear hv
 go_enter Tryz.func111,Tryz.ntmps111
 go_wp2
 go_loop [0] (fun x=>∃ k : Nat,k <= n /\ v < WW ^ k /\ x = .slice (some ⟨b,o,none⟩) k cap) (fun x=>match x with | .slice _ k _=>k | _=>0)
 case atStart=>exact ⟨n,Nat.le_refl _,Hv.out,rfl⟩
 case round=>
  obtain ⟨k,hk,hvk,rfl⟩:=hrel
  have Hvk:=lid hvk;clear hvk
  by_cases h0 : 0 < k
  . have hcell : w.cell? ⟨b,o + (k - 1),none⟩ = some (.int .u64 (dg v (k - 1) : Int)):=Hc.out _ (by omega)
    by_cases hd : dg v (k - 1) = 0
    . have hd' : ((dg v (k - 1) : Int) == 0) = true:=by simp [hd]
      have Hd:=lid hd;clear hd
      go_wp2
      refine ⟨⟨k - 1,by omega,?_,rfl⟩,by simp;omega⟩
      refine top_zero ?_ Hd.out
      rw [show k - 1 + 1 = k by omega];exact Hvk.out
    . have hd' : ((dg v (k - 1) : Int) == 0) = false:=by simp [hd]
      have Hd:=lid hd;clear hd
      go_wp2
      go_ret
      have e : ln v = k:=by
       have:=ln_eq (v:=v) (n:=k - 1) (by rw [show k - 1 + 1 = k by omega];exact Hvk.out) (top_pos Hd.out)
       omega
      rw [e];exact ⟨rfl,rfl⟩
  . obtain rfl : k = 0:=by omega
    go_wp2
    go_ret
    have e : ln v = 0:=by
     have:=Hvk.out;simp at this;subst this;rfl
    rw [e];exact ⟨rfl,rfl⟩
theorem cut_nil (cap : Nat) (a : Option Addr) (w : World) :
 Calls Tryz.prog 111 #[.slice a 0 cap] w fun e w'=>e = .returned (.slice a 0 cap) /\ w = w':=by
 go_enter Tryz.func111,Tryz.ntmps111
 go_wp2
 refine wp_loop_rounds 1 ?_
 rw [rounds_succ]
 go_wp2
 go_ret
 exact ⟨rfl,rfl⟩
def patch (F : Nat -> Nat) (o k : Nat) (G : Nat -> Nat) (j : Nat) : Nat:=if o <= j /\ j < o + k then G (j - o) else F j
theorem patch_zero (F : Nat -> Nat) (o : Nat) (G : Nat -> Nat) : patch F o 0 G = F:=by
 funext j;unfold patch;rw [if_neg (by omega)]
theorem patch_at (F : Nat -> Nat) (o k : Nat) (G : Nat -> Nat) (j : Nat) (h : k <= j) : patch F o k G (o + j) = F (o + j):=by
 unfold patch;rw [if_neg (by omega)]
theorem patch_in (F : Nat -> Nat) (o k : Nat) (G : Nat -> Nat) (j : Nat) (h : j < k) : patch F o k G (o + j) = G j:=by
 unfold patch;rw [if_pos (by omega)];congr 1;omega
theorem patch_set (N : Nat) (F : Nat -> Nat) (o i : Nat) (G : Nat -> Nat) (x : Nat) (hx : x = G i) :
 (uls N (patch F o i G)).set (o + i) (.int .u64 (x : Int)) = uls N (patch F o (i + 1) G):=by
 rw [uls_set]
 refine uls_congr fun j _=>?_
 unfold patch
 by_cases h : j = o + i
 . subst h;rw [if_pos rfl,if_pos (by omega),hx];congr 1;omega
 . rw [if_neg h]
   by_cases h2 : o <= j /\ j < o + i
   . rw [if_pos h2,if_pos (by omega)]
   . rw [if_neg h2,if_neg (by omega)]
theorem ladd_any (b N o n capx : Nat) (F : Nat -> Nat) (v : Nat) (b2 o2 m cap2 u : Nat) (w : World) (hm : n <= 1099511627776) (_hm2 : m <= 1099511627776)
 (hB : Blk w b 118 (uls N F)) (hN : o + n <= N) (hF : ∀ j,j < n -> F (o + j) = dg v j)
 (hy : LimAt w b2 o2 m u) (hu : u < WW ^ m) (hne : b2 ≠ b) :
 Calls Tryz.prog 117 #[.slice (some ⟨b,o,none⟩) n capx,.slice (some ⟨b2,o2,none⟩) m cap2] w fun e w'=>e = .returned (.tuple #[]) /\
  Blk w' b 118 (uls N (patch F o n (dg (v + u)))) /\ w.grownBy w' (some b):=by
 have HB:=lid hB;clear hB
 have HF:=lid hF;clear hF
 have Hy:=lid hy;clear hy
 have Hu:=lid hu;clear hu
 go_enter Tryz.func117,Tryz.ntmps117
 go_wp2
 go_loopw [4,5,6,9] (fun c _ _ i wr=>∃ k : Nat,k <= n /\ i = .int .i64 k /\ c = .int .u64 (cy v u 1 k : Int) /\ Blk wr b 118 (uls N (patch F o k (dg (v + u)))) /\ w.grownBy wr (some b)) (fun _ _ _ i _=>n - (intOf i).toNat)
 case atStart=>exact ⟨0,Nat.zero_le _,rfl,by rw [cy_zero];rfl,by rw [patch_zero];exact HB.out,grownBy_refl _ _⟩
 case round=>
  obtain ⟨k,hk,rfl,rfl,hBk,hg⟩:=hrel
  by_cases hlt : k < n
  . have hcell : wr.cell? ⟨b,o + k,none⟩ = some (.int .u64 (dg v k : Int)):=by
     rw [hBk.cell,uls_get _ _ _ (by omega),patch_at _ _ _ _ _ (Nat.le_refl _),HF.out k hlt]
    have hfree : wr.frozen? ⟨b,o + k,none⟩ = false:=hBk.free _
    have hstep:=cy_step v u 1 k
    have hcy : cy v u 1 k <= 1:=by
     unfold cy
     have h1:=Nat.mod_lt v (WWp_pos k)
     have h2:=Nat.mod_lt u (WWp_pos k)
     have : (v % WW ^ k + u % WW ^ k * 1) / WW ^ k < 2:=by
      rw [Nat.div_lt_iff_lt_mul (WWp_pos k)];omega
     omega
    have hrun:=fun W=>add64_run (dg v k) (dg u k) (cy v u 1 k) (dg_lt _ _) (dg_lt _ _) hcy W
    have e1 : (dg v k + dg u k + cy v u 1 k) % WW = dg (v + u) k:=by have:=hstep.1;simp only [Nat.mul_one] at this;exact this
    have e2 : (dg v k + dg u k + cy v u 1 k) / WW = cy v u 1 (k + 1):=by have:=hstep.2;simp only [Nat.mul_one] at this;exact this
    rw [e1,e2] at hrun
    clear hstep e1 e2
    have Hend : Hid (Blk (wr.setCell ⟨b,o + k,none⟩ (.int .u64 (dg (v + u) k : Int))) b 118 (uls N (patch F o (k + 1) (dg (v + u))))):=by
     rw [<- patch_set N F o k (dg (v + u)) _ rfl];exact hBk.set _ _
    have Hg : Hid (w.grownBy (wr.setCell ⟨b,o + k,none⟩ (.int .u64 (dg (v + u) k : Int))) (some b)):=grownBy_trans hg (grownBy_set b rfl _)
    clear hBk
    by_cases hkm : k < m
    . have hcy2 : wr.cell? ⟨b2,o2 + k,none⟩ = some (.int .u64 (dg u k : Int)):=grownBy_cell hg (Hy.out k hkm) (by simp;omega)
      clear hg
      go_wp2
      go_roundw
      case rel=>exact ⟨k + 1,by omega,by go_num,rfl,Hend.out,Hg.out⟩
      case measure=>simp [intOf];omega
    . have hz : dg u k = 0:=dg_of_lt Hu.out (by omega)
      simp only [hz,show ((0 : Nat) : Int) = 0 from rfl] at hrun
      clear hg hz
      go_wp2
      go_roundw
      case rel=>exact ⟨k + 1,by omega,by go_num,rfl,Hend.out,Hg.out⟩
      case measure=>simp [intOf];omega
  . obtain rfl : k = n:=by omega
    have Hend:=lid hBk;clear hBk
    have Hg:=lid hg;clear hg
    go_wp2
    go_end0
    exact ⟨rfl,Hend.out,Hg.out⟩
theorem ltake_any (b N o n capx : Nat) (F : Nat -> Nat) (v : Nat) (b2 o2 m cap2 u : Nat) (w : World) (hm : n <= 1099511627776) (_hm2 : m <= 1099511627776)
 (hB : Blk w b 118 (uls N F)) (hN : o + n <= N) (hF : ∀ j,j < n -> F (o + j) = dg v j)
 (hy : LimAt w b2 o2 m u) (hu : u < WW ^ m) (hne : b2 ≠ b) (huv : u <= v) (hv : v < WW ^ n) :
 Calls Tryz.prog 120 #[.slice (some ⟨b,o,none⟩) n capx,.slice (some ⟨b2,o2,none⟩) m cap2] w fun e w'=>e = .returned (.bool true) /\
  Blk w' b 118 (uls N (patch F o n (dg (v - u)))) /\ w.grownBy w' (some b):=by
 have HB:=lid hB;clear hB
 have HF:=lid hF;clear hF
 have Hy:=lid hy;clear hy
 have Hu:=lid hu;clear hu
 have Hv:=lid hv;clear hv
 have Huv:=lid huv;clear huv
 go_enter Tryz.func120,Tryz.ntmps120
 go_wp2
 go_loopw [5,6,7,10] (fun c _ _ i wr=>∃ k : Nat,k <= n /\ i = .int .i64 k /\ c = .int .u64 (bw v u k : Int) /\ Blk wr b 118 (uls N (patch F o k (dg (v - u)))) /\ w.grownBy wr (some b)) (fun _ _ _ i _=>n - (intOf i).toNat)
 case atStart=>exact ⟨0,Nat.zero_le _,rfl,by rw [bw_zero];rfl,by rw [patch_zero];exact HB.out,grownBy_refl _ _⟩
 case round=>
  obtain ⟨k,hk,rfl,rfl,hBk,hg⟩:=hrel
  by_cases hlt : k < n
  . have hcell : wr.cell? ⟨b,o + k,none⟩ = some (.int .u64 (dg v k : Int)):=by
     rw [hBk.cell,uls_get _ _ _ (by omega),patch_at _ _ _ _ _ (Nat.le_refl _),HF.out k hlt]
    have hfree : wr.frozen? ⟨b,o + k,none⟩ = false:=hBk.free _
    have hrun:=fun W=>sub64_run (dg v k) (dg u k) (bw v u k) (bw_le _ _ _) W
    rw [bw_digit v u k Huv.out,<- bw_step v u k] at hrun
    have Hend : Hid (Blk (wr.setCell ⟨b,o + k,none⟩ (.int .u64 (dg (v - u) k : Int))) b 118 (uls N (patch F o (k + 1) (dg (v - u))))):=by
     rw [<- patch_set N F o k (dg (v - u)) _ rfl];exact hBk.set _ _
    have Hg : Hid (w.grownBy (wr.setCell ⟨b,o + k,none⟩ (.int .u64 (dg (v - u) k : Int))) (some b)):=grownBy_trans hg (grownBy_set b rfl _)
    clear hBk
    by_cases hkm : k < m
    . have hcy2 : wr.cell? ⟨b2,o2 + k,none⟩ = some (.int .u64 (dg u k : Int)):=grownBy_cell hg (Hy.out k hkm) (by simp;omega)
      clear hg
      go_wp2
      go_roundw
      case rel=>exact ⟨k + 1,by omega,by go_num,rfl,Hend.out,Hg.out⟩
      case measure=>simp [intOf];omega
    . have hz : dg u k = 0:=dg_of_lt Hu.out (by omega)
      simp only [hz,show ((0 : Nat) : Int) = 0 from rfl] at hrun
      clear hg hz
      go_wp2
      go_roundw
      case rel=>exact ⟨k + 1,by omega,by go_num,rfl,Hend.out,Hg.out⟩
      case measure=>simp [intOf];omega
  . obtain rfl : k = n:=by omega
    have Hend:=lid hBk;clear hBk
    have Hg:=lid hg;clear hg
    have hb0 : bw v u k = 0:=by
     unfold bw
     rw [Nat.mod_eq_of_lt Hv.out,Nat.mod_eq_of_lt (Nat.lt_of_le_of_lt Huv.out Hv.out),if_neg (by have:=Huv.out;omega)]
    rw [hb0]
    have hb1 : (((0 : Nat) : Int) == 0) = true:=rfl
    clear hb0
    go_wp2
    go_ret
    exact ⟨rfl,Hend.out,Hg.out⟩
theorem plus_step (x p c0 : Nat) : (x + (p % WW + c0 + 0) % WW + 0) % WW = (x + p + c0) % WW /\ p / WW + (p % WW + c0 + 0) / WW + (x + (p % WW + c0 + 0) % WW + 0) / WW = (x + p + c0) / WW:=by
 rw [WW_def];omega
theorem plus_lt (x d m c : Nat) (hx : x < WW) (hd : d < WW) (hm : m < WW) (hc : c < WW) : (x + d * m + c) / WW < WW:=by
 rw [Nat.div_lt_iff_lt_mul WW_pos]
 have h1 : d * m <= (WW - 1) * (WW - 1):=Nat.mul_le_mul (by omega) (by omega)
 have : (WW - 1) * (WW - 1) + (WW - 1) + (WW - 1) < WW * WW:=by decide
 omega
theorem u64_sum (a b : Nat) (h : a + b < WW) : IntKind.u64.wrap ((a : Int) + (b : Int)) = ((a + b : Nat) : Int):=by
 rw [WW_def] at h
 rw [IntKind.wrap_u64];omega
theorem lplus_any (b N o n capx : Nat) (F : Nat -> Nat) (v : Nat) (b2 o2 m cap2 u q : Nat) (w : World) (hm : n <= 1099511627776) (_hm2 : m <= 1099511627776)
 (hB : Blk w b 118 (uls N F)) (hN : o + n <= N) (hF : ∀ j,j < n -> F (o + j) = dg v j)
 (hy : LimAt w b2 o2 m u) (hu : u < WW ^ m) (hne : b2 ≠ b) (hq : q < WW) :
 Calls Tryz.prog 130 #[.slice (some ⟨b,o,none⟩) n capx,.slice (some ⟨b2,o2,none⟩) m cap2,.int .u64 (q : Int)] w fun e w'=>e = .returned (.tuple #[]) /\
  Blk w' b 118 (uls N (patch F o n (dg (v + u * q)))) /\ w.grownBy w' (some b):=by
 have HB:=lid hB;clear hB
 have HF:=lid hF;clear hF
 have Hy:=lid hy;clear hy
 have Hu:=lid hu;clear hu
 have Hq:=lid hq;clear hq
 go_enter Tryz.func130,Tryz.ntmps130
 go_wp2
 go_loopw [6,7,8,9,10,11,14] (fun c _ _ _ _ _ i wr=>∃ k : Nat,k <= n /\ i = .int .i64 k /\ c = .int .u64 (cy v u q k : Int) /\ Blk wr b 118 (uls N (patch F o k (dg (v + u * q)))) /\ w.grownBy wr (some b)) (fun _ _ _ _ _ _ i _=>n - (intOf i).toNat)
 case atStart=>exact ⟨0,Nat.zero_le _,rfl,by rw [cy_zero];rfl,by rw [patch_zero];exact HB.out,grownBy_refl _ _⟩
 case round=>
  obtain ⟨k,hk,rfl,rfl,hBk,hg⟩:=hrel
  by_cases hlt : k < n
  . have hcell : wr.cell? ⟨b,o + k,none⟩ = some (.int .u64 (dg v k : Int)):=by
     rw [hBk.cell,uls_get _ _ _ (by omega),patch_at _ _ _ _ _ (Nat.le_refl _),HF.out k hlt]
    have hfree : wr.frozen? ⟨b,o + k,none⟩ = false:=hBk.free _
    have hcl:=cy_lt v u q k Hq.out
    have hs:=plus_step (dg v k) (dg u k * q) (cy v u q k)
    have hl:=plus_lt (dg v k) (dg u k) q (cy v u q k) (dg_lt _ _) (dg_lt _ _) Hq.out hcl
    have hstep:=cy_step v u q k
    rw [hstep.1,hstep.2] at hs
    rw [hstep.2,<- hs.2] at hl
    have hmul:=fun W=>mul64_any (dg u k) q (dg_lt _ _) Hq.out W
    have r1:=fun W=>add64_run (dg u k * q % WW) (cy v u q k) 0 (Nat.mod_lt _ WW_pos) hcl (by omega) W
    have r2:=fun W=>add64_run (dg v k) ((dg u k * q % WW + cy v u q k + 0) % WW) 0 (dg_lt _ _) (Nat.mod_lt _ WW_pos) (by omega) W
    rw [hs.1] at r2
    have Hs2:=lid hs.2
    clear hs hstep hcl
    generalize (dg u k * q % WW + cy v u q k + 0) % WW = lo2 at *
    generalize (dg u k * q % WW + cy v u q k + 0) / WW = c1 at *
    generalize (dg v k + lo2 + 0) / WW = c2 at *
    generalize dg u k * q / WW = hi at *
    generalize dg u k * q % WW = lo at *
    have s1:=u64_sum hi c1 (by omega)
    have s2:=u64_sum (hi + c1) c2 hl
    have Hmul:=lid hmul
    clear hl hmul
    simp only [show ((0 : Nat) : Int) = 0 from rfl] at r1 r2
    have Hend : Hid (Blk (wr.setCell ⟨b,o + k,none⟩ (.int .u64 (dg (v + u * q) k : Int))) b 118 (uls N (patch F o (k + 1) (dg (v + u * q))))):=by
     rw [<- patch_set N F o k (dg (v + u * q)) _ rfl];exact hBk.set _ _
    have Hg : Hid (w.grownBy (wr.setCell ⟨b,o + k,none⟩ (.int .u64 (dg (v + u * q) k : Int))) (some b)):=grownBy_trans hg (grownBy_set b rfl _)
    clear hBk
    by_cases hkm : k < m
    . have hcy2 : wr.cell? ⟨b2,o2 + k,none⟩ = some (.int .u64 (dg u k : Int)):=grownBy_cell hg (Hy.out k hkm) (by simp;omega)
      clear hg
      go_wp2_with (go_at_call 140;refine (Hmul.out _).mono ?_;rintro e w' ⟨rfl,rfl⟩)
      go_roundw
      case rel=>exact ⟨k + 1,by omega,by go_num,by rw [<- Hs2.out,<- s2,Int.natCast_add],Hend.out,Hg.out⟩
      case measure=>simp [intOf];omega
    . have hz : dg u k = 0:=dg_of_lt Hu.out (by omega)
      have Hmul0 : Hid (∀ W,Calls Tryz.prog 140 #[.int .u64 0,.int .u64 (q : Int)] W fun e w'=>e = .returned (.tuple #[.int .u64 (hi : Int),.int .u64 (lo : Int)]) /\ W = w'):=by
       have:=Hmul.out
       simp only [hz,show ((0 : Nat) : Int) = 0 from rfl] at this
       exact this
      clear hg hz Hmul
      go_wp2_with (go_at_call 140;refine (Hmul0.out _).mono ?_;rintro e w' ⟨rfl,rfl⟩)
      go_roundw
      case rel=>exact ⟨k + 1,by omega,by go_num,by rw [<- Hs2.out,<- s2,Int.natCast_add],Hend.out,Hg.out⟩
      case measure=>simp [intOf];omega
  . obtain rfl : k = n:=by omega
    have Hend:=lid hBk;clear hBk
    have Hg:=lid hg;clear hg
    go_wp2
    go_end0
    exact ⟨rfl,Hend.out,Hg.out⟩
end Go.Proofs.YtidjljldhdckiaaGreatDoor
