/- The limbs' functions,on. -/
import Derived.Test.YtidjljldhdckiaaGreatDoorZ4
import Derived.Laws.CopyOwn
import Derived.Test.YtidjljldhdckiaaGreatDoorZ1
set_option maxRecDepth 100000
set_option maxHeartbeats 16000000
namespace Go.Proofs.YtidjljldhdckiaaGreatDoor
open Go.RowKit
theorem blen_top (v k : Nat) (h : v < WW ^ (k + 1)) (h0 : WW ^ k <= v) : blen v = 64 * k + blen (dg v k) /\ blen (dg v k) <= 64 /\ 0 < blen (dg v k):=by
 have hd : dg v k = v / WW ^ k:=by
  unfold dg
  rw [Nat.mod_eq_of_lt]
  rw [Nat.div_lt_iff_lt_mul (WWp_pos k)];rw [Nat.pow_succ,Nat.mul_comm] at h;exact h
 have hd0 : 0 < dg v k:=by rw [hd];exact Nat.div_pos h0 (WWp_pos k)
 have hl:=dg_lt v k
 refine ⟨?_,blen_le (by rw [WW_two] at hl;exact hl),blen_pos hd0⟩
 have a1:=blen_lt (dg v k)
 have e : dg v k = 2 ^ (blen (dg v k) - 1) \/ 2 ^ (blen (dg v k) - 1) <= dg v k:=by
  right
  unfold blen;rw [if_neg (by omega)];simp;exact Nat.log2_self_le (by omega)
 have a2 : 2 ^ (blen (dg v k) - 1) <= dg v k:=by rcases e with e | e<;>omega
 have hm:=Nat.mod_lt v (WWp_pos k)
 have hv:=(Nat.mod_add_div v (WW ^ k)).symm
 rw [<- hd] at hv
 generalize v % WW ^ k = r at hv hm
 have b1 : v < 2 ^ (64 * k + blen (dg v k)):=by
  rw [Nat.pow_add,<- WWp_two]
  have : WW ^ k * (dg v k + 1) <= WW ^ k * 2 ^ blen (dg v k):=Nat.mul_le_mul_left _ a1
  rw [Nat.mul_add] at this
  omega
 have b2 : 2 ^ (64 * k + blen (dg v k) - 1) <= v:=by
  have:=blen_pos hd0
  rw [show 64 * k + blen (dg v k) - 1 = 64 * k + (blen (dg v k) - 1) by omega,Nat.pow_add,<- WWp_two]
  have : WW ^ k * 2 ^ (blen (dg v k) - 1) <= WW ^ k * dg v k:=Nat.mul_le_mul_left _ a2
  omega
 have c1:=blen_le b1
 have c2:=blen_ge b2
 omega
theorem ln_spec {v k : Nat} (h : ln v = k + 1) : v < WW ^ (k + 1) /\ WW ^ k <= v:=by
 refine ⟨by rw [<- h];exact lt_ln v,?_⟩
 rcases Nat.lt_or_ge v (WW ^ k) with h1 | h1
 . have:=ln_le h1;omega
 . exact h1
theorem llen_any (b o n cap v : Nat) (w : World) (hm : n <= 1099511627776) (hcap : n <= cap) (hc : LimAt w b o n v) (hv : v < WW ^ n) :
 Calls Tryz.prog 114 #[.slice (some ⟨b,o,none⟩) n cap] w fun e w'=>e = .returned (.int .i64 (blen v : Int)) /\ w = w':=by
 have hle:=ln_le hv
 have Hv:=lid hv;clear hv
 rcases Nat.eq_zero_or_pos (ln v) with h0 | h0
 . have Hc:=lid hc;clear hc
   have hv0 : v = 0:=by have:=lt_ln v;rw [h0] at this;simpa using this
   subst hv0
   clear h0
   go_enter Tryz.func114,Tryz.ntmps114
   go_wp2_with (go_at_call 111;refine (cut_any b o n cap 0 _ hm hcap Hc.out Hv.out).mono ?_;rintro e w' ⟨rfl,rfl⟩;rw [ln_zero])
   go_ret
   exact ⟨rfl,rfl⟩
 . obtain ⟨k,hk⟩ : ∃ k,ln v = k + 1:=⟨ln v - 1,by omega⟩
   obtain ⟨h1,h2⟩:=ln_spec hk
   obtain ⟨e1,e2,e3⟩:=blen_top v k h1 h2
   have hcell : w.cell? ⟨b,o + k,none⟩ = some (.int .u64 (dg v k : Int)):=hc _ (by omega)
   have Hc:=lid hc;clear hc
   have He1:=lid e1
   have Hk:=lid hk
   have hkn : k + 1 <= n:=by omega
   clear h1 h2 h0 hle hk e1
   go_enter Tryz.func114,Tryz.ntmps114
   go_wp2_with (first
    | (go_at_call 111;refine (cut_any b o n cap v _ hm hcap Hc.out Hv.out).mono ?_;rintro e w' ⟨rfl,rfl⟩;rw [Hk.out])
    | (go_at_call 131;refine (lz64_any _ _ (dg_lt _ _)).mono ?_;rintro e w' ⟨rfl,rfl⟩))
   go_ret
   rw [He1.out]
   refine ⟨congrArg (fun z : Int=>Ending.returned (.int .i64 z)) ?_,rfl⟩
   omega
theorem llen_nil (a : Option Addr) (cap : Nat) (w : World) :
 Calls Tryz.prog 114 #[.slice a 0 cap] w fun e w'=>e = .returned (.int .i64 0) /\ w = w':=by
 go_enter Tryz.func114,Tryz.ntmps114
 go_wp2_with (go_at_call 111;refine (cut_nil cap a _).mono ?_;rintro e w' ⟨rfl,rfl⟩)
 go_ret
 exact ⟨rfl,rfl⟩
def cmpI (a b : Nat) : Int:=if a < b then -1 else if b < a then 1 else 0
theorem dg_lt_of {v u k : Nat} (h : v / WW ^ (k + 1) = u / WW ^ (k + 1)) (hd : dg v k < dg u k) : v < u:=by
 unfold dg at hd
 have e1:=(Nat.mod_add_div (v / WW ^ k) WW).symm
 have e2:=(Nat.mod_add_div (u / WW ^ k) WW).symm
 rw [Nat.pow_succ,<- Nat.div_div_eq_div_mul,<- Nat.div_div_eq_div_mul] at h
 have : v / WW ^ k < u / WW ^ k:=by rw [e1,e2,h];omega
 exact Nat.lt_of_div_lt_div this
theorem dg_eq_of {v u k : Nat} (h : v / WW ^ (k + 1) = u / WW ^ (k + 1)) (hd : dg v k = dg u k) : v / WW ^ k = u / WW ^ k:=by
 unfold dg at hd
 have e1:=(Nat.mod_add_div (v / WW ^ k) WW).symm
 have e2:=(Nat.mod_add_div (u / WW ^ k) WW).symm
 rw [Nat.pow_succ,<- Nat.div_div_eq_div_mul,<- Nat.div_div_eq_div_mul] at h
 rw [e1,e2,h,hd]
theorem ln_lt_of {v u : Nat} (h : ln v < ln u) : v < u:=by
 rcases Nat.lt_or_ge v u with h1 | h1
 . exact h1
 . have:=ln_le (Nat.lt_of_le_of_lt h1 (lt_ln v));omega
theorem lcmp_any (b o n cap v b2 o2 m cap2 u : Nat) (w : World) (hm : n <= 1099511627776) (hcap : n <= cap) (hc : LimAt w b o n v) (hv : v < WW ^ n)
 (hm2 : m <= 1099511627776) (hcap2 : m <= cap2) (hc2 : LimAt w b2 o2 m u) (hu : u < WW ^ m) :
 Calls Tryz.prog 119 #[.slice (some ⟨b,o,none⟩) n cap,.slice (some ⟨b2,o2,none⟩) m cap2] w fun e w'=>e = .returned (.int .i64 (cmpI v u)) /\ Below w.heap.size w w':=by
 have l1:=ln_le hv
 have l2:=ln_le hu
 have Hv:=lid hv;clear hv
 have Hu:=lid hu;clear hu
 have Hc:=lid hc;clear hc
 have Hc2:=lid hc2;clear hc2
 have Kv:=lid (lt_ln v)
 have Ku:=lid (lt_ln u)
 by_cases hlt : ln v < ln u
 . have hf : (((ln v : Nat) : Int) != ((ln u : Nat) : Int)) = true:=by rw [bne_iff_ne];omega
   have Hres : Hid (cmpI v u = -1):=by show cmpI v u = -1;unfold cmpI;rw [if_pos (ln_lt_of hlt)]
   go_enter Tryz.func119,Tryz.ntmps119
   go_wp2_with fail
   refine (cut_any b o n cap v _ hm hcap Hc.out Hv.out).mono ?_;rintro e w' ⟨rfl,rfl⟩
   go_wp2_with fail
   refine (cut_any b2 o2 m cap2 u _ hm2 hcap2 Hc2.out Hu.out).mono ?_;rintro e w' ⟨rfl,rfl⟩
   go_wp2
   go_ret
   rw [Hres.out]
   exact ⟨rfl,Below.refl _ _⟩
 by_cases hgt : ln u < ln v
 . have hf : (((ln v : Nat) : Int) != ((ln u : Nat) : Int)) = true:=by rw [bne_iff_ne];omega
   have Hres : Hid (cmpI v u = 1):=by show cmpI v u = 1;have:=ln_lt_of hgt;unfold cmpI;rw [if_neg (by omega),if_pos this]
   go_enter Tryz.func119,Tryz.ntmps119
   go_wp2_with fail
   refine (cut_any b o n cap v _ hm hcap Hc.out Hv.out).mono ?_;rintro e w' ⟨rfl,rfl⟩
   go_wp2_with fail
   refine (cut_any b2 o2 m cap2 u _ hm2 hcap2 Hc2.out Hu.out).mono ?_;rintro e w' ⟨rfl,rfl⟩
   go_wp2
   go_ret
   rw [Hres.out]
   exact ⟨rfl,Below.refl _ _⟩
 . have heq : ln v = ln u:=by omega
   generalize hL : ln u = L at *
   have HL:=lid hL;clear hL
   have Heq:=lid heq;clear heq
   have hf : (((L : Nat) : Int) != ((L : Nat) : Int)) = false:=by simp
   rw [Heq.out] at Kv l1
   go_enter Tryz.func119,Tryz.ntmps119
   go_wp2_with fail
   refine (cut_any b o n cap v _ hm hcap Hc.out Hv.out).mono ?_;rintro e w' ⟨rfl,rfl⟩;rw [Heq.out]
   go_wp2_with fail
   refine (cut_any b2 o2 m cap2 u _ hm2 hcap2 Hc2.out Hu.out).mono ?_;rintro e w' ⟨rfl,rfl⟩;rw [HL.out]
   go_wp2
   go_loopw [5] (fun i wr=>∃ k : Nat,k <= L /\ i = .int .i64 ((k : Int) - 1) /\ v / WW ^ k = u / WW ^ k /\ Below w.heap.size w wr) (fun i _=>(intOf i + 1).toNat)
   case atStart=>exact ⟨L,Nat.le_refl _,rfl,by rw [Nat.div_eq_of_lt Kv.out,Nat.div_eq_of_lt Ku.out],Below.refl _ _⟩
   case round=>
    obtain ⟨k,hk,rfl,hdiv,hb⟩:=hrel
    have Hdiv:=lid hdiv;clear hdiv
    by_cases h0 : 0 < k
    . obtain ⟨j,rfl⟩ : ∃ j,k = j + 1:=⟨k - 1,by omega⟩
      have c1 : wr.cell? ⟨b,o + j,none⟩ = some (.int .u64 (dg v j : Int)):=cell_later hb (Hc.out _ (by omega))
      have c2 : wr.cell? ⟨b2,o2 + j,none⟩ = some (.int .u64 (dg u j : Int)):=cell_later hb (Hc2.out _ (by omega))
      rw [show (((j + 1 : Nat) : Int) - 1) = (j : Int) by omega]
      have Hb:=lid hb;clear hb
      rcases Nat.lt_trichotomy (dg v j) (dg u j) with hd | hd | hd
      . have Hres : Hid (cmpI v u = -1):=by show cmpI v u = -1;unfold cmpI;rw [if_pos (dg_lt_of Hdiv.out hd)]
        go_wp2
        go_region
        go_wp2
        go_ret
        rw [Hres.out]
        exact ⟨rfl,Hb.out.drew⟩
      . have Hd:=lid (dg_eq_of Hdiv.out hd)
        rw [hd] at c1
        go_wp2
        go_region
        go_wp2
        go_region
        go_wp2
        go_roundw
        case rel=>exact ⟨j,by omega,rfl,Hd.out,Hb.out.drew.drew⟩
        case measure=>simp [intOf]
      . have Hres : Hid (cmpI v u = 1):=by show cmpI v u = 1;have:=dg_lt_of Hdiv.out.symm hd;unfold cmpI;rw [if_neg (by omega),if_pos this]
        go_wp2
        go_region
        go_wp2
        go_region
        go_wp2
        go_ret
        rw [Hres.out]
        exact ⟨rfl,Hb.out.drew.drew⟩
    . obtain rfl : k = 0:=by omega
      have Hres : Hid (cmpI v u = 0):=by
       have:=Hdiv.out;simp at this;subst this;show cmpI v v = 0;simp [cmpI]
      have Hb:=lid hb;clear hb
      go_wp2
      go_ret
      rw [Hres.out]
      exact ⟨rfl,Hb.out⟩
theorem Tryz.infoU : (Tryz.prog.info? 118).map (fun i=>(i.zero,i.size,i.bytes)) = some (some (.int .u64 0),1,8):=by kernel_rfl
theorem Tryz.infoB : (Tryz.prog.info? 5).map (fun i=>(i.zero,i.size,i.bytes)) = some (some (.int .u8 0),1,1):=by kernel_rfl
theorem uls_zero (n : Nat) : List.replicate n (Value.int .u64 0) = uls n fun _=>0:=by
 apply List.ext_getElem?
 intro j
 by_cases h : j < n
 . rw [uls_get _ _ _ h];simp [h]
 . simp [uls,h]
theorem mk_limbs (c : Int) (n : Nat) (hc : c = n) (h : n <= 1099511627776) (w : World) :
 (Instr.makeSlice 145 (.int .i64 c) (.int .i64 c)).run Tryz.prog w = .ok (.slice (some ⟨w.heap.size,0,none⟩) n n) (w.alloc (.cells (uls n fun _=>0).toArray 118)):=by
 subst hc
 obtain ⟨i0,hi,hz0,hz1,hz2⟩:=info_parts Tryz.infoU
 rw [run_make (P:=Tryz.prog) w 145 118 i0 _ Tryz.underlying145 hi hz0 .i64 .i64 n n (by omega) (by omega) (by rw [hz2];omega) (by omega)]
 simp only [Int.toNat_natCast,hz1,Nat.mul_one]
 rw [<- uls_zero,<- toList_madeCells_one]
 simp [Value.cells]
theorem splice_uls {m M v : Nat} (h : m <= M) (hv : v < WW ^ m) : splice (uls M fun _=>0) 0 (uls m (dg v)) = uls M (dg v):=by
 unfold splice
 rw [List.take_zero,List.nil_append,uls_length,Nat.zero_add]
 apply List.ext_getElem?
 intro j
 rw [List.getElem?_append,uls_length]
 by_cases h1 : j < m
 . rw [if_pos h1,uls_get _ _ _ h1,uls_get _ _ _ (by omega)]
 . rw [if_neg h1,List.getElem?_drop,show m + (j - m) = j by omega]
   by_cases h2 : j < M
   . rw [uls_get _ _ _ h2,uls_get _ _ _ h2,dg_of_lt hv (by omega)]
   . simp [uls,h2]
theorem copied_any (a : Option Addr) (m cap v : Nat) (c : Int) (w : World) (hm : m <= 1099511627776) (hc0 : 0 <= c) (hc1 : c <= 1099511627776)
 (hx : 0 < m -> ∃ b o,a = some ⟨b,o,none⟩ /\ LimAt w b o m v) (hv : v < WW ^ m) :
 Calls Tryz.prog 116 #[.slice a m cap,.int .i64 c] w fun e w'=>e = .returned (.slice (some ⟨w.heap.size,0,none⟩) (max c.toNat m) (max c.toNat m)) /\
  Blk w' w.heap.size 118 (uls (max c.toNat m) (dg v)) /\ Below w.heap.size w w':=by
 obtain ⟨k,rfl⟩:=Int.eq_ofNat_of_zero_le hc0
 rw [Int.toNat_natCast]
 have hM : max (k : Int) (m : Int) = ((max k m : Nat) : Int):=by omega
 generalize hMM : max k m = M at *
 have hMm : m <= M:=by omega
 have hMb : M <= 1099511627776:=by omega
 have Hv:=lid hv;clear hv
 have Hx:=lid hx;clear hx
 have HMM:=lid hMM;clear hMM
 have hmk:=mk_limbs (M : Int) M rfl hMb
 go_enter Tryz.func116,Tryz.ntmps116
 go_wp2_with (with_reducible refine wpList_copy_splice rfl (.tmp 11) (.tmp 12) 145 145 rfl 118 Tryz.underlying145 (by kernel_rfl) (some ⟨w.heap.size,0,none⟩) a M M m cap rfl rfl w.heap.size 0 (uls M fun _=>0) 118 (heap_alloc_new w _) (uls m (dg v)) ?h1 ?h2 ?h3 ?h4 w.heap.size w ((Below.refl _ _).alloc (Nat.le_refl _) _) (Nat.le_refl _) ?_)
 case h1=>rw [uls_length];exact (Nat.min_eq_left hMm).symm
 case h2=>
  rw [uls_length]
  intro h0
  obtain ⟨b,o,rfl,hL⟩:=Hx.out h0
  refine ⟨⟨b,o,none⟩,rfl,?_⟩
  intro j x hj
  have hjm : j < m:=by
   rcases Nat.lt_or_ge j m with h | h
   . exact h
   . simp [uls,h] at hj
  rw [uls_get _ _ _ hjm] at hj
  cases hj
  rw [show ((⟨b,o,none⟩ : Addr).add j) = ⟨b,o + j,none⟩ by unfold Addr.add;split<;>simp_all]
  exact cell_later ((Below.refl _ _).alloc (Nat.le_refl _) _) (hL j hjm)
 case h3=>rw [uls_length,uls_length];omega
 case h4=>
  intro x hx
  simp [uls] at hx
  obtain ⟨j,_,rfl⟩:=hx
  rfl
 . intro w1 Hb1 hb1
   go_wp2
   go_ret
   refine ⟨rfl,?_,hb1⟩
   have:=Hb1.out
   unfold Blk
   rw [this,splice_uls hMm Hv.out]
def bs (l : List UInt8) : ByteArray:=⟨l.toArray⟩
theorem bs_size (l : List UInt8) : (bs l).size = l.length:=by show l.toArray.size = _;simp
theorem bs_of (s : ByteArray) : s = bs s.data.toList:=by cases s;simp [bs]
theorem bs_data (l : List UInt8) : (bs l).data.toList = l:=by simp [bs]
theorem idx_bs (l : List UInt8) (i : Int) (j : Nat) (hj : j < l.length) (hi : i = j) (W : World) :
 (Instr.index 9 (.string (bs l)) (.int .i64 i)).run Tryz.prog W = .ok (.int .u8 (l[j].toNat : Int)) W:=by
 subst hi
 have hj' : j < (bs l).size:=by rw [bs_size];exact hj
 rw [run_index_string W 9 (bs l) .i64 j Tryz.underlying9,dif_pos (by omega)]
 simp [bs,ByteArray.getElem_eq_getElem_data]
theorem shl_u64 (C i : Nat) : IntKind.u64.wrap ((C : Int) * 2 ^ i) = ((C * 2 ^ i % WW : Nat) : Int):=by
 rw [IntKind.wrap_u64,WW_def]
 have : (C : Int) * 2 ^ i = ((C * 2 ^ i : Nat) : Int):=by simp [Int.natCast_mul,Int.natCast_pow]
 rw [this];omega
theorem or_u64 (X Y : Nat) (i c : Nat) (hY : Y = c * 2 ^ i) (hX : X < 2 ^ i) (h : c * 2 ^ i + 2 ^ i <= WW) : bits BinOp.or IntKind.u64 (X : Int) (Y : Int) = ((X + Y : Nat) : Int):=by
 subst hY
 have hp:=Nat.pow_pos (n:=i) (show 0 < 2 by decide)
 have h1 : X < 18446744073709551616:=by rw [WW_def] at h;omega
 have h2 : c * 2 ^ i < 18446744073709551616:=by rw [WW_def] at h;omega
 rw [bits_or_u64_nat X (c * 2 ^ i) h1 h2,or_add hX]
theorem of_any (l : List UInt8) (w : World) (hs : l.length <= 1099511627776) :
 Calls Tryz.prog 89 #[.string (bs l)] w fun e w'=>e = .returned (.slice (some ⟨w.heap.size,0,none⟩) (ln (nv l)) ((l.length + 7) / 8)) /\
  Blk w' w.heap.size 118 (uls ((l.length + 7) / 8) (dg (nv l))) /\ Below w.heap.size w w' /\ ln (nv l) <= (l.length + 7) / 8:=by
 have hsz:=bs_size l
 have hmk:=mk_limbs (((l.length : Int) + 7) / 8) ((l.length + 7) / 8) (by omega) (by omega)
 generalize hn : (l.length + 7) / 8 = n at *
 have hn1 : l.length <= 8 * n:=by omega
 have hn2 : 8 * n <= l.length + 7:=by omega
 have Hn:=lid hn;clear hn
 have hvn : nv l < WW ^ n:=by
  refine Nat.lt_of_lt_of_le (nv_lt l) ?_
  rw [WWp_two,show (256 : Nat) = 2 ^ 8 by rfl,<- Nat.pow_mul]
  exact Nat.pow_le_pow_right (by decide) (by omega)
 have Hvn:=lid hvn;clear hvn
 go_enter Tryz.func89,Tryz.ntmps89
 go_wp2
 go_loopw [4,5,13] (fun _ _ i wr=>∃ k : Nat,k <= l.length /\ i = .int .i64 k /\ Blk wr w.heap.size 118 (uls n (dg (nv (l.drop (l.length - k))))) /\ Below w.heap.size w wr) (fun _ _ i _=>l.length - (intOf i).toNat)
 case atStart=>
  refine ⟨0,Nat.zero_le _,rfl,?_,(Below.refl _ _).alloc (Nat.le_refl _) _⟩
  have e : uls n (dg (nv (l.drop (l.length - 0)))) = uls n fun _=>0:=uls_congr fun j _=>by simp [nv_nil,dg]
  rw [e];exact Blk.new _ _ _
 case round=>
  obtain ⟨k,hk,rfl,hB,hb⟩:=hrel
  by_cases hlt : k < l.length
  . have h8 : k / 8 < n:=by omega
    have hcell : wr.cell? ⟨w.heap.size,k / 8,none⟩ = some (.int .u64 (dg (nv (l.drop (l.length - k))) (k / 8) : Int)):=by
     rw [hB.cell,uls_get _ _ _ h8]
    have hfree : wr.frozen? ⟨w.heap.size,k / 8,none⟩ = false:=hB.free _
    have hidx:=idx_bs l ((l.length : Int) - 1 - (k : Int)) (l.length - 1 - k) (by omega) (by omega)
    have hC:=(l[l.length - 1 - k]'(by omega)).toNat_lt
    have hVk : nv (l.drop (l.length - k)) < 256 ^ k:=by
     have:=nv_lt (l.drop (l.length - k));rwa [List.length_drop,show l.length - (l.length - k) = k by omega] at this
    have hlast:=nv_last l k hlt
    obtain ⟨d1,d2,d3⟩:=byte_digit _ _ k hVk hC
    have hp:=Nat.pow_pos (n:=k % 8 * 8) (show 0 < 2 by decide)
    have hsum : (l[l.length - 1 - k]'(by omega)).toNat * 2 ^ (k % 8 * 8) + 2 ^ (k % 8 * 8) <= WW:=by
     have h2 : 2 ^ (k % 8 * 8) * 256 <= WW:=by
      rw [show (256 : Nat) = 2 ^ 8 by rfl,<- Nat.pow_add,WW_two]
      exact Nat.pow_le_pow_right (by decide) (by omega)
     have : 2 ^ (k % 8 * 8) * ((l[l.length - 1 - k]'(by omega)).toNat + 1) <= 2 ^ (k % 8 * 8) * 256:=Nat.mul_le_mul_left _ hC
     rw [Nat.mul_add,Nat.mul_comm] at this;omega
    have hshl:=shl_u64 (l[l.length - 1 - k]'(by omega)).toNat (k % 8 * 8)
    rw [Nat.mod_eq_of_lt d2] at hshl
    have hor:=or_u64 _ _ _ _ rfl d1 hsum
    have Hend : Hid (Blk (wr.setCell ⟨w.heap.size,k / 8,none⟩ (.int .u64 ((dg (nv (l.drop (l.length - k))) (k / 8) + (l[l.length - 1 - k]'(by omega)).toNat * 2 ^ (k % 8 * 8) : Nat) : Int))) w.heap.size 118 (uls n (dg (nv (l.drop (l.length - (k + 1))))))):=by
     have:=hB.set (k / 8) (.int .u64 ((dg (nv (l.drop (l.length - k))) (k / 8) + (l[l.length - 1 - k]'(by omega)).toNat * 2 ^ (k % 8 * 8) : Nat) : Int))
     rw [uls_set] at this
     rw [show l.length - (k + 1) = l.length - 1 - k by omega,hlast]
     rw [uls_congr fun j _=>d3 j]
     exact this
    have Hb : Hid (Below w.heap.size w (wr.setCell ⟨w.heap.size,k / 8,none⟩ (.int .u64 ((dg (nv (l.drop (l.length - k))) (k / 8) + (l[l.length - 1 - k]'(by omega)).toNat * 2 ^ (k % 8 * 8) : Nat) : Int)))):=hb.setCell (Nat.le_refl _) _
    clear hB hb d1 d2 d3 hp hsum hlast hVk
    generalize dg (nv (l.drop (l.length - k))) (k / 8) + (l[l.length - 1 - k]'(by omega)).toNat * 2 ^ (k % 8 * 8) = Z at *
    generalize dg (nv (l.drop (l.length - k))) (k / 8) = X at *
    generalize (l[l.length - 1 - k]'(by omega)).toNat = C at *
    generalize C * 2 ^ (k % 8 * 8) = Y at *
    go_wp2
    go_region
    go_wp2
    go_roundw
    case rel=>exact ⟨k + 1,by omega,by go_num,Hend.out.drew,Hb.out.drew⟩
    case measure=>simp [intOf];omega
  . obtain rfl : k = l.length:=by omega
    rw [Nat.sub_self,List.drop_zero] at hB
    have Hc : Hid (LimAt wr w.heap.size 0 n (nv l)):=fun j hj=>by rw [Nat.zero_add,hB.cell,uls_get _ _ _ hj]
    have HB:=lid hB;clear hB
    have Hb:=lid hb;clear hb
    go_wp2_with (go_at_call 111;refine (cut_any w.heap.size 0 n n (nv l) _ (by omega) (Nat.le_refl _) Hc.out Hvn.out).mono ?_;rintro e w' ⟨rfl,rfl⟩)
    go_ret
    exact ⟨rfl,HB.out,Hb.out,ln_le Hvn.out⟩
theorem up_any (b o m cap v n : Nat) (w : World) (hm : m <= 549755813888) (hn : n <= 549755813888) (hx : LimAt w b o m v) (hv : v < WW ^ m) :
 Calls Tryz.prog 112 #[.slice (some ⟨b,o,none⟩) m cap,.int .i64 (n : Int)] w fun e w'=>e = .returned (.slice (some ⟨w.heap.size,0,none⟩) (ln (v * 2 ^ n)) (m + n / 64 + 1)) /\
  Blk w' w.heap.size 118 (uls (m + n / 64 + 1) (dg (v * 2 ^ n))) /\ Below w.heap.size w w' /\ ln (v * 2 ^ n) <= m + n / 64 + 1:=by
 have hmk:=mk_limbs ((m : Int) + (n : Int) / 64 + 1) (m + n / 64 + 1) (by omega) (by omega)
 generalize hM : m + n / 64 + 1 = M at *
 have Hx:=lid hx;clear hx
 have hvn : v * 2 ^ n < WW ^ M:=by
  have h1 : 2 ^ n <= WW ^ (n / 64 + 1):=by rw [WWp_two];exact Nat.pow_le_pow_right (by decide) (by omega)
  rw [<- hM,Nat.add_assoc,Nat.pow_add]
  exact Nat.lt_of_lt_of_le (Nat.mul_lt_mul_of_pos_right hv (Nat.pow_pos (by decide))) (Nat.mul_le_mul_left _ h1)
 have Hvn:=lid hvn;clear hvn
 have Hv:=lid hv;clear hv
 have hM1 : m + n / 64 + 1 <= M:=by omega
 have hM2 : M <= 1099511627776:=by omega
 have HM:=lid hM;clear hM
 go_enter Tryz.func112,Tryz.ntmps112
 go_wp2
 go_loopw [6,7,8,18] (fun _ _ _ i wr=>∃ k : Nat,k <= m /\ i = .int .i64 k /\ Blk wr w.heap.size 118 (uls M (dg (v % WW ^ k * 2 ^ n))) /\ Below w.heap.size w wr) (fun _ _ _ i _=>m - (intOf i).toNat)
 case atStart=>
  refine ⟨0,Nat.zero_le _,rfl,?_,(Below.refl _ _).alloc (Nat.le_refl _) _⟩
  have e : uls M (dg (v % WW ^ 0 * 2 ^ n)) = uls M fun _=>0:=uls_congr fun j _=>by simp [dg,Nat.mod_one]
  rw [e];exact Blk.new _ _ _
 case round=>
  obtain ⟨k,hk,rfl,hB,hb⟩:=hrel
  by_cases hlt : k < m
  . have c0 : wr.cell? ⟨b,o + k,none⟩ = some (.int .u64 (dg v k : Int)):=cell_later hb (Hx.out k hlt)
    obtain ⟨c,e1,e2,e3,e4,e5,e6⟩:=up_digit v n k
    have hcell : wr.cell? ⟨w.heap.size,k + n / 64,none⟩ = some (.int .u64 (dg (v % WW ^ k * 2 ^ n) (k + n / 64) : Int)):=by
     rw [hB.cell,uls_get _ _ _ (by omega)]
    have hfree : wr.frozen? ⟨w.heap.size,k + n / 64,none⟩ = false:=hB.free _
    have hshl:=shl_u64 (dg v k) (n % 64)
    rw [<- e1] at hshl
    have hor:=or_u64 _ _ _ _ rfl e2 e3
    have hB1:=hB.set (k + n / 64) (.int .u64 ((dg (v % WW ^ k * 2 ^ n) (k + n / 64) + c * 2 ^ (n % 64) : Nat) : Int))
    have hb1:=hb.setCell (p:=⟨w.heap.size,k + n / 64,none⟩) (Nat.le_refl _) (.int .u64 ((dg (v % WW ^ k * 2 ^ n) (k + n / 64) + c * 2 ^ (n % 64) : Nat) : Int))
    rw [uls_set] at hB1
    clear e1 e2 e3 hB hb
    by_cases hr : n % 64 = 0
    . have Hend : Hid (Blk (wr.setCell ⟨w.heap.size,k + n / 64,none⟩ (.int .u64 ((dg (v % WW ^ k * 2 ^ n) (k + n / 64) + c * 2 ^ (n % 64) : Nat) : Int))) w.heap.size 118 (uls M (dg (v % WW ^ (k + 1) * 2 ^ n)))):=by
       have hz : dg v k / 2 ^ (64 - n % 64) = 0:=by
        rw [hr];exact Nat.div_eq_of_lt (by have:=dg_lt v k;rw [WW_two] at this;exact this)
       rw [uls_congr (g:=fun j=>if j = k + n / 64 then dg (v % WW ^ k * 2 ^ n) (k + n / 64) + c * 2 ^ (n % 64) else dg (v % WW ^ k * 2 ^ n) j) fun j _=>by
        rw [e6 j,hz]
        by_cases hj : j = k + n / 64 + 1
        . subst hj;rw [if_pos rfl,if_neg (by omega),e4]
        . rw [if_neg hj]]
       exact hB1
      have Hb:=lid hb1
      clear hB1 hb1 e4 e5 e6
      generalize dg (v % WW ^ k * 2 ^ n) (k + n / 64) + c * 2 ^ (n % 64) = Z at *
      generalize dg (v % WW ^ k * 2 ^ n) (k + n / 64) = X at *
      generalize c * 2 ^ (n % 64) = Y at *
      have hr0 : decide ((0 : Int) < (n : Int) % 64) = false:=by simp;omega
      have Hr:=lid hr;clear hr
      go_wp2
      go_region
      go_wp2
      go_roundw
      case rel=>exact ⟨k + 1,by omega,by go_num,Hend.out.drew,Hb.out.drew⟩
      case measure=>simp [intOf];omega
    . have hlt2 : k + n / 64 + 1 < M:=by omega
      have hcell2 : (wr.setCell ⟨w.heap.size,k + n / 64,none⟩ (.int .u64 ((dg (v % WW ^ k * 2 ^ n) (k + n / 64) + c * 2 ^ (n % 64) : Nat) : Int))).cell? ⟨w.heap.size,k + n / 64 + 1,none⟩ = some (.int .u64 0):=by
       rw [hB1.cell,uls_get _ _ _ hlt2,if_neg (by omega),e4];rfl
      have hfree2 : (wr.setCell ⟨w.heap.size,k + n / 64,none⟩ (.int .u64 ((dg (v % WW ^ k * 2 ^ n) (k + n / 64) + c * 2 ^ (n % 64) : Nat) : Int))).frozen? ⟨w.heap.size,k + n / 64 + 1,none⟩ = false:=hB1.free _
      have hB2:=hB1.set (k + n / 64 + 1) (.int .u64 ((dg v k / 2 ^ (64 - n % 64) : Nat) : Int))
      have hb2:=hb1.setCell (p:=⟨w.heap.size,k + n / 64 + 1,none⟩) (Nat.le_refl _) (.int .u64 ((dg v k / 2 ^ (64 - n % 64) : Nat) : Int))
      rw [uls_set,<- uls_congr fun j _=>e6 j] at hB2
      have hor2 : bits BinOp.or IntKind.u64 0 ((dg v k : Int) / 2 ^ (64 - n % 64)) = ((dg v k / 2 ^ (64 - n % 64) : Nat) : Int):=by
       have h:=bits_or_u64_nat 0 (dg v k / 2 ^ (64 - n % 64)) (by decide) (by rw [WW_def] at e5;exact e5)
       simp only [Nat.zero_or] at h
       rw [<- h];simp [Int.natCast_pow]
      have Hend:=lid hB2
      have Hb:=lid hb2
      clear hB1 hb1 e4 e5 e6 hB2 hb2
      have hr0 : decide ((0 : Int) < (n : Int) % 64) = true:=by simp;omega
      have Hr:=lid hr;clear hr
      generalize dg (v % WW ^ k * 2 ^ n) (k + n / 64) + c * 2 ^ (n % 64) = Z at *
      generalize dg (v % WW ^ k * 2 ^ n) (k + n / 64) = X at *
      generalize c * 2 ^ (n % 64) = Y at *
      generalize dg v k / 2 ^ (64 - n % 64) = Z2 at *
      go_wp2
      go_region
      go_wp2
      go_region
      go_wp2
      go_roundw
      case rel=>exact ⟨k + 1,by omega,by go_num,Hend.out.drew.drew,Hb.out.drew.drew⟩
      case measure=>simp [intOf];omega
  . obtain rfl : k = m:=by omega
    rw [Nat.mod_eq_of_lt Hv.out] at hB
    have Hc : Hid (LimAt wr w.heap.size 0 M (v * 2 ^ n)):=fun j hj=>by rw [Nat.zero_add,hB.cell,uls_get _ _ _ hj]
    have HB:=lid hB;clear hB
    have Hb:=lid hb;clear hb
    go_wp2_with (go_at_call 111;refine (cut_any w.heap.size 0 M M (v * 2 ^ n) _ (by omega) (Nat.le_refl _) Hc.out Hvn.out).mono ?_;rintro e w' ⟨rfl,rfl⟩)
    go_ret
    exact ⟨rfl,HB.out,Hb.out,ln_le Hvn.out⟩
def fore (F : Nat -> Nat) (k : Nat) (G : Nat -> Nat) (j : Nat) : Nat:=if j < k then G j else F j
theorem fore_set (N : Nat) (F : Nat -> Nat) (i : Nat) (G : Nat -> Nat) (x : Nat) (hx : x = G i) :
 (uls N (fore F i G)).set i (.int .u64 (x : Int)) = uls N (fore F (i + 1) G):=by
 rw [uls_set]
 refine uls_congr fun j _=>?_
 unfold fore
 by_cases h : j = i
 . subst h;rw [if_pos rfl,if_pos (by omega),hx]
 . rw [if_neg h]
   by_cases h2 : j < i
   . rw [if_pos h2,if_pos (by omega)]
   . rw [if_neg h2,if_neg (by omega)]
theorem dg_shift (v q j : Nat) : dg (v / WW ^ q) j = dg v (q + j):=by
 unfold dg;rw [Nat.div_div_eq_div_mul,<- Nat.pow_add]
theorem down_val (v n : Nat) : v / WW ^ (n / 64) / 2 ^ (n % 64) = v / 2 ^ n:=by
 rw [WWp_two,Nat.div_div_eq_div_mul,<- Nat.pow_add];congr 2;omega
theorem down_nil (a : Option Addr) (m cap n : Nat) (w : World) (hm : m <= 549755813888) (hn : n <= 1099511627776) (hle : m <= n / 64) :
 Calls Tryz.prog 113 #[.slice a m cap,.int .i64 (n : Int)] w fun e w'=>e = .returned (.slice none 0 0) /\ w = w':=by
 go_enter Tryz.func113,Tryz.ntmps113
 go_wp2
 go_ret
 exact ⟨rfl,rfl⟩
theorem down_any (b o m cap v n : Nat) (w : World) (hm : m <= 549755813888) (hcap : m <= cap) (hn : n <= 1099511627776) (hx : LimAt w b o m v) (hv : v < WW ^ m) (hlt0 : n / 64 < m) :
 Calls Tryz.prog 113 #[.slice (some ⟨b,o,none⟩) m cap,.int .i64 (n : Int)] w fun e w'=>e = .returned (.slice (some ⟨w.heap.size,0,none⟩) (ln (v / 2 ^ n)) (m - n / 64)) /\
  Blk w' w.heap.size 118 (uls (m - n / 64) (dg (v / 2 ^ n))) /\ Below w.heap.size w w' /\ ln (v / 2 ^ n) <= m - n / 64:=by
 have hbw : b < w.heap.size:=World.block_lt_of_cell? w ⟨b,o + 0,none⟩ (hx 0 (by omega))
 have hne : ¬ cap = n / 64:=by omega
 have Hx:=lid hx;clear hx
 have hu : v / WW ^ (n / 64) < WW ^ (m - n / 64):=by
  rw [Nat.div_lt_iff_lt_mul (WWp_pos _),<- Nat.pow_add,show m - n / 64 + n / 64 = m by omega];exact hv
 have Hu:=lid hu;clear hu
 have Hv:=lid hv;clear hv
 have Hxu : Hid (LimAt w b (o + n / 64) (m - n / 64) (v / WW ^ (n / 64))):=fun j hj=>by
  rw [dg_shift,Nat.add_assoc];exact Hx.out _ (by omega)
 go_enter Tryz.func113,Tryz.ntmps113
 go_wp2_with (go_at_call 116;refine (copied_any (some ⟨b,o + n / 64,none⟩) (m - n / 64) (cap - n / 64) (v / WW ^ (n / 64)) 0 _ (by omega) (by omega) (by omega) (fun _=>⟨b,o + n / 64,rfl,Hxu.out⟩) Hu.out).mono ?_;rintro e w1 ⟨rfl,hB1,hb1⟩;rw [show max (0 : Int).toNat (m - n / 64) = m - n / 64 by simp] at hB1;rw [show max (0 : Int).toNat (m - n / 64) = m - n / 64 by simp];have HB1:=lid hB1;clear hB1;have Hb1:=lid hb1;clear hb1)
 generalize hL : m - n / 64 = L at *
 have HL:=lid hL
 have hL1 : L + n / 64 = m:=by omega
 clear hL
 generalize hU : v / WW ^ (n / 64) = U at *
 have HU:=lid hU;clear hU
 go_wp2
 go_loopw [6,19] (fun _ i wr=>∃ k : Nat,k <= L /\ i = .int .i64 k /\ Blk wr w.heap.size 118 (uls L (fore (dg U) k (dg (U / 2 ^ (n % 64))))) /\ Below w.heap.size w wr) (fun _ i _=>L - (intOf i).toNat)
 case atStart=>exact ⟨0,Nat.zero_le _,rfl,HB1.out,Hb1.out⟩
 case round=>
  obtain ⟨k,hk,rfl,hB,hb⟩:=hrel
  by_cases hlt : k < L
  . have hcell : wr.cell? ⟨w.heap.size,k,none⟩ = some (.int .u64 (dg U k : Int)):=by
     rw [hB.cell,uls_get _ _ _ hlt];simp [fore]
    have hfree : wr.frozen? ⟨w.heap.size,k,none⟩ = false:=hB.free _
    have hdown:=dg_down U (n % 64) k (Nat.mod_lt _ (by decide))
    have hshr : (dg U k : Int) / 2 ^ (n % 64) = ((dg U k / 2 ^ (n % 64) : Nat) : Int):=by simp [Int.natCast_pow]
    have hB1:=hB.set k (.int .u64 ((dg U k / 2 ^ (n % 64) : Nat) : Int))
    have hb1:=hb.setCell (p:=⟨w.heap.size,k,none⟩) (Nat.le_refl _) (.int .u64 ((dg U k / 2 ^ (n % 64) : Nat) : Int))
    by_cases hc : k + 1 < L /\ 0 < n % 64
    . obtain ⟨hc1,hc2⟩:=hc
      obtain ⟨c,f1,f2,f3,f4,f5⟩:=up_split (dg U (k + 1)) (64 - n % 64) (dg_lt _ _) (by omega)
      have hX : dg U k / 2 ^ (n % 64) < 2 ^ (64 - n % 64):=by
       rw [Nat.div_lt_iff_lt_mul (Nat.pow_pos (by decide)),<- Nat.pow_add,show 64 - n % 64 + n % 64 = 64 by omega,<- WW_two];exact dg_lt _ _
      have hcellx : (wr.setCell ⟨w.heap.size,k,none⟩ (.int .u64 ((dg U k / 2 ^ (n % 64) : Nat) : Int))).cell? ⟨b,o + (n / 64 + k + 1),none⟩ = some (.int .u64 (dg U (k + 1) : Int)):=by
       have:=Hxu.out (k + 1) (by omega)
       rw [show o + (n / 64 + k + 1) = o + n / 64 + (k + 1) by omega]
       exact cell_later hb1 this
      have hcell2 : (wr.setCell ⟨w.heap.size,k,none⟩ (.int .u64 ((dg U k / 2 ^ (n % 64) : Nat) : Int))).cell? ⟨w.heap.size,k,none⟩ = some (.int .u64 ((dg U k / 2 ^ (n % 64) : Nat) : Int)):=by
       rw [hB1.cell];simp [uls_length,hlt]
      have hfree2 : (wr.setCell ⟨w.heap.size,k,none⟩ (.int .u64 ((dg U k / 2 ^ (n % 64) : Nat) : Int))).frozen? ⟨w.heap.size,k,none⟩ = false:=hB1.free _
      have hshl:=shl_u64 (dg U (k + 1)) (64 - n % 64)
      have hor:=or_u64 _ _ _ _ f1 hX f4
      have hB2:=hB1.set k (.int .u64 ((dg (U / 2 ^ (n % 64)) k : Nat) : Int))
      have hb2:=hb1.setCell (p:=⟨w.heap.size,k,none⟩) (Nat.le_refl _) (.int .u64 ((dg (U / 2 ^ (n % 64)) k : Nat) : Int))
      rw [List.set_set,fore_set L _ k _ _ rfl] at hB2
      rw [<- hdown] at hor
      have Hend:=lid hB2
      have Hb:=lid hb2
      clear hB1 hb1 hB2 hb2 hB hb f1 f2 f3 f4 f5 hX hdown
      have hq1 : decide ((k : Int) + 1 < (L : Int)) = true:=by simp;omega
      have hq2 : decide ((0 : Int) < (n : Int) % 64) = true:=by simp;omega
      generalize dg U k / 2 ^ (n % 64) = D at *
      generalize dg U (k + 1) * 2 ^ (64 - n % 64) % WW = Y at *
      generalize dg U (k + 1) = D1 at *
      go_wp2
      go_region
      go_wp2
      go_roundw
      case rel=>exact ⟨k + 1,by omega,by go_num,Hend.out.drew,Hb.out.drew⟩
      case measure=>simp [intOf];omega
    . have e : dg U k / 2 ^ (n % 64) = dg (U / 2 ^ (n % 64)) k:=by
       rw [hdown]
       by_cases h0 : n % 64 = 0
       . rw [h0]
         simp only [Nat.pow_zero,Nat.div_one,Nat.sub_zero,<- WW_two,Nat.mul_mod_left,Nat.add_zero]
       . rw [dg_of_lt (j:=k + 1) Hu.out (by omega),Nat.zero_mul,Nat.zero_mod,Nat.add_zero]
      rw [e,fore_set L _ k _ _ rfl] at hB1
      rw [e] at hb1 hshr
      have Hend:=lid hB1
      have Hb:=lid hb1
      clear hB1 hb1 hB hb hdown e
      by_cases h1 : k + 1 < L
      . have hq1 : decide ((k : Int) + 1 < (L : Int)) = true:=by simp;omega
        have hq2 : decide ((0 : Int) < (n : Int) % 64) = false:=by simp;omega
        go_wp2
        go_roundw
        case rel=>exact ⟨k + 1,by omega,by go_num,Hend.out,Hb.out⟩
        case measure=>simp [intOf];omega
      . have hq1 : decide ((k : Int) + 1 < (L : Int)) = false:=by simp;omega
        go_wp2
        go_roundw
        case rel=>exact ⟨k + 1,by omega,by go_num,Hend.out,Hb.out⟩
        case measure=>simp [intOf];omega
  . obtain rfl : k = L:=by omega
    have e : U / 2 ^ (n % 64) = v / 2 ^ n:=by rw [<- HU.out,down_val]
    have e2 : uls k (fore (dg U) k (dg (U / 2 ^ (n % 64)))) = uls k (dg (v / 2 ^ n)):=uls_congr fun j hj=>by simp [fore,hj,e]
    rw [e2] at hB
    have hlt2 : v / 2 ^ n < WW ^ k:=by
     rw [<- e];exact Nat.lt_of_le_of_lt (Nat.div_le_self _ _) Hu.out
    have Hlt2:=lid hlt2
    clear e e2 hlt2
    have Hc : Hid (LimAt wr w.heap.size 0 k (v / 2 ^ n)):=fun j hj=>by rw [Nat.zero_add,hB.cell,uls_get _ _ _ hj]
    have HB:=lid hB;clear hB
    have Hb:=lid hb;clear hb
    go_wp2_with (go_at_call 111;refine (cut_any w.heap.size 0 k k (v / 2 ^ n) _ (by omega) (Nat.le_refl _) Hc.out Hlt2.out).mono ?_;rintro e w' ⟨rfl,rfl⟩)
    go_ret
    rw [HL.out]
    exact ⟨rfl,HB.out,Hb.out,ln_le Hlt2.out⟩
def ubs (n : Nat) (f : Nat -> Nat) : List Value:=(List.range n).map fun j=>.int .u8 (f j : Int)
theorem ubs_length (n : Nat) (f : Nat -> Nat) : (ubs n f).length = n:=by simp [ubs]
theorem ubs_get (n : Nat) (f : Nat -> Nat) (j : Nat) (h : j < n) : (ubs n f)[j]? = some (.int .u8 (f j : Int)):=by
 simp [ubs,List.getElem?_range h]
theorem ubs_congr {n : Nat} {f g : Nat -> Nat} (h : ∀ j,j < n -> f j = g j) : ubs n f = ubs n g:=by
 unfold ubs
 refine List.map_congr_left fun j hj=>?_
 rw [h j (by simpa using hj)]
theorem ubs_set (n : Nat) (f : Nat -> Nat) (i x : Nat) : (ubs n f).set i (.int .u8 (x : Int)) = ubs n (fun j=>if j = i then x else f j):=by
 apply List.ext_getElem?
 intro j
 rw [List.getElem?_set,ubs_length]
 by_cases h : j < n
 . rw [ubs_get _ _ _ h,ubs_get _ _ _ h]
   by_cases e : i = j
   . subst e;simp [h]
   . simp [e,Ne.symm e]
 . by_cases e : i = j
   . subst e;simp [ubs,h]
   . simp [e,ubs,h]
theorem ubs_zero (n : Nat) : List.replicate n (Value.int .u8 0) = ubs n fun _=>0:=by
 apply List.ext_getElem?
 intro j
 by_cases h : j < n
 . rw [ubs_get _ _ _ h];simp [h]
 . simp [ubs,h]
theorem mk_bytes (c : Int) (n : Nat) (hc : c = n) (h : n <= 17592186044416) (w : World) :
 (Instr.makeSlice 67 (.int .i64 c) (.int .i64 c)).run Tryz.prog w = .ok (.slice (some ⟨w.heap.size,0,none⟩) n n) (w.alloc (.cells (ubs n fun _=>0).toArray 5)):=by
 subst hc
 obtain ⟨i0,hi,hz0,hz1,hz2⟩:=info_parts Tryz.infoB
 rw [run_make (P:=Tryz.prog) w 67 5 i0 _ Tryz.underlying67 hi hz0 .i64 .i64 n n (by omega) (by omega) (by rw [hz2];omega) (by omega)]
 simp only [Int.toNat_natCast,hz1,Nat.mul_one]
 rw [<- ubs_zero,<- toList_madeCells_one]
 simp [Value.cells]
theorem to_string {w : World} {b : Nat} {t : TypeId} {n : Nat} {f : Nat -> Nat} (h : Blk w b t (ubs n f)) (cap : Nat) :
 (convert 67 9 (.slice (some ⟨b,0,none⟩) n cap)).run Tryz.prog w = .ok (.string (bs ((List.range n).map fun j=>UInt8.ofNat (f j)))) w:=by
 have:=run_convert_bytes_arg (P:=Tryz.prog) w 67 5 Tryz.underlying67 Tryz.underlying5 b 0 n cap ((List.range n).map fun j=>(f j : Int)) (by simp) (fun i hi=>by
  rw [Nat.zero_add,h.cell,ubs_get _ _ _ hi];simp [hi]) 9 Tryz.underlying9
 rw [this]
 unfold strOfNums bs
 rw [List.map_map]
 rfl
theorem nv_range (v n : Nat) : nv ((List.range n).map fun j=>UInt8.ofNat (v / 256 ^ (n - 1 - j) % 256)) = v % 256 ^ n:=by
 induction n with
 | zero=>simp [nv_nil,Nat.mod_one]
 | succ n ih =>
   rw [List.range_succ_eq_map,List.map_cons,List.map_map,nv_cons,byte_mod,List.length_map,List.length_range]
   have e : (List.range n).map ((fun j=>UInt8.ofNat (v / 256 ^ (n + 1 - 1 - j) % 256)) ∘ Nat.succ) = (List.range n).map fun j=>UInt8.ofNat (v / 256 ^ (n - 1 - j) % 256):=by
    refine List.map_congr_left fun j hj=>?_
    have hj' : j < n:=by simpa using hj
    show UInt8.ofNat (v / 256 ^ (n + 1 - 1 - (j + 1)) % 256) = _
    rw [show n + 1 - 1 - (j + 1) = n - 1 - j by omega]
   rw [e,ih,Nat.pow_succ,Nat.mod_mul,show n + 1 - 1 - 0 = n by omega,Nat.mul_comm,Nat.add_comm]
theorem nt_range (v n : Nat) (h : v < 256 ^ n) (h0 : 0 < n -> 256 ^ (n - 1) <= v) : (List.range n).map (fun j=>UInt8.ofNat (v / 256 ^ (n - 1 - j) % 256)) = nt v:=by
 have e:=nv_range v n
 rw [Nat.mod_eq_of_lt h] at e
 refine (nt_nv _ ?_).symm.trans (by rw [e])
 intro c hc
 cases n with
 | zero=>simp at hc
 | succ n =>
   rw [List.range_succ_eq_map,List.map_cons,List.head?_cons] at hc
   cases hc
   intro hz
   have:=congrArg UInt8.toNat hz
   rw [byte_mod] at this
   have h1:=h0 (by omega)
   rw [show n + 1 - 1 = n by omega] at h1
   rw [show n + 1 - 1 - 0 = n by omega] at this
   have h2 : v / 256 ^ n < 256:=by
    rw [Nat.div_lt_iff_lt_mul (Nat.pow_pos (by decide))];rw [Nat.pow_succ,Nat.mul_comm] at h;exact h
   have h3:=Nat.div_pos h1 (Nat.pow_pos (n:=n) (show 0 < 256 by decide))
   rw [Nat.mod_eq_of_lt h2] at this
   simp at this
   omega
theorem blen_bytes (v : Nat) : v < 256 ^ ((blen v + 7) / 8) /\ (0 < (blen v + 7) / 8 -> 256 ^ ((blen v + 7) / 8 - 1) <= v):=by
 constructor
 . refine Nat.lt_of_lt_of_le (blen_lt v) ?_
   rw [show (256 : Nat) = 2 ^ 8 by rfl,<- Nat.pow_mul]
   exact Nat.pow_le_pow_right (by decide) (by omega)
 . intro h
   have hv : v ≠ 0:=by intro h0;subst h0;simp [blen] at h
   have e : blen v = Nat.log2 v + 1:=by unfold blen;rw [if_neg hv]
   refine Nat.le_trans ?_ (Nat.log2_self_le hv)
   rw [show (256 : Nat) = 2 ^ 8 by rfl,<- Nat.pow_mul]
   exact Nat.pow_le_pow_right (by decide) (by omega)
theorem nt_length (v : Nat) : (nt v).length = (blen v + 7) / 8:=by
 have h:=blen_bytes v
 rw [<- nt_range v _ h.1 h.2];simp
theorem byte_of (v k : Nat) : IntKind.u8.wrap ((dg v (k / 8) : Int) / 2 ^ (k % 8 * 8)) = ((v / 256 ^ k % 256 : Nat) : Int):=by
 have e : (dg v (k / 8) : Int) / 2 ^ (k % 8 * 8) = ((dg v (k / 8) / 2 ^ (k % 8 * 8) : Nat) : Int):=by simp [Int.natCast_pow]
 rw [e]
 have e2 : dg v (k / 8) / 2 ^ (k % 8 * 8) % 256 = v / 256 ^ k % 256:=by
  unfold dg
  rw [pow256,<- Nat.div_div_eq_div_mul]
  generalize v / WW ^ (k / 8) = x
  have hW : WW = 2 ^ (k % 8 * 8) * 2 ^ (64 - k % 8 * 8):=by rw [<- Nat.pow_add,WW_two];congr 1;omega
  rw [hW,Nat.mod_mul_right_div_self,Nat.mod_mod_of_dvd]
  rw [show (256 : Nat) = 2 ^ 8 by rfl]
  exact Nat.pow_dvd_pow 2 (by omega)
 rw [<- e2]
 generalize dg v (k / 8) / 2 ^ (k % 8 * 8) = y
 simp [IntKind.wrap,IntKind.signed,IntKind.bits]
theorem text_any (b o m cap v : Nat) (w : World) (hm : m <= 1099511627776) (hcap : m <= cap) (hx : LimAt w b o m v) (hv : v < WW ^ m) :
 Calls Tryz.prog 110 #[.slice (some ⟨b,o,none⟩) m cap] w fun e w'=>e = .returned (.string (bs (nt v))) /\ Below w.heap.size w w':=by
 have hle:=ln_le hv
 have hbl : blen v <= 64 * m:=blen_le (by rw [<- WWp_two];exact hv)
 have hmk:=mk_bytes (((blen v : Int) + 7) / 8) ((blen v + 7) / 8) (by omega) (by omega)
 have hln : (blen v + 7) / 8 <= 8 * ln v:=by
  have h1 : blen v <= 64 * ln v:=blen_le (by rw [<- WWp_two];exact lt_ln v)
  omega
 have Hfin : Hid ((List.range ((blen v + 7) / 8)).map (fun j=>UInt8.ofNat (v / 256 ^ ((blen v + 7) / 8 - 1 - j) % 256)) = nt v):=nt_range _ _ (blen_bytes v).1 (blen_bytes v).2
 generalize hn : (blen v + 7) / 8 = n at *
 have hnb : n <= 17592186044416:=by omega
 have Hn:=lid hn
 have hnI : ((blen v : Int) + 7) / 8 = (n : Int):=by omega
 rw [hnI] at hmk
 clear hn
 have Hx:=lid hx;clear hx
 have Hv:=lid hv;clear hv
 have Hx2 : Hid (LimAt w b o (ln v) v):=Hx.out.less hle
 go_enter Tryz.func110,Tryz.ntmps110
 go_wp2_with fail
 refine (cut_any b o m cap v _ (by omega) hcap Hx.out Hv.out).mono ?_;rintro e w' ⟨rfl,rfl⟩
 go_wp2_with fail
 refine (llen_any b o (ln v) cap v _ (by omega) (by omega) Hx2.out (lt_ln v)).mono ?_;rintro e w' ⟨rfl,rfl⟩
 go_wp2
 go_loopw [5,15] (fun _ i wr=>∃ k : Nat,k <= n /\ i = .int .i64 k /\ Blk wr w.heap.size 5 (ubs n (fun j=>if n - k <= j then v / 256 ^ (n - 1 - j) % 256 else 0)) /\ Below w.heap.size w wr) (fun _ i _=>n - (intOf i).toNat)
 case atStart=>
  refine ⟨0,Nat.zero_le _,rfl,?_,(Below.refl _ _).alloc (Nat.le_refl _) _⟩
  have e : ubs n (fun j=>if n - 0 <= j then v / 256 ^ (n - 1 - j) % 256 else 0) = ubs n fun _=>0:=ubs_congr fun j hj=>by rw [if_neg (by omega)]
  rw [e];exact Blk.new _ _ _
 case round=>
  obtain ⟨k,hk,rfl,hB,hb⟩:=hrel
  by_cases hlt : k < n
  . have hcx : wr.cell? ⟨b,o + k / 8,none⟩ = some (.int .u64 (dg v (k / 8) : Int)):=cell_later hb (Hx2.out _ (by omega))
    have h8 : k / 8 < ln v:=by omega
    have hbyte:=byte_of v k
    have hcell : wr.cell? ⟨w.heap.size,n - 1 - k,none⟩ = some (.int .u8 0):=by
     rw [hB.cell,ubs_get _ _ _ (by omega),if_neg (by omega)];rfl
    have hfree : wr.frozen? ⟨w.heap.size,n - 1 - k,none⟩ = false:=hB.free _
    have hB1:=hB.set (n - 1 - k) (.int .u8 ((v / 256 ^ k % 256 : Nat) : Int))
    have hb1:=hb.setCell (p:=⟨w.heap.size,n - 1 - k,none⟩) (Nat.le_refl _) (.int .u8 ((v / 256 ^ k % 256 : Nat) : Int))
    rw [ubs_set,ubs_congr (g:=fun j=>if n - (k + 1) <= j then v / 256 ^ (n - 1 - j) % 256 else 0) fun j hj=>by
     by_cases hj1 : j = n - 1 - k
     . subst hj1;rw [if_pos rfl,if_pos (by omega),show n - 1 - (n - 1 - k) = k by omega]
     . rw [if_neg hj1]
       by_cases hj2 : n - k <= j
       . rw [if_pos hj2,if_pos (by omega)]
       . rw [if_neg hj2,if_neg (by omega)]] at hB1
    have Hend:=lid hB1
    have Hb:=lid hb1
    clear hB hb hB1 hb1
    generalize v / 256 ^ k % 256 = Z at *
    go_wp2
    go_roundw
    case rel=>exact ⟨k + 1,by omega,by go_num,Hend.out,Hb.out⟩
    case measure=>simp [intOf];omega
  . obtain rfl : k = n:=by omega
    rw [ubs_congr (g:=fun j=>v / 256 ^ (k - 1 - j) % 256) fun j hj=>by rw [if_pos (by omega)]] at hB
    have hconv:=to_string hB k
    rw [Hfin.out] at hconv
    have Hb:=lid hb;clear hb hB
    go_wp2
    go_ret
    exact ⟨rfl,Hb.out⟩
theorem ixs {t e sz : Nat} (hu : Tryz.prog.underlying t = some (.slice e)) (hs : (Tryz.prog.info? e).map (·.size) = some sz) {a : Option Addr} {b o : Nat} (n cap k : Nat) (i : Int)
 (ha : a = some ⟨b,o,none⟩) (hk : k < n) (hi : i = k) (W : World) :
 (Instr.indexAt t (.slice a n cap) (.int .i64 i)).run Tryz.prog W = .ok (.pointer (some ⟨b,o + k * sz,none⟩)) W:=by
 subst ha;subst hi
 obtain ⟨inf,h1,h2⟩:=Option.map_eq_some_iff.1 hs
 have hk' : (0 : Int) <= (k : Int) /\ (k : Int) < (n : Int):=by omega
 have hadd : (⟨b,o,none⟩ : Addr).add (k * sz) = ⟨b,o + k * sz,none⟩:=by unfold Addr.add;split<;>simp_all
 simp [Instr.indexAt,run_underlying hu,asIntOf,hk,sizeOf,typeInfo,h1,h2,hadd]
abbrev i123x34 := @ixs 123 34 2 Tryz.underlying123 (by kernel_rfl)
abbrev i131x22 := @ixs 131 22 1 Tryz.underlying131 (by kernel_rfl)
abbrev i133x3 := @ixs 133 3 1 Tryz.underlying133 (by kernel_rfl)
abbrev i145x118 := @ixs 145 118 1 Tryz.underlying145 (by kernel_rfl)
abbrev i155x123 := @ixs 155 123 1 Tryz.underlying155 (by kernel_rfl)
abbrev i22x36 := @ixs 22 36 3 Tryz.underlying22 (by kernel_rfl)
abbrev i41x49 := @ixs 41 49 4 Tryz.underlying41 (by kernel_rfl)
abbrev i45x46 := @ixs 45 46 1 Tryz.underlying45 (by kernel_rfl)
abbrev i46x36 := @ixs 46 36 3 Tryz.underlying46 (by kernel_rfl)
abbrev i67x5 := @ixs 67 5 1 Tryz.underlying67 (by kernel_rfl)
abbrev i69x9 := @ixs 69 9 1 Tryz.underlying69 (by kernel_rfl)
abbrev i78x36 := @ixs 78 36 3 Tryz.underlying78 (by kernel_rfl)
abbrev i89x2 := @ixs 89 2 1 Tryz.underlying89 (by kernel_rfl)
def At (w : World) (a : Option Addr) (cs : List Value) : Prop:=cs = [] \/ ∃ b o,a = some ⟨b,o,none⟩ /\ ∀ j,j < cs.length -> w.cell? ⟨b,o + j,none⟩ = cs[j]?
theorem At.nil (w : World) (a : Option Addr) : At w a []:=.inl rfl
theorem At.below {w w' : World} {a : Option Addr} {cs : List Value} (h : At w a cs) (hb : Below w.heap.size w w') : At w' a cs:=by
 rcases h with h | ⟨b,o,ha,hc⟩
 . exact .inl h
 . refine .inr ⟨b,o,ha,fun j hj=>?_⟩
   have:=hc j hj
   rw [List.getElem?_eq_getElem hj] at this ⊢
   exact cell_later hb this
theorem kA {w w' : World} {a : Option Addr} {cs : List Value} (h : Hid (At w a cs)) (k : Below w.heap.size w w') : Hid (At w' a cs):=h.out.below k
theorem At.grown {w w' : World} {a : Option Addr} {cs : List Value} {r : Option Nat} (h : At w a cs) (hb : w.grownBy w' r) (hr : ∀ b o,a = some ⟨b,o,none⟩ -> some b ≠ r) : At w' a cs:=by
 rcases h with h | ⟨b,o,ha,hc⟩
 . exact .inl h
 . refine .inr ⟨b,o,ha,fun j hj=>?_⟩
   have:=hc j hj
   rw [List.getElem?_eq_getElem hj] at this ⊢
   exact hb.cell this (hr b o ha)
theorem At.get {w : World} {a : Option Addr} {cs : List Value} (h : At w a cs) (h0 : cs ≠ []) : ∃ b o,a = some ⟨b,o,none⟩ /\ ∀ j,j < cs.length -> w.cell? ⟨b,o + j,none⟩ = cs[j]?:=by
 rcases h with h | h
 . exact absurd h h0
 . exact h
theorem At.lt {w : World} {b o : Nat} {cs : List Value} (h : At w (some ⟨b,o,none⟩) cs) (h0 : cs ≠ []) : b < w.heap.size:=by
 obtain ⟨b',o',ha,hc⟩:=h.get h0
 cases ha
 have hp : 0 < cs.length:=List.length_pos_iff.2 h0
 have:=hc 0 hp
 rw [List.getElem?_eq_getElem hp] at this
 exact World.block_lt_of_cell? w _ this
def Lims (w : World) (a : Option Addr) (n v : Nat) : Prop:=0 < n -> ∃ b o,a = some ⟨b,o,none⟩ /\ LimAt w b o n v
theorem Lims.below {w w' : World} {a : Option Addr} {n v : Nat} (h : Lims w a n v) (hb : Below w.heap.size w w') : Lims w' a n v:=fun h0=>
 let ⟨b,o,ha,hl⟩:=h h0;⟨b,o,ha,hl.below hb⟩
theorem text_zero (a : Option Addr) (cap : Nat) (w : World) :
 Calls Tryz.prog 110 #[.slice a 0 cap] w fun e w'=>e = .returned (.string (bs [])) /\ Below w.heap.size w w':=by
 have hmk:=mk_bytes 0 0 rfl (by omega)
 have hconv:=to_string (Blk.new w 5 (ubs 0 fun _=>0)) 0
 go_enter Tryz.func110,Tryz.ntmps110
 go_wp2_with fail
 refine (cut_nil cap a _).mono ?_;rintro e w' ⟨rfl,rfl⟩
 go_wp2_with fail
 refine (llen_nil a cap _).mono ?_;rintro e w' ⟨rfl,rfl⟩
 go_wp2
 refine wp_loop_rounds 1 ?_
 rw [rounds_succ]
 go_wp2
 go_ret
 exact ⟨rfl,(Below.refl _ _).alloc (Nat.le_refl _) _⟩
theorem text_lims (a : Option Addr) (m cap v : Nat) (w : World) (hm : m <= 1099511627776) (hcap : m <= cap) (hx : Lims w a m v) (hv : v < WW ^ m) :
 Calls Tryz.prog 110 #[.slice a m cap] w fun e w'=>e = .returned (.string (bs (nt v))) /\ Below w.heap.size w w':=by
 rcases Nat.eq_zero_or_pos m with h | h
 . subst h
   have : v = 0:=by simpa using hv
   subst this
   exact text_zero a cap w
 . obtain ⟨b,o,rfl,hl⟩:=hx h
   exact text_any b o m cap v w hm hcap hl hv
theorem ofN_one (n : Nat) (h : n < WW) (w : World) : Blk (w.alloc (.cells #[.int .u64 (n : Int)] 118)) w.heap.size 118 (uls 1 (dg n)):=by
 have e0 : dg n 0 = n:=by simp [dg,Nat.mod_eq_of_lt h]
 have e : uls 1 (dg n) = [.int .u64 (n : Int)]:=by simp [uls,e0]
 rw [e];exact Blk.new _ _ _
theorem natOf_any (n : Nat) (h : n < WW) (w : World) :
 Calls Tryz.prog 87 #[.int .u64 (n : Int)] w fun e w'=>e = .returned (.string (bs (nt n))) /\ Below w.heap.size w w':=by
 have hB:=ofN_one n h w
 have Hc : Hid (LimAt (w.alloc (.cells #[.int .u64 (n : Int)] 118)) w.heap.size 0 1 n):=fun j hj=>by rw [Nat.zero_add,hB.cell,uls_get _ _ _ hj]
 have Hh:=lid h;clear h hB
 go_enter Tryz.func87,Tryz.ntmps87
 go_wp2_with (go_at_call 110;refine (text_any w.heap.size 0 1 1 n _ (by omega) (by omega) Hc.out (by rw [Nat.pow_one];exact Hh.out)).mono ?_;rintro e w' ⟨rfl,hb⟩)
 go_ret
 exact ⟨rfl,((Below.refl _ _).alloc (Nat.le_refl _) _).trans (hb.mono (by simp))⟩
theorem bs_drop (l : List UInt8) (k : Nat) : (bs l).extract k (bs l).size = bs (l.drop k):=by
 rw [bs_of ((bs l).extract k (bs l).size)]
 congr 1
 rw [bs_size]
 simp [bs,ByteArray.data_extract]
 rw [List.take_of_length_le (by simp)]
theorem slice_bs_from (l : List UInt8) (i : Int) (k : Nat) (hk : k <= l.length) (hi : i = k) (W : World) :
 (Instr.sliceAt 9 (.string (bs l)) (some (.int .i64 i)) none none).run Tryz.prog W = .ok (.string (bs (l.drop k))) W:=by
 subst hi
 have h:=run_slice_string_from_if (P:=Tryz.prog) W 9 (bs l) .i64 k Tryz.underlying9
 rw [if_pos (by rw [bs_size];omega)] at h
 simp only [Int.toNat_natCast,bs_drop l k] at h
 simpa [Instr.sliceAt,run_underlying Tryz.underlying9] using h
theorem trimByte_any (l : List UInt8) (w : World) (_hs : l.length <= 1099511627776) :
 Calls Tryz.prog 134 #[.string (bs l),.int .u8 0] w fun e w'=>e = .returned (.string (bs (nt (nv l)))) /\ w = w':=by
 go_enter Tryz.func134,Tryz.ntmps134
 go_wp2
 go_loop [0] (fun x=>∃ m : List UInt8,m.length <= l.length /\ nv m = nv l /\ x = .string (bs m)) (fun x=>match x with | .string s=>s.size | _=>0)
 case atStart=>exact ⟨l,Nat.le_refl _,rfl,rfl⟩
 case round=>
  obtain ⟨m,hm,hv,rfl⟩:=hrel
  have Hv:=lid hv;clear hv
  have hsz:=bs_size m
  cases m with
  | nil =>
    go_wp2
    go_ret
    have e : nt (nv l) = []:=by rw [<- Hv.out];rfl
    rw [e];exact ⟨rfl,rfl⟩
  | cons c m =>
    have hidx:=idx_bs (c :: m) 0 0 (by simp) rfl
    have hsl:=slice_bs_from (c :: m) 1 1 (by simp) rfl
    simp only [List.getElem_cons_zero,List.drop_succ_cons,List.drop_zero] at hidx hsl
    have hl1 : 0 < m.length + 1:=by omega
    have Hlen : Hid (m.length + 1 <= l.length):=hm
    rw [List.length_cons] at hsz hm
    by_cases hc : c = 0
    . have hct : ((c.toNat : Int) == 0) = true:=by rw [hc];rfl
      have Hn : Hid (nv m = nv l):=by
       show nv m = nv l
       rw [<- Hv.out,nv_cons,hc];simp
      clear hc
      go_wp2
      refine ⟨⟨m,by have:=Hlen.out;omega,Hn.out,rfl⟩,?_⟩
      simp [bs_size]
    . have hcn : c.toNat ≠ 0:=fun h0=>hc (UInt8.toNat_inj.1 (by simpa using h0))
      have hct : ((c.toNat : Int) == 0) = false:=by rw [beq_eq_false_iff_ne];omega
      have He : Hid (nt (nv l) = c :: m):=by
       show nt (nv l) = c :: m
       rw [<- Hv.out]
       exact nt_nv _ (fun x hx=>by simp at hx;subst hx;exact hc)
      clear hc hcn
      go_wp2
      go_ret
      rw [He.out];exact ⟨rfl,rfl⟩
theorem toList_loop (a : ByteArray) (k i : Nat) (hk : a.size - i = k) (r : List UInt8) : ByteArray.toList.loop a i r = r.reverse ++ a.data.toList.drop i:=by
 induction k generalizing i r with
 | zero =>
   unfold ByteArray.toList.loop
   rw [if_neg (by omega),List.drop_eq_nil_of_le (by simp;omega),List.append_nil]
 | succ k ih =>
   unfold ByteArray.toList.loop
   have hi : i < a.size:=by omega
   have hi' : i < a.data.toList.length:=by simpa using hi
   rw [if_pos hi,ih (i + 1) (by omega),List.drop_eq_getElem_cons hi',List.reverse_cons,List.append_assoc]
   congr 2
   simp [ByteArray.get!,hi]
theorem bs_toList (l : List UInt8) : (bs l).toList = l:=by
 show ByteArray.toList.loop (bs l) 0 [] = l
 rw [toList_loop _ _ _ rfl,bs_data];simp
theorem bs_empty (l : List UInt8) : (bs l).toList.isEmpty = l.isEmpty:=by rw [bs_toList]
theorem trimLeft_any (l : List UInt8) (w : World) (hs : l.length <= 1099511627776) :
 Calls Tryz.prog 121 #[.string (bs l),.string ⟨#[0]⟩] w fun e w'=>e = .returned (.string (bs (nt (nv l)))) /\ w = w':=by
 cases l with
 | nil =>
   have hne:=bs_empty []
   simp only [List.isEmpty_nil] at hne
   go_enter Tryz.func121,Tryz.ntmps121
   go_wp2
   go_ret
   exact ⟨rfl,rfl⟩
 | cons c m =>
   have hne:=bs_empty (c :: m)
   simp only [List.isEmpty_cons] at hne
   go_enter Tryz.func121,Tryz.ntmps121
   go_wp2_with (go_at_call 134;refine (trimByte_any _ _ hs).mono ?_;rintro e w' ⟨rfl,rfl⟩)
   go_ret
   exact ⟨rfl,rfl⟩
theorem trim_any (l : List UInt8) (w : World) (hs : l.length <= 1099511627776) :
 Calls Tryz.prog 98 #[.string (bs l)] w fun e w'=>e = .returned (.string (bs (nt (nv l)))) /\ w = w':=by
 go_enter Tryz.func98,Tryz.ntmps98
 go_wp2_with (go_at_call 121;refine (trimLeft_any _ _ hs).mono ?_;rintro e w' ⟨rfl,rfl⟩)
 go_ret
 exact ⟨rfl,rfl⟩
theorem Blk.lim {w : World} {b : Nat} {t : TypeId} {N v : Nat} (h : Blk w b t (uls N (dg v))) (n : Nat) (hn : n <= N) : LimAt w b 0 n v:=
 fun j hj=>by rw [Nat.zero_add,h.cell,uls_get _ _ _ (by omega)]
theorem natCmp_any (l m : List UInt8) (w : World) (hl : l.length <= 68719476736) (hm : m.length <= 68719476736) :
 Calls Tryz.prog 118 #[.string (bs l),.string (bs m)] w fun e w'=>e = .returned (.int .i64 (cmpI (nv l) (nv m))) /\ Below w.heap.size w w':=by
 go_enter Tryz.func118,Tryz.ntmps118
 go_wp2_with fail
 refine (of_any l _ (by omega)).mono ?_
 rintro e w1 ⟨rfl,hB1,hb1,hle1⟩
 have HB1:=lid hB1;have Hb1:=lid hb1;clear hB1 hb1
 go_wp2_with fail
 refine (of_any m _ (by omega)).mono ?_
 rintro e w2 ⟨rfl,hB2,hb2,hle2⟩
 have HB2:=lid hB2;have Hb2:=lid hb2;clear hB2 hb2
 go_wp2_with fail
 refine (lcmp_any w.heap.size 0 (ln (nv l)) ((l.length + 7) / 8) (nv l) w1.heap.size 0 (ln (nv m)) ((m.length + 7) / 8) (nv m) _ (by omega) hle1 ((HB1.out.below Hb2.out).lim _ hle1) (lt_ln _) (by omega) hle2 (HB2.out.lim _ hle2) (lt_ln _)).mono ?_
 rintro e w3 ⟨rfl,hb3⟩
 have Hb3:=lid hb3;clear hb3
 go_wp2
 go_ret
 exact ⟨rfl,(Hb1.out.trans (Hb2.out.mono Hb1.out.size)).trans (Hb3.out.mono (Nat.le_trans Hb1.out.size Hb2.out.size))⟩
theorem natLen_any (l : List UInt8) (w : World) (hl : l.length <= 68719476736) :
 Calls Tryz.prog 93 #[.string (bs l)] w fun e w'=>e = .returned (.int .i64 (blen (nv l) : Int)) /\ Below w.heap.size w w':=by
 go_enter Tryz.func93,Tryz.ntmps93
 go_wp2_with fail
 refine (of_any l _ (by omega)).mono ?_
 rintro e w1 ⟨rfl,hB1,hb1,hle1⟩
 have HB1:=lid hB1;have Hb1:=lid hb1;clear hB1 hb1
 go_wp2_with fail
 refine (llen_any w.heap.size 0 (ln (nv l)) ((l.length + 7) / 8) (nv l) _ (by omega) hle1 (HB1.out.lim _ hle1) (lt_ln _)).mono ?_
 rintro e w3 ⟨rfl,rfl⟩
 go_wp2
 go_ret
 exact ⟨rfl,Hb1.out⟩
def tz (v : Nat) : Nat:=((v : Int)).trailingZeros
theorem tz_odd (k m : Nat) : tz (2 ^ k * (2 * m + 1)) = k:=by
 unfold tz
 have e : ((2 ^ k * (2 * m + 1) : Nat) : Int) = (2 * (m : Int) + 1) <<< k:=by
  rw [Int.shiftLeft_eq];simp [Int.natCast_mul,Int.natCast_pow,Int.mul_comm]
 rw [e,Int.trailingZeros_shiftLeft (by omega),Int.trailingZeros_two_mul_add_one,Nat.zero_add]
theorem tz_digits (v i : Nat) (h0 : v % WW ^ i = 0) (hd : dg v i ≠ 0) : tz v = 64 * i + Lib.ctz 64 (dg v i):=by
 obtain ⟨m,hm,hlt⟩:=ctz_spec (dg v i) (dg_lt v i) hd
 generalize Lib.ctz 64 (dg v i) = c at *
 have e1 : v = WW ^ i * (v / WW ^ i):=by
  have:=(Nat.mod_add_div v (WW ^ i)).symm;rw [h0,Nat.zero_add] at this;exact this
 have e2 : v / WW ^ i = dg v i + WW * (v / WW ^ i / WW):=(Nat.mod_add_div _ _).symm
 have e3 : WW = 2 ^ c * (2 * 2 ^ (63 - c)):=by
  rw [<- Nat.pow_succ',<- Nat.pow_add,WW_two];congr 1;omega
 have e4 : v = 2 ^ (64 * i + c) * (2 * (m + 2 ^ (63 - c) * (v / WW ^ i / WW)) + 1):=by
  conv=>lhs;rw [e1,e2,hm]
  rw [Nat.pow_add,<- WWp_two,Nat.mul_assoc]
  congr 1
  generalize v / WW ^ i / WW = y
  conv=>lhs;rw [e3]
  rw [Nat.mul_assoc,<- Nat.mul_add]
  congr 1
  rw [Nat.mul_add,Nat.mul_assoc];omega
 rw [e4];exact tz_odd _ _
theorem natZeros_any (l : List UInt8) (w : World) (hl : l.length <= 68719476736) (hT : Tab w) :
 Calls Tryz.prog 68 #[.string (bs l)] w fun e w'=>e = .returned (.int .i64 (tz (nv l) : Int)) /\ Below w.heap.size w w':=by
 have HT:=lid hT;clear hT
 go_enter Tryz.func68,Tryz.ntmps68
 go_wp2_with fail
 refine (of_any l _ (by omega)).mono ?_
 rintro e w1 ⟨rfl,hB1,hb1,hle1⟩
 have HB1:=lid hB1;have Hb1:=lid hb1;clear hB1 hb1
 have hn : ln (nv l) <= 549755813888:=by omega
 have Hlt : Hid (nv l < WW ^ ln (nv l)):=lt_ln _
 generalize hvv : nv l = v at *
 have HV:=lid hvv;clear hvv
 go_wp2
 go_loop [3,4,8] (fun _ _ i=>∃ k : Nat,k <= ln v /\ i = .int .i64 k /\ v % WW ^ k = 0) (fun _ _ i=>ln v - (intOf i).toNat)
 case atStart=>exact ⟨0,Nat.zero_le _,rfl,by simp [Nat.mod_one]⟩
 case round=>
  obtain ⟨k,hk,rfl,hz⟩:=hrel
  have Hz:=lid hz;clear hz
  by_cases hlt : k < ln v
  . have hcell : w1.cell? ⟨w.heap.size,k,none⟩ = some (.int .u64 (dg v k : Int)):=by
     have:=HB1.out.lim _ hle1 k hlt;rwa [Nat.zero_add] at this
    by_cases hd : dg v k = 0
    . have hd' : ((dg v k : Int) != 0) = false:=by simp [hd]
      have Hd:=lid hd;clear hd
      go_wp2
      go_round
      case rel=>exact ⟨k + 1,by omega,by go_num,by rw [mod_succ,Hz.out,Hd.out];simp⟩
      case measure=>simp [intOf];omega
    . have hd' : ((dg v k : Int) != 0) = true:=by rw [bne_iff_ne];omega
      have Hd:=lid hd;clear hd
      have HT1:=lid (HT.out.below Hb1.out)
      have Hres:=lid (tz_digits v k Hz.out Hd.out)
      have hct : Lib.ctz 64 (dg v k) < 64:=by obtain ⟨_,_,h⟩:=ctz_spec (dg v k) (dg_lt v k) Hd.out;exact h
      go_wp2_with (go_at_call 90;refine (tz64_any _ (dg_lt _ _) Hd.out _ HT1.out).mono ?_;rintro e w' ⟨rfl,rfl⟩)
      go_ret
      rw [HV.out,Hres.out]
      exact ⟨congrArg (fun z : Int=>Ending.returned (.int .i64 z)) (by omega),Hb1.out⟩
  . have Hz0 : Hid (v = 0):=by
     have:=Hz.out
     rwa [Nat.mod_eq_of_lt (Nat.lt_of_lt_of_le Hlt.out (Nat.pow_le_pow_right WW_pos (by omega)))] at this
    go_wp2
    go_ret
    rw [HV.out,Hz0.out]
    exact ⟨rfl,Hb1.out⟩
theorem WWp_bytes (l : List UInt8) : nv l < WW ^ ((l.length + 7) / 8):=by
 refine Nat.lt_of_lt_of_le (nv_lt l) ?_
 rw [WWp_two,show (256 : Nat) = 2 ^ 8 by rfl,<- Nat.pow_mul]
 exact Nat.pow_le_pow_right (by decide) (by omega)
theorem natSub_any (l m : List UInt8) (w : World) (hl : l.length <= 68719476736) (hm : m.length <= 68719476736) (h : nv m <= nv l) :
 Calls Tryz.prog 97 #[.string (bs l),.string (bs m)] w fun e w'=>e = .returned (.tuple #[.string (bs (nt (nv l - nv m))),.bool true]) /\ Below w.heap.size w w':=by
 have hc0 : 0 <= cmpI (nv l) (nv m):=by unfold cmpI;rw [if_neg (by omega)];split<;>omega
 have Hh:=lid h;clear h
 go_enter Tryz.func97,Tryz.ntmps97
 go_wp2_with fail
 refine (of_any l _ (by omega)).mono ?_
 rintro e w1 ⟨rfl,hB1,hb1,hle1⟩
 have HB1:=lid hB1;have Hb1:=lid hb1;clear hB1 hb1
 go_wp2_with fail
 refine (of_any m _ (by omega)).mono ?_
 rintro e w2 ⟨rfl,hB2,hb2,hle2⟩
 have HB2:=lid hB2;have Hb2:=lid hb2;clear hB2 hb2
 go_wp2_with fail
 refine (lcmp_any w.heap.size 0 (ln (nv l)) ((l.length + 7) / 8) (nv l) w1.heap.size 0 (ln (nv m)) ((m.length + 7) / 8) (nv m) _ (by omega) hle1 ((HB1.out.below Hb2.out).lim _ hle1) (lt_ln _) (by omega) hle2 (HB2.out.lim _ hle2) (lt_ln _)).mono ?_
 rintro e w3 ⟨rfl,hb3⟩
 have Hb3:=lid hb3;clear hb3
 go_wp2_with fail
 refine (ltake_any w.heap.size ((l.length + 7) / 8) 0 (ln (nv l)) ((l.length + 7) / 8) (dg (nv l)) (nv l) w1.heap.size 0 (ln (nv m)) ((m.length + 7) / 8) (nv m) _ (by omega) (by omega) ((HB1.out.below Hb2.out).below Hb3.out) (by omega) (fun j _=>by rw [Nat.zero_add]) ((HB2.out.below Hb3.out).lim _ hle2) (lt_ln _) (by have:=HB1.out.lt;omega) Hh.out (lt_ln _)).mono ?_
 rintro e w4 ⟨rfl,hB4,hg4⟩
 have HL : Hid (LimAt w4 w.heap.size 0 (ln (nv l)) (nv l - nv m)):=fun j hj=>by
  rw [hB4.cell,uls_get _ _ _ (by omega),patch_in _ _ _ _ _ hj]
 have Hg4:=lid hg4;clear hB4 hg4
 go_wp2_with fail
 refine (text_any w.heap.size 0 (ln (nv l)) ((l.length + 7) / 8) (nv l - nv m) _ (by omega) hle1 HL.out (Nat.lt_of_le_of_lt (Nat.sub_le _ _) (lt_ln _))).mono ?_
 rintro e w5 ⟨rfl,hb5⟩
 have Hb5:=lid hb5;clear hb5
 go_wp2
 go_ret2
 refine ⟨rfl,?_⟩
 have s1:=Hb1.out.size
 have s2:=Hb2.out.size
 have s3:=Hb3.out.size
 have b3:=((Hb1.out.trans (Hb2.out.mono s1)).trans (Hb3.out.mono (Nat.le_trans s1 s2)))
 have b4:=b3.grown Hg4.out b3.size (fun k hk=>by cases hk;exact Nat.le_refl _)
 exact b4.trans (Hb5.out.mono b4.size)
theorem natShl_any (l : List UInt8) (n : Nat) (w : World) (hl : l.length <= 68719476736) (hn : n <= 549755813888) :
 Calls Tryz.prog 91 #[.string (bs l),.int .i64 (n : Int)] w fun e w'=>e = .returned (.string (bs (nt (nv l * 2 ^ n)))) /\ Below w.heap.size w w':=by
 have hmax : max (n : Int) 0 = (n : Int):=by omega
 go_enter Tryz.func91,Tryz.ntmps91
 go_wp2_with fail
 refine (of_any l _ (by omega)).mono ?_
 rintro e w1 ⟨rfl,hB1,hb1,hle1⟩
 have HB1:=lid hB1;have Hb1:=lid hb1;clear hB1 hb1
 go_wp2_with fail
 refine (up_any w.heap.size 0 (ln (nv l)) ((l.length + 7) / 8) (nv l) n _ (by omega) hn (HB1.out.lim _ hle1) (lt_ln _)).mono ?_
 rintro e w2 ⟨rfl,hB2,hb2,hle2⟩
 have HB2:=lid hB2;have Hb2:=lid hb2;clear hB2 hb2
 go_wp2_with fail
 refine (text_any w1.heap.size 0 (ln (nv l * 2 ^ n)) (ln (nv l) + n / 64 + 1) (nv l * 2 ^ n) _ (by omega) hle2 (HB2.out.lim _ hle2) (lt_ln _)).mono ?_
 rintro e w3 ⟨rfl,hb3⟩
 have Hb3:=lid hb3;clear hb3
 go_wp2
 go_ret
 exact ⟨rfl,(Hb1.out.trans (Hb2.out.mono Hb1.out.size)).trans (Hb3.out.mono (Nat.le_trans Hb1.out.size Hb2.out.size))⟩
theorem natShr_any (l : List UInt8) (n : Nat) (w : World) (hl : l.length <= 68719476736) (hn : n <= 1099511627776) :
 Calls Tryz.prog 92 #[.string (bs l),.int .i64 (n : Int)] w fun e w'=>e = .returned (.string (bs (nt (nv l / 2 ^ n)))) /\ Below w.heap.size w w':=by
 have hmax : max (n : Int) 0 = (n : Int):=by omega
 by_cases hlt : n / 64 < ln (nv l)
 . go_enter Tryz.func92,Tryz.ntmps92
   go_wp2_with fail
   refine (of_any l _ (by omega)).mono ?_
   rintro e w1 ⟨rfl,hB1,hb1,hle1⟩
   have HB1:=lid hB1;have Hb1:=lid hb1;clear hB1 hb1
   go_wp2_with fail
   refine (down_any w.heap.size 0 (ln (nv l)) ((l.length + 7) / 8) (nv l) n _ (by omega) hle1 hn (HB1.out.lim _ hle1) (lt_ln _) hlt).mono ?_
   rintro e w2 ⟨rfl,hB2,hb2,hle2⟩
   have HB2:=lid hB2;have Hb2:=lid hb2;clear hB2 hb2
   go_wp2_with fail
   refine (text_any w1.heap.size 0 (ln (nv l / 2 ^ n)) (ln (nv l) - n / 64) (nv l / 2 ^ n) _ (by omega) hle2 (HB2.out.lim _ hle2) (lt_ln _)).mono ?_
   rintro e w3 ⟨rfl,hb3⟩
   have Hb3:=lid hb3;clear hb3
   go_wp2
   go_ret
   exact ⟨rfl,(Hb1.out.trans (Hb2.out.mono Hb1.out.size)).trans (Hb3.out.mono (Nat.le_trans Hb1.out.size Hb2.out.size))⟩
 . have H0 : Hid (nt (nv l / 2 ^ n) = []):=by
    show nt (nv l / 2 ^ n) = []
    rw [nt_nil_iff]
    refine Nat.div_eq_of_lt (Nat.lt_of_lt_of_le (lt_ln _) ?_)
    rw [WWp_two]
    exact Nat.pow_le_pow_right (by decide) (by omega)
   go_enter Tryz.func92,Tryz.ntmps92
   go_wp2_with fail
   refine (of_any l _ (by omega)).mono ?_
   rintro e w1 ⟨rfl,hB1,hb1,hle1⟩
   have HB1:=lid hB1;have Hb1:=lid hb1;clear hB1 hb1
   go_wp2_with fail
   refine (down_nil _ (ln (nv l)) ((l.length + 7) / 8) n _ (by omega) hn (by omega)).mono ?_
   rintro e w2 ⟨rfl,rfl⟩
   go_wp2_with fail
   refine (text_zero none 0 _).mono ?_
   rintro e w3 ⟨rfl,hb3⟩
   have Hb3:=lid hb3;clear hb3
   go_wp2
   go_ret
   rw [H0.out]
   exact ⟨rfl,Hb1.out.trans (Hb3.out.mono Hb1.out.size)⟩
theorem mul_val (v u k : Nat) (o : Nat) : v % WW ^ k * u + dg v k * u * WW ^ k = v % WW ^ (k + 1) * u /\ o = o:=by
 refine ⟨?_,rfl⟩
 rw [mod_succ,Nat.add_mul,Nat.mul_comm (WW ^ k),Nat.mul_assoc,Nat.mul_assoc,Nat.mul_comm u]
theorem natMul_any (l m : List UInt8) (w : World) (hl : l.length <= 68719476736) (hm : m.length <= 68719476736) :
 Calls Tryz.prog 109 #[.string (bs l),.string (bs m)] w fun e w'=>e = .returned (.string (bs (nt (nv l * nv m)))) /\ Below w.heap.size w w':=by
 go_enter Tryz.func109,Tryz.ntmps109
 go_wp2_with fail
 refine (of_any l _ (by omega)).mono ?_
 rintro e w1 ⟨rfl,hB1,hb1,hle1⟩
 have HB1:=lid hB1;have Hb1:=lid hb1;clear hB1 hb1
 go_wp2_with fail
 refine (of_any m _ (by omega)).mono ?_
 rintro e w2 ⟨rfl,hB2,hb2,hle2⟩
 have HB2:=lid hB2;have Hb2:=lid hb2;clear hB2 hb2
 have Hlv : Hid (nv l < WW ^ ln (nv l)):=lt_ln _
 have Hlu : Hid (nv m < WW ^ ln (nv m)):=lt_ln _
 generalize hv : nv l = v at *
 generalize hu : nv m = u at *
 have HV:=lid hv;have HU:=lid hu;clear hv hu
 have hmk:=mk_limbs ((ln v : Int) + (ln u : Int) + 1) (ln v + ln u + 1) (by omega) (by omega)
 generalize hM : ln v + ln u + 1 = M at *
 have hM1 : ln v + ln u + 1 <= M:=by omega
 have hM2 : M <= ln v + ln u + 1:=by omega
 have HM:=lid hM;clear hM
 have hne1 : w.heap.size < w2.heap.size:=by have:=HB1.out.lt;have:=Hb2.out.size;omega
 have hne2 : w1.heap.size < w2.heap.size:=HB2.out.lt
 go_wp2
 go_loopw [8,9,23] (fun _ _ i wr=>∃ k : Nat,k <= ln v /\ i = .int .i64 k /\ Blk wr w2.heap.size 118 (uls M (dg (v % WW ^ k * u))) /\ Below w2.heap.size w2 wr) (fun _ _ i _=>ln v - (intOf i).toNat)
 case atStart=>
  refine ⟨0,Nat.zero_le _,rfl,?_,(Below.refl _ _).alloc (Nat.le_refl _) _⟩
  have e : uls M (dg (v % WW ^ 0 * u)) = uls M fun _=>0:=uls_congr fun j _=>by simp [dg,Nat.mod_one]
  rw [e];exact Blk.new _ _ _
 case round=>
  obtain ⟨k,hk,rfl,hB,hb⟩:=hrel
  by_cases hlt : k < ln v
  . have hcell : wr.cell? ⟨w.heap.size,k,none⟩ = some (.int .u64 (dg v k : Int)):=by
     have:=(((HB1.out.below Hb2.out).below hb).lim _ hle1) k hlt;rwa [Nat.zero_add] at this
    have hcap : ¬ M = k:=by omega
    have HY : Hid (LimAt wr w1.heap.size 0 (ln u) u):=(HB2.out.below hb).lim _ hle2
    have HB:=lid hB;have Hb:=lid hb;clear hB hb
    go_wp2_with fail
    refine (lplus_any w2.heap.size M k (M - k) (M - k) (dg (v % WW ^ k * u)) (v % WW ^ k * u / WW ^ k) w1.heap.size 0 (ln u) ((m.length + 7) / 8) u (dg v k) _ (by omega) (by omega) HB.out (by omega) (fun j _=>(dg_shift _ _ _).symm) HY.out Hlu.out (by omega) (dg_lt _ _)).mono ?_
    rintro e w4 ⟨rfl,hB4,hg4⟩
    have Hend : Hid (Blk w4 w2.heap.size 118 (uls M (dg (v % WW ^ (k + 1) * u)))):=by
     show Blk w4 w2.heap.size 118 (uls M (dg (v % WW ^ (k + 1) * u)))
     rw [uls_congr (g:=patch (dg (v % WW ^ k * u)) k (M - k) (dg (v % WW ^ k * u / WW ^ k + u * dg v k))) fun j hj=>?_]
     . exact hB4
     . have hval:=(mul_val v u k 0).1
       unfold patch
       by_cases hjk : k <= j
       . rw [if_pos (by omega)]
         have e1 : v % WW ^ k * u / WW ^ k + u * dg v k = v % WW ^ (k + 1) * u / WW ^ k:=by
          rw [<- hval,Nat.mul_comm _ (WW ^ k),Nat.add_mul_div_left _ _ (WWp_pos k),Nat.mul_comm u]
         rw [e1,dg_shift,show k + (j - k) = j by omega]
       . rw [if_neg (by omega),<- dg_mod (n:=k) (show j < k by omega),<- hval,Nat.add_mul_mod_self_right,dg_mod (show j < k by omega)]
    have Hb4 : Hid (Below w2.heap.size w2 w4):=Hb.out.grown hg4 Hb.out.size (fun j hj=>by cases hj;exact Nat.le_refl _)
    clear hB4 hg4
    go_wp2
    go_roundw
    case rel=>exact ⟨k + 1,by omega,by go_num,Hend.out,Hb4.out⟩
    case measure=>simp [intOf];omega
  . obtain rfl : k = ln v:=by omega
    rw [Nat.mod_eq_of_lt Hlv.out] at hB
    have HB:=lid hB;have Hb:=lid hb;clear hB hb
    have Hvu : Hid (v * u < WW ^ M):=by
     show v * u < WW ^ M
     refine Nat.lt_of_lt_of_le (Nat.mul_lt_mul'' Hlv.out Hlu.out) ?_
     rw [<- Nat.pow_add];exact Nat.pow_le_pow_right WW_pos (by omega)
    go_wp2_with fail
    refine (text_any w2.heap.size 0 M M (v * u) _ (by omega) (Nat.le_refl _) (HB.out.lim _ (Nat.le_refl _)) Hvu.out).mono ?_
    rintro e w5 ⟨rfl,hb5⟩
    have Hb5:=lid hb5;clear hb5
    go_wp2
    go_ret
    rw [HV.out,HU.out]
    have b3:=(Hb1.out.trans (Hb2.out.mono Hb1.out.size)).trans (Hb.out.mono (Nat.le_trans Hb1.out.size Hb2.out.size))
    exact ⟨rfl,b3.trans (Hb5.out.mono b3.size)⟩
def nsum (xs : List (List UInt8)) : Nat:=(xs.map nv).sum
theorem nsum_lt (xs : List (List UInt8)) (B : Nat) (h : ∀ l ∈ xs,l.length <= B) : nsum xs <= xs.length * 256 ^ B:=by
 unfold nsum
 induction xs with
 | nil=>simp
 | cons l xs ih =>
   have h1:=nv_lt l
   have h2 : 256 ^ l.length <= 256 ^ B:=Nat.pow_le_pow_right (by decide) (h l (by simp))
   have h3:=ih (fun m hm=>h m (by simp [hm]))
   simp only [List.map_cons,List.sum_cons,List.length_cons]
   rw [Nat.add_mul,Nat.one_mul];omega
theorem ln_nsum' (xs : List (List UInt8)) (B N : Nat) (h : ∀ l ∈ xs,l.length <= B) (hx : xs.length <= 1048576) (hN : 8 * B + 20 < 64 * N) : ln (nsum xs) <= N:=by
 refine ln_le (Nat.lt_of_le_of_lt (nsum_lt xs _ h) ?_)
 refine Nat.lt_of_le_of_lt (Nat.mul_le_mul_right _ hx) ?_
 rw [WWp_two,show (256 : Nat) = 2 ^ 8 from rfl,<- Nat.pow_mul,show (1048576 : Nat) = 2 ^ 20 from rfl,<- Nat.pow_add]
 exact Nat.pow_lt_pow_right (by decide) (by omega)
theorem ln_nsum (xs : List (List UInt8)) (h : ∀ l ∈ xs,l.length <= 68719476736) (hx : xs.length <= 1048576) : ln (nsum xs) <= 8589934593:=
 ln_nsum' xs 68719476736 8589934593 h hx (by decide)
theorem nsum_take (xs : List (List UInt8)) (k : Nat) (hk : k < xs.length) : nsum (xs.take (k + 1)) = nsum (xs.take k) + nv xs[k]:=by
 unfold nsum
 rw [List.take_succ_eq_append_getElem hk,List.map_append,List.sum_append]
 simp
theorem natAdd_any (xs : List (List UInt8)) (a : Option Addr) (cap : Nat) (w : World) (hl : ∀ l ∈ xs,l.length <= 68719476736) (hx : xs.length <= 1048576)
 (ha : At w a (xs.map fun l=>.string (bs l))) :
 Calls Tryz.prog 95 #[.slice a xs.length cap] w fun e w'=>e = .returned (.string (bs (nt (nsum xs)))) /\ Below w.heap.size w w':=by
 have Hl:=lid hl;clear hl
 have Ha:=lid ha;clear ha
 have hs0 : ∀ k,ln (nsum (xs.take k)) <= 8589934593:=fun k=>ln_nsum _ (fun l hm=>Hl.out l (List.mem_of_mem_take hm)) (by rw [List.length_take];omega)
 have Hs0:=lid hs0;clear hs0
 go_enter Tryz.func95,Tryz.ntmps95
 go_wp2
 go_loopw [3,5,6,9] (fun s _ _ i wr=>∃ (k : Nat) (a1 : Option Addr) (c1 : Nat),k <= xs.length /\ i = .int .i64 k /\ s = .slice a1 (ln (nsum (xs.take k))) c1 /\ ln (nsum (xs.take k)) <= c1 /\
  Lims wr a1 (ln (nsum (xs.take k))) (nsum (xs.take k)) /\ Below w.heap.size w wr) (fun _ _ _ i _=>xs.length - (intOf i).toNat)
 case atStart=>exact ⟨0,none,0,Nat.zero_le _,rfl,rfl,by simp [nsum,ln_zero],fun h=>by simp [nsum,ln_zero] at h,Below.refl _ _⟩
 case round=>
  obtain ⟨k,a1,c1,hk,rfl,rfl,hc1,hL,hb⟩:=hrel
  have hlen:=Hs0.out k
  by_cases hlt : k < xs.length
  . have hne : (xs.map fun l=>Value.string (bs l)) ≠ []:=by
     intro h0;have:=congrArg List.length h0;simp at this;subst this;simp at hlt
    obtain ⟨b,o,hab,hcs⟩:=(Ha.out.below hb).get hne
    have hcell : wr.cell? ⟨b,o + k,none⟩ = some (.string (bs xs[k])):=by
     rw [hcs k (by simpa using hlt)];simp [hlt]
    have hix:=i69x9 xs.length cap k (k : Int) hab hlt rfl
    clear hcs hne
    have HLx : Hid (xs[k].length <= 68719476736):=Hl.out _ (List.getElem_mem hlt)
    have Hst:=lid (nsum_take xs k hlt)
    have Hab:=lid hab;clear hab
    have hlen':=Hs0.out (k + 1)
    rw [Hst.out] at hlen'
    have Hlen':=lid hlen';clear hlen'
    generalize xs[k] = x at *
    generalize hS : nsum (xs.take k) = S at *
    have HS:=lid hS;clear hS
    have HL:=lid hL;have Hb:=lid hb;clear hL hb
    go_wp2_with fail
    refine (of_any x _ (by have:=HLx.out;omega)).mono ?_
    rintro e w1 ⟨rfl,hB1,hb1,hle1⟩
    have HB1:=lid hB1;have Hb1:=lid hb1;clear hB1 hb1
    have hx1 : ln (nv x) <= 8589934593:=by have:=HLx.out;omega
    have Hle1:=lid hle1;clear hle1
    have Hlx : Hid (nv x < WW ^ ln (nv x)):=lt_ln _
    have Hls : Hid (S < WW ^ ln S):=lt_ln _
    generalize hX : nv x = X at *
    have HX:=lid hX;clear hX
    have hmax : max (ln S : Int) (ln X : Int) = ((max (ln S) (ln X) : Nat) : Int):=by omega
    have hM0 : max (ln S) (ln X) <= 8589934593:=by omega
    generalize hMM : max (ln S) (ln X) = M at *
    have hM1 : ln S <= M:=by omega
    have hM2 : ln X <= M:=by omega
    have HMM:=lid hMM;clear hMM
    go_wp2_with fail
    refine (copied_any a1 (ln S) c1 S ((M : Int) + 1) _ (by omega) (by omega) (by omega) (HL.out.below Hb1.out) Hls.out).mono ?_
    rintro e w2 ⟨rfl,hB2,hb2⟩
    rw [show max ((M : Int) + 1).toNat (ln S) = M + 1 by omega] at hB2 ⊢
    have HB2:=lid hB2;have Hb2:=lid hb2;clear hB2 hb2
    go_wp2_with fail
    refine (ladd_any w1.heap.size (M + 1) 0 (M + 1) (M + 1) (dg S) S wr.heap.size 0 (ln X) ((x.length + 7) / 8) X _ (by omega) (by omega) HB2.out (by omega) (fun j _=>by rw [Nat.zero_add]) ((HB1.out.below Hb2.out).lim _ Hle1.out) Hlx.out (by have:=HB1.out.lt;omega)).mono ?_
    rintro e w3 ⟨rfl,hB3,hg3⟩
    have HL3 : Hid (LimAt w3 w1.heap.size 0 (M + 1) (S + X)):=fun j hj=>by
     rw [hB3.cell,uls_get _ _ _ (by omega),patch_in _ _ _ _ _ hj]
    have Hg3:=lid hg3;clear hB3 hg3
    have Hlt3 : Hid (S + X < WW ^ (M + 1)):=by
     show S + X < WW ^ (M + 1)
     have a1:=Nat.lt_of_lt_of_le Hls.out (Nat.pow_le_pow_right WW_pos hM1)
     have a2:=Nat.lt_of_lt_of_le Hlx.out (Nat.pow_le_pow_right WW_pos hM2)
     have a3 : 2 * WW ^ M <= WW ^ (M + 1):=by
      rw [Nat.pow_succ,Nat.mul_comm];exact Nat.mul_le_mul_left _ (by decide)
     omega
    go_wp2_with fail
    refine (cut_any w1.heap.size 0 (M + 1) (M + 1) (S + X) _ (by omega) (Nat.le_refl _) HL3.out Hlt3.out).mono ?_
    rintro e w4 ⟨rfl,rfl⟩
    have Hb3 : Hid (Below w.heap.size w w3):=by
     have s1:=Hb1.out.size;have s2:=Hb2.out.size;have s0:=Hb.out.size
     have b2:=(Hb.out.trans (Hb1.out.mono s0)).trans (Hb2.out.mono (Nat.le_trans s0 s1))
     exact b2.grown Hg3.out b2.size (fun j hj=>by cases hj;omega)
    go_wp2
    go_roundw
    case rel=>
     refine ⟨k + 1,some ⟨w1.heap.size,0,none⟩,M + 1,by omega,by go_num,?_,?_,?_,Hb3.out⟩
     . rw [Hst.out]
     . rw [Hst.out];exact ln_le Hlt3.out
     . rw [Hst.out];exact fun _=>⟨_,_,rfl,HL3.out.less (ln_le Hlt3.out)⟩
    case measure=>simp [intOf];omega
  . obtain rfl : k = xs.length:=by omega
    rw [List.take_length] at *
    have HL:=lid hL;have Hb:=lid hb;clear hL hb
    go_wp2_with fail
    refine (text_lims a1 (ln (nsum xs)) c1 (nsum xs) _ (by omega) hc1 HL.out (lt_ln _)).mono ?_
    rintro e w5 ⟨rfl,hb5⟩
    have Hb5:=lid hb5;clear hb5
    go_wp2
    go_ret
    exact ⟨rfl,Hb.out.trans (Hb5.out.mono Hb.out.size)⟩
end Go.Proofs.YtidjljldhdckiaaGreatDoor
namespace Go.Proofs.YtidjljldhdckiaaGreatDoor
theorem tpos : 0 < 2:=by decide
theorem p2 (k : Nat) : 0 < 2 ^ k:=Nat.pow_pos (by decide)
def bd (v j : Nat) : Nat:=v / 2 ^ j % 2
theorem bd_lt (v j : Nat) : bd v j < 2:=Nat.mod_lt _ tpos
theorem btop_zero {v k : Nat} (h : v < 2 ^ (k + 1)) (h0 : bd v k = 0) : v < 2 ^ k:=by
 unfold bd at h0
 have h1 : v / 2 ^ k < 2:=by
  rw [Nat.div_lt_iff_lt_mul (p2 k)];rw [Nat.pow_succ] at h;rwa [Nat.mul_comm] at h
 rw [Nat.mod_eq_of_lt h1] at h0
 rcases Nat.lt_or_ge v (2 ^ k) with h2 | h2
 . exact h2
 . have:=Nat.div_pos h2 (p2 k);omega
theorem btop_pos {v k : Nat} (h0 : bd v k ≠ 0) : 2 ^ k <= v:=by
 rcases Nat.lt_or_ge v (2 ^ k) with h2 | h2
 . exact absurd (by unfold bd;rw [Nat.div_eq_of_lt h2]) h0
 . exact h2
theorem bd_of_lt {v k j : Nat} (h : v < 2 ^ k) (hj : k <= j) : bd v j = 0:=by
 unfold bd
 rw [Nat.div_eq_of_lt (Nat.lt_of_lt_of_le h (Nat.pow_le_pow_right tpos hj))]
theorem bmod_succ (v i : Nat) : v % 2 ^ (i + 1) = v % 2 ^ i + 2 ^ i * bd v i:=by
 unfold bd;rw [Nat.pow_succ,Nat.mod_mul]
def bb (v u i : Nat) : Nat:=if v % 2 ^ i < u % 2 ^ i then 1 else 0
theorem bb_zero (v u : Nat) : bb v u 0 = 0:=by simp [bb,Nat.mod_one]
theorem bb_le (v u i : Nat) : bb v u i <= 1:=by unfold bb;split<;>omega
theorem bb_step (v u i : Nat) : bb v u (i + 1) = if bd v i < bd u i + bb v u i then 1 else 0:=by
 have h1:=Nat.mod_lt v (p2 i)
 have h2:=Nat.mod_lt u (p2 i)
 unfold bb
 rw [bmod_succ v,bmod_succ u]
 generalize bd v i = a
 generalize bd u i = b
 generalize v % 2 ^ i = r at *
 generalize u % 2 ^ i = s at *
 generalize 2 ^ i = M at *
 have key : (r + M * a < s + M * b) ↔ (a < b + if r < s then 1 else 0):=by
  rcases Nat.lt_trichotomy a b with h | h | h
  . have : M * (a + 1) <= M * b:=Nat.mul_le_mul_left _ h
    rw [Nat.mul_add] at this
    constructor
    . intro _;split<;>omega
    . intro _;omega
  . subst h;split<;>omega
  . have : M * (b + 1) <= M * a:=Nat.mul_le_mul_left _ h
    rw [Nat.mul_add] at this
    constructor
    . intro _;omega
    . intro h';exfalso;revert h';split<;>omega
 simp only [key]
theorem bb_digit (v u i : Nat) (hu : u <= v) : (bd v i + 2 - bd u i - bb v u i) % 2 = bd (v - u) i:=by
 -- the digit of the difference
 have h1:=Nat.mod_lt v (p2 i)
 have h2:=Nat.mod_lt u (p2 i)
 have hM:=p2 i
 have hb:=bb_le v u i
 have du:=bd_lt u i
 have e1 : v = v % 2 ^ i + 2 ^ i * (v / 2 ^ i):=(Nat.mod_add_div v _).symm
 have e2 : u = u % 2 ^ i + 2 ^ i * (u / 2 ^ i):=(Nat.mod_add_div u _).symm
 have e3 : (v - u) / 2 ^ i + bb v u i + u / 2 ^ i = v / 2 ^ i:=by
  unfold bb
  generalize v % 2 ^ i = r at *
  generalize u % 2 ^ i = s at *
  generalize v / 2 ^ i = x at *
  generalize u / 2 ^ i = y at *
  generalize 2 ^ i = M at *
  have hxy : y <= x:=by
   rcases Nat.lt_or_ge x y with h | h
   . have : M * (x + 1) <= M * y:=Nat.mul_le_mul_left _ h
     rw [Nat.mul_add] at this;omega
   . exact h
  obtain ⟨d,rfl⟩ : ∃ d,x = y + d:=⟨x - y,by omega⟩
  split
  . rename_i hrs
    have hd : 1 <= d:=by
     rcases Nat.eq_zero_or_pos d with h | h
     . subst h;simp at e1;omega
     . exact h
    obtain ⟨d',rfl⟩ : ∃ d',d = d' + 1:=⟨d - 1,by omega⟩
    have : v - u = (M + r - s) + M * d':=by rw [Nat.mul_add,Nat.mul_add] at e1;omega
    rw [this,Nat.add_mul_div_left _ _ hM,Nat.div_eq_of_lt (by omega)];omega
  . have : v - u = (r - s) + M * d:=by rw [Nat.mul_add] at e1;omega
    rw [this,Nat.add_mul_div_left _ _ hM,Nat.div_eq_of_lt (by omega)];omega
 unfold bd at *
 generalize (v - u) / 2 ^ i = q at *
 rw [<- e3]
 generalize bb v u i = c at *
 generalize u / 2 ^ i = y at *
 have hW:=tpos
 -- (q + c + y) % W + W - y % W - c ≡ q
 have e4 : ((q + c + y) % 2 + 2 - y % 2 - c) % 2 = q % 2:=by
  have a1 : y = y % 2 + 2 * (y / 2):=(Nat.mod_add_div y _).symm
  have a2 : (q + c + y) % 2 = (q + c + y % 2) % 2:=by
   rw [Nat.add_mod,Nat.add_mod (q + c) (y % 2),Nat.mod_mod]
  rw [a2]
  generalize y % 2 = z at *
  have a3 : q = q % 2 + 2 * (q / 2):=(Nat.mod_add_div q _).symm
  have a4 : (q + c + z) % 2 = (q % 2 + c + z) % 2:=by
   conv=>lhs;rw [a3,show q % 2 + 2 * (q / 2) + c + z = (q % 2 + c + z) + 2 * (q / 2) by omega,Nat.add_mul_mod_self_left]
  rw [a4]
  have hq:=Nat.mod_lt q hW
  generalize q % 2 = p at *
  rcases Nat.lt_or_ge (p + c + z) 2 with h | h
  . rw [Nat.mod_eq_of_lt h,show p + c + z + 2 - z - c = p + 2 by omega,Nat.add_mod_right,Nat.mod_eq_of_lt hq]
  . rcases Nat.lt_or_ge (p + c + z) (2 * 2) with h' | h'
    . have : (p + c + z) % 2 = p + c + z - 2:=by
       rw [Nat.mod_eq_sub_mod h,Nat.mod_eq_of_lt (by omega)]
      rw [this,show p + c + z - 2 + 2 - z - c = p by omega,Nat.mod_eq_of_lt hq]
    . exfalso;omega
 exact e4
theorem bd_lt_of {v u k : Nat} (h : v / 2 ^ (k + 1) = u / 2 ^ (k + 1)) (hd : bd v k < bd u k) : v < u:=by
 unfold bd at hd
 have e1:=(Nat.mod_add_div (v / 2 ^ k) 2).symm
 have e2:=(Nat.mod_add_div (u / 2 ^ k) 2).symm
 rw [Nat.pow_succ,<- Nat.div_div_eq_div_mul,<- Nat.div_div_eq_div_mul] at h
 have : v / 2 ^ k < u / 2 ^ k:=by rw [e1,e2,h];omega
 exact Nat.lt_of_div_lt_div this
theorem bd_eq_of {v u k : Nat} (h : v / 2 ^ (k + 1) = u / 2 ^ (k + 1)) (hd : bd v k = bd u k) : v / 2 ^ k = u / 2 ^ k:=by
 unfold bd at hd
 have e1:=(Nat.mod_add_div (v / 2 ^ k) 2).symm
 have e2:=(Nat.mod_add_div (u / 2 ^ k) 2).symm
 rw [Nat.pow_succ,<- Nat.div_div_eq_div_mul,<- Nat.div_div_eq_div_mul] at h
 rw [e1,e2,h,hd]
theorem bd_le (v j : Nat) : bd v j <= 1:=by have:=bd_lt v j;omega
theorem blen_eq {v k : Nat} (h : v < 2 ^ (k + 1)) (h' : 2 ^ k <= v) : blen v = k + 1:=by
 have:=blen_le h;have:=blen_ge h';omega
theorem blen_zero : blen 0 = 0:=rfl
theorem blen_mono {v u : Nat} (h : v <= u) : blen v <= blen u:=blen_le (Nat.lt_of_le_of_lt h (blen_lt u))
theorem blen_two (v c : Nat) (hc : c <= 1) : blen (2 * v + c) <= blen v + 1:=by
 refine blen_le ?_
 have:=blen_lt v
 rw [Nat.pow_succ];omega
theorem pow256_two (q : Nat) : 256 ^ q = 2 ^ (8 * q):=by rw [show (256 : Nat) = 2 ^ 8 by rfl,<- Nat.pow_mul]
theorem byte_bit_at (v k : Nat) : v % 2 ^ (k + 1) / 256 ^ (k / 8) % 256 = v % 2 ^ k / 256 ^ (k / 8) % 256 + bd v k * 2 ^ (k % 8) /\ v % 2 ^ k / 256 ^ (k / 8) % 256 + bd v k * 2 ^ (k % 8) <= 255:=by
 have e : 2 ^ k = 256 ^ (k / 8) * 2 ^ (k % 8):=by rw [pow256_two,<- Nat.pow_add];congr 1;omega
 have hA:=Nat.mod_lt v (p2 k)
 have hb:=bd_le v k
 rw [bmod_succ]
 generalize v % 2 ^ k = A at *
 generalize bd v k = b at *
 have hr : 2 ^ (k % 8) <= 128:=Nat.pow_le_pow_right (i:=k % 8) (j:=7) (by decide) (by omega)
 have hp : 0 < 256 ^ (k / 8):=Nat.pow_pos (by decide)
 have hq : A / 256 ^ (k / 8) < 2 ^ (k % 8):=Nat.div_lt_of_lt_mul (by rw [<- e];exact hA)
 rw [e,Nat.mul_assoc,Nat.add_mul_div_left _ _ hp]
 generalize A / 256 ^ (k / 8) = x at *
 generalize 2 ^ (k % 8) = y at *
 have hyb : y * b = b * y:=Nat.mul_comm _ _
 have : b * y <= 1 * y:=Nat.mul_le_mul_right _ hb
 rw [hyb,Nat.mod_eq_of_lt (show x < 256 by omega),Nat.mod_eq_of_lt (show x + b * y < 256 by omega)]
 omega
theorem byte_bit_other (v k q : Nat) (hq : q ≠ k / 8) : v % 2 ^ (k + 1) / 256 ^ q % 256 = v % 2 ^ k / 256 ^ q % 256:=by
 rcases Nat.lt_or_ge q (k / 8) with h | h
 . rw [bmod_succ]
   have e : 2 ^ k = 256 ^ q * (256 * 2 ^ (k - 8 * (q + 1))):=by
    rw [show 256 ^ q * (256 * 2 ^ (k - 8 * (q + 1))) = 256 ^ (q + 1) * 2 ^ (k - 8 * (q + 1)) by rw [Nat.pow_succ,Nat.mul_assoc],pow256_two,<- Nat.pow_add];congr 1;omega
   have e2 : 2 ^ k * bd v k = 256 ^ q * (256 * (2 ^ (k - 8 * (q + 1)) * bd v k)):=by rw [e];simp only [Nat.mul_assoc]
   rw [e2,Nat.add_mul_div_left _ _ (Nat.pow_pos (by decide)),Nat.add_mul_mod_self_left]
 . have h1 : 2 ^ (k + 1) <= 256 ^ q:=by rw [pow256_two];exact Nat.pow_le_pow_right (by decide) (by omega)
   have h2 : 2 ^ k <= 2 ^ (k + 1):=Nat.pow_le_pow_right (by decide) (by omega)
   rw [Nat.div_eq_of_lt (Nat.lt_of_lt_of_le (Nat.mod_lt v (p2 (k + 1))) h1),Nat.div_eq_of_lt (Nat.lt_of_lt_of_le (Nat.mod_lt v (p2 k)) (Nat.le_trans h2 h1))]
theorem nv_byte (l : List UInt8) (j : Nat) (hj : j < l.length) : nv l / 256 ^ j % 256 = l[l.length - 1 - j].toNat:=by
 have e:=nv_append (l.take (l.length - j)) (l.drop (l.length - j))
 rw [List.take_append_drop,List.length_drop,show l.length - (l.length - j) = j by omega] at e
 have h1 : nv (l.drop (l.length - j)) < 256 ^ j:=by
  have:=nv_lt (l.drop (l.length - j))
  rwa [List.length_drop,show l.length - (l.length - j) = j by omega] at this
 have hp : 0 < 256 ^ j:=Nat.pow_pos (by decide)
 rw [e,Nat.add_comm,Nat.add_mul_div_right _ _ hp,Nat.div_eq_of_lt h1,Nat.zero_add]
 have e2 : l.take (l.length - j) = l.take (l.length - 1 - j) ++ [l[l.length - 1 - j]]:=by
  have:=List.take_succ_eq_append_getElem (i:=l.length - 1 - j) (l:=l) (by omega)
  rw [show l.length - j = l.length - 1 - j + 1 by omega];exact this
 rw [e2,nv_append]
 have e3 : nv [l[l.length - 1 - j]] = (l[l.length - 1 - j]).toNat:=by rw [nv_cons];simp [nv_nil]
 rw [e3]
 have:=(l[l.length - 1 - j]).toNat_lt
 simp only [List.length_singleton,Nat.pow_one]
 rw [Nat.mul_add_mod_of_lt]<;>omega
theorem nv_bit (l : List UInt8) (j k : Nat) (hj : j < l.length) (hk : k < 8) : l[l.length - 1 - j].toNat / 2 ^ k % 2 = bd (nv l) (8 * j + k):=by
 rw [<- nv_byte l j hj]
 unfold bd
 rw [Nat.pow_add,<- Nat.div_div_eq_div_mul,<- pow256_two]
 generalize nv l / 256 ^ j = x
 have e : 256 = 2 ^ k * 2 ^ (8 - k):=by rw [<- Nat.pow_add,show k + (8 - k) = 8 by omega]
 rw [e,Nat.mod_mul_right_div_self,Nat.mod_mod_of_dvd]
 exact ⟨2 ^ (7 - k),by rw [show 8 - k = 7 - k + 1 by omega,Nat.pow_succ,Nat.mul_comm]⟩
theorem nv_bits (l : List UInt8) : nv l < 2 ^ (8 * l.length):=by rw [<- pow256_two];exact nv_lt l
theorem long_step (v u i : Nat) (hu : 0 < u) : ∃ r c q,v / 2 ^ (i + 1) % u = r /\ bd v i = c /\ v / 2 ^ (i + 1) / u = q /\ v / 2 ^ i % u = (if u <= 2 * r + c then 2 * r + c - u else 2 * r + c) /\ v / 2 ^ i / u = 2 * q + (if u <= 2 * r + c then 1 else 0):=by
 refine ⟨_,_,_,rfl,rfl,rfl,?_⟩
 have e : v / 2 ^ i = 2 * (v / 2 ^ (i + 1)) + bd v i:=by
  unfold bd;rw [Nat.pow_succ,<- Nat.div_div_eq_div_mul];omega
 have hb:=bd_le v i
 rw [e]
 generalize v / 2 ^ (i + 1) = x
 generalize bd v i = c at *
 have h1:=Nat.mod_lt x hu
 have h2:=Nat.mod_add_div x u
 generalize hr : x % u = r at *
 generalize hq : x / u = q at *
 have e2 : 2 * x + c = 2 * r + c + u * (2 * q):=by
  rw [<- h2,show u * (2 * q) = 2 * (u * q) by rw [Nat.mul_left_comm]];omega
 rw [e2,Nat.add_mul_mod_self_left,Nat.add_mul_div_left _ _ hu]
 by_cases h : u <= 2 * r + c
 . rw [if_pos h,if_pos h]
   have e3 : 2 * r + c = (2 * r + c - u) + u * 1:=by omega
   rw [e3,Nat.add_mul_mod_self_left,Nat.add_mul_div_left _ _ hu,Nat.mod_eq_of_lt (by omega),Nat.div_eq_of_lt (by omega)]
   omega
 . rw [if_neg h,if_neg h,Nat.mod_eq_of_lt (by omega),Nat.div_eq_of_lt (by omega)]
   omega
theorem long_bit (v u i : Nat) : bd (v / u) i = v / 2 ^ i / u % 2:=by
 unfold bd
 rw [Nat.div_div_eq_div_mul,Nat.div_div_eq_div_mul,Nat.mul_comm]
end Go.Proofs.YtidjljldhdckiaaGreatDoor
namespace Go.Proofs.YtidjljldhdckiaaGreatDoor
open Go.RowKit
theorem div64_any (h lo y : Nat) (w : World) (hy1 : 9223372036854775808 <= y) (hy : y < WW) (hh : h < y) (hl : lo < WW) (h0 : 0 < h) :
 Calls Tryz.prog 148 #[.int .u64 (h : Int),.int .u64 (lo : Int),.int .u64 (y : Int)] w fun e w'=>∃ r,e = .returned (.tuple #[.int .u64 (((h * WW + lo) / y : Nat) : Int),.int .u64 r]) /\ Below w.heap.size w w':=by
 have hb : blen y = 64:=by
  have h1 : blen y <= 64:=blen_le (by rw [WW_two] at hy;exact hy)
  have h2 := blen_ge (v := y) (k := 63) (by have : (2 : Nat) ^ 63 = 9223372036854775808:=by rfl
                                            omega)
  omega
 have hlz : ∀ W,Calls Tryz.prog 131 #[.int .u64 (y : Int)] W fun e w'=>e = .returned (.int .i64 0) /\ W = w':=fun W=>by
  have:=lz64_any y W hy
  rw [hb] at this
  exact this
 rw [WW_def] at *
 obtain ⟨n1,hn1⟩ : ∃ n1,y / 4294967296 = n1:=⟨_,rfl⟩
 obtain ⟨n0,hn0⟩ : ∃ n0,y % 4294967296 = n0:=⟨_,rfl⟩
 obtain ⟨u1,hu1⟩ : ∃ u1,lo / 4294967296 = u1:=⟨_,rfl⟩
 obtain ⟨u0,hu0⟩ : ∃ u0,lo % 4294967296 = u0:=⟨_,rfl⟩
 have hlo : u1 * 4294967296 + u0 = lo:=by rw [<- hu1,<- hu0,Nat.mul_comm];exact Nat.div_add_mod _ _
 have hyn : n1 * 4294967296 + n0 = y:=by rw [<- hn1,<- hn0,Nat.mul_comm];exact Nat.div_add_mod _ _
 have e1 : (y : Int) / 4294967296 = (n1 : Int):=by omega
 have e3 : (lo : Int) / 4294967296 = (u1 : Int):=by omega
 have e5 : ((h : Int) == 0) = false:=by simp;omega
 have e6 : ((y : Int) == 0) = false:=by simp;omega
 have e7 : (lo : Int) / 18446744073709551616 = 0:=by omega
 have ea:=MulX.maskN y hy
 have eb:=MulX.maskN lo hl
 rw [hn0] at ea
 rw [hu0] at eb
 have ec : bits BinOp.or IntKind.u64 (h : Int) 0 = (h : Int):=by
  have:=bits_or_u64_nat h 0 (by omega) (by decide)
  simpa using this
 obtain ⟨s1,s2,s3,s4⟩:=dq_start h n1 n0 u1 (by omega) (by omega) (by omega) (by omega) (by omega)
 obtain ⟨q,hq⟩ : ∃ q,h / n1 = q:=⟨_,rfl⟩
 obtain ⟨r,hr⟩ : ∃ r,h % n1 = r:=⟨_,rfl⟩
 obtain ⟨P,hP⟩ : ∃ P,q * n1 = P:=⟨_,rfl⟩
 rw [hq,hr] at s3
 rw [hq] at s1 s2
 rw [hr] at s4
 have f1 : (h : Int).tdiv (n1 : Int) = (q : Int):=by rw [<- hq];rfl
 have f2 : IntKind.u64.wrap (q : Int) = (q : Int):=by rw [IntKind.wrap_u64];omega
 have f3 : IntKind.u64.wrap ((q : Int) * (n1 : Int)) = (P : Int):=by rw [<- Int.natCast_mul,hP,IntKind.wrap_u64];rw [hP] at s3;omega
 have f4 : IntKind.u64.wrap ((h : Int) - (P : Int)) = (r : Int):=by rw [IntKind.wrap_u64];rw [hP] at s3;omega
 have hn1p : (n1 : Int) ≠ 0:=by omega
 have hn1b : ((n1 : Int) == 0) = false:=by simp;omega
 rw [hyn] at s1
 obtain ⟨DD,hD⟩ : ∃ DD,(h * 4294967296 + u1) / y = DD:=⟨_,rfl⟩
 obtain ⟨v,hv⟩ : ∃ v,(h * 4294967296 + u1) % y = v:=⟨_,rfl⟩
 obtain ⟨E,hE⟩ : ∃ E,(v * 4294967296 + u0) / y = E:=⟨_,rfl⟩
 obtain ⟨H1,hH1⟩ : ∃ H1,h * 4294967296 % 18446744073709551616 = H1:=⟨_,rfl⟩
 obtain ⟨H2,hH2⟩ : ∃ H2,(h * 4294967296 + u1) % 18446744073709551616 = H2:=⟨_,rfl⟩
 obtain ⟨Z,hZ⟩ : ∃ Z,DD * y % 18446744073709551616 = Z:=⟨_,rfl⟩
 have hy0 : 0 < y:=by omega
 have hvy : v < y:=by rw [<- hv];exact Nat.mod_lt _ hy0
 have hdm:=Nat.div_add_mod (h * 4294967296 + u1) y
 rw [hD,hv,Nat.mul_comm] at hdm
 have hDT : DD < 4294967296:=by rw [<- hD];refine Nat.div_lt_of_lt_mul ?_;omega
 have hET : E < 4294967296:=by rw [<- hE];refine Nat.div_lt_of_lt_mul ?_;omega
 have m1 : IntKind.u64.wrap ((h : Int) * 4294967296) = (H1 : Int):=by rw [IntKind.wrap_u64];omega
 have m2 : IntKind.u64.wrap ((H1 : Int) + (u1 : Int)) = (H2 : Int):=by rw [IntKind.wrap_u64];omega
 have m3 : IntKind.u64.wrap ((DD : Int) * (y : Int)) = (Z : Int):=by rw [<- Int.natCast_mul,IntKind.wrap_u64];omega
 have m4 : IntKind.u64.wrap ((H2 : Int) - (Z : Int)) = (v : Int):=by
  rw [IntKind.wrap_u64]
  generalize DD * y = X at *
  omega
 have n1' : IntKind.u64.wrap ((DD : Int) * 4294967296) = (DD : Int) * 4294967296:=by rw [IntKind.wrap_u64];omega
 have n2' : IntKind.u64.wrap ((DD : Int) * 4294967296 + (E : Int)) = (DD : Int) * 4294967296 + (E : Int):=by rw [IntKind.wrap_u64];omega
 obtain ⟨t1,t2,t3,t4⟩:=dq_start v n1 n0 u0 (by omega) (by omega) (by omega) (by omega) (by omega)
 obtain ⟨q2,hq2⟩ : ∃ q2,v / n1 = q2:=⟨_,rfl⟩
 obtain ⟨r2,hr2⟩ : ∃ r2,v % n1 = r2:=⟨_,rfl⟩
 obtain ⟨P2,hP2⟩ : ∃ P2,q2 * n1 = P2:=⟨_,rfl⟩
 rw [hq2,hr2] at t3
 rw [hq2] at t1 t2
 rw [hr2] at t4
 have f1' : (v : Int).tdiv (n1 : Int) = (q2 : Int):=by rw [<- hq2];rfl
 have f2' : IntKind.u64.wrap (q2 : Int) = (q2 : Int):=by rw [IntKind.wrap_u64];omega
 have f3' : IntKind.u64.wrap ((q2 : Int) * (n1 : Int)) = (P2 : Int):=by rw [<- Int.natCast_mul,hP2,IntKind.wrap_u64];rw [hP2] at t3;omega
 have f4' : IntKind.u64.wrap ((v : Int) - (P2 : Int)) = (r2 : Int):=by rw [IntKind.wrap_u64];rw [hP2] at t3;omega
 rw [hyn] at t1
 have hfin:=div_two h u1 u0 y DD hy0 hD
 rw [hv,hE,hlo] at hfin
 have hfinI : ((h : Int) * 18446744073709551616 + (lo : Int)) / (y : Int) = (DD : Int) * 4294967296 + (E : Int):=by
  have : ((h : Int) * 18446744073709551616 + (lo : Int)) / (y : Int) = (((h * 18446744073709551616 + lo) / y : Nat) : Int):=by
   rw [Int.natCast_ediv,Int.natCast_add,Int.natCast_mul];rfl
  rw [this,hfin,Int.natCast_add,Int.natCast_mul];rfl
 have HfinI:=lid hfinI;clear hfinI
 obtain ⟨H3,x3⟩ : ∃ H3,IntKind.u64.wrap ((v : Int) * 4294967296) = H3:=⟨_,rfl⟩
 obtain ⟨H4,x4⟩ : ∃ H4,IntKind.u64.wrap (H3 + (u0 : Int)) = H4:=⟨_,rfl⟩
 obtain ⟨H5,x5⟩ : ∃ H5,IntKind.u64.wrap ((E : Int) * (y : Int)) = H5:=⟨_,rfl⟩
 obtain ⟨X,x6⟩ : ∃ X,IntKind.u64.wrap (H4 - H5) = X:=⟨_,rfl⟩
 have X3:=lid x3;have X4:=lid x4;have X5:=lid x5;have X6:=lid x6
 clear x3 x4 x5 x6
 have T1:=lid t1;have T2:=lid t2;have T3:=lid t3;have T4:=lid t4
 have M1:=lid m1;have M2:=lid m2;have M3:=lid m3;have M4:=lid m4;have N1:=lid n1';have N2:=lid n2'
 have F1:=lid f1';have F2:=lid f2';have F3:=lid f3';have F4:=lid f4'
 have Hfin:=lid hfin;have HD:=lid hD;have HE:=lid hE;have Hvy:=lid hvy;have Hhh:=lid hh;have HDT:=lid hDT;have HET:=lid hET
 have Hlz:=lid hlz;have S1:=lid s1;have S2:=lid s2;have S3:=lid s3;have S4:=lid s4
 have HN1:=lid hn1;have HN0:=lid hn0;have HU1:=lid hu1;have HU0:=lid hu0;have Hy:=lid hy;have Hyn:=lid hyn
 have hb1 : n1 < 4294967296:=by omega
 have hb2 : n0 < 4294967296:=by omega
 have hb3 : u1 < 4294967296:=by omega
 have hb4 : u0 < 4294967296:=by omega
 have hb5 : 0 < n1:=by omega
 have B1:=lid hb1;have B2:=lid hb2;have B3:=lid hb3;have B4:=lid hb4;have B5:=lid hb5
 clear hlz s1 s2 s3 s4 hn1 hn0 hu1 hu0 hyn hq hr hP t1 t2 t3 t4 m1 m2 m3 m4 n1' n2' f1' f2' f3' f4' hfin hD hE hvy hDT hET hdm hy0 hv hH1 hH2 hZ hq2 hr2 hP2 hb1 hb2 hb3 hb4 hb5
 go_enter Tryz.func148,Tryz.ntmps148
 go_wp2_with (go_at_call 131;refine (Hlz.out _).mono ?_;rintro e w' ⟨rfl,rfl⟩)
 clear f1 f2 f3 f4 e5 e6 e7 ea eb ec e1 e3
 go_loop [15,16] (fun qv rv=>∃ q r : Nat,qv = .int .u64 (q : Int) /\ rv = .int .u64 (r : Int) /\ q * n1 + r = h /\ r < 4294967296 /\ (h * 4294967296 + u1) / y <= q /\ q <= 4294967297) (fun qv _=>(intOf qv).toNat)
 case atStart=>exact ⟨q,r,rfl,rfl,S3.out,S4.out,S1.out,S2.out⟩
 case round=>
  clear S1 S2 S3 S4
  obtain ⟨q,r,rfl,rfl,j1,j2,j3,j4⟩:=hrel
  obtain ⟨Q,hQ⟩ : ∃ Q,q * n0 = Q:=⟨_,rfl⟩
  have g1 : IntKind.u64.wrap (4294967296 * (r : Int)) = 4294967296 * (r : Int):=by rw [IntKind.wrap_u64];omega
  have g2 : IntKind.u64.wrap (4294967296 * (r : Int) + (u1 : Int)) = 4294967296 * (r : Int) + (u1 : Int):=by rw [IntKind.wrap_u64];have:=B3.out;omega
  have hQb : q < 4294967296 -> Q < 18446744073709551616:=fun h=>by
   rw [<- hQ]
   have h1 : q * n0 <= 4294967295 * 4294967295:=Nat.mul_le_mul (by omega) (by have:=B2.out;omega)
   omega
  by_cases hc : 4294967296 <= q \/ 4294967296 * r + u1 < Q
  . obtain ⟨k1,k2,k3⟩:=dq_step q r h n1 n0 u1 (by rw [Hyn.out];exact Hhh.out) B3.out j1 (by rw [Hyn.out];exact j3) (by rw [hQ];exact hc)
    rw [Hyn.out] at k3
    obtain ⟨k,hk⟩ : ∃ k,q - 1 = k:=⟨_,rfl⟩
    rw [hk] at k2 k3
    have g3 : IntKind.u64.wrap ((q : Int) - 1) = (k : Int):=by rw [IntKind.wrap_u64];omega
    have g4 : IntKind.u64.wrap ((r : Int) + (n1 : Int)) = ((r + n1 : Nat) : Int):=by rw [IntKind.wrap_u64];have:=B1.out;omega
    obtain ⟨r',hr'⟩ : ∃ r',r + n1 = r':=⟨_,rfl⟩
    rw [hr'] at k2 g4
    by_cases hbr : 4294967296 <= r'
    . have hkD : DD = k:=by
       rw [<- HD.out,<- Hyn.out]
       exact dq_break k r' h n1 n0 u1 B5.out B2.out k2 (by rw [Hyn.out];exact k3) (by omega) hbr
      subst hkD
      have hbr2 : (4294967296 : Int) <= (r' : Int):=by omega
      have m1:=M1.out;have m2:=M2.out;have m3:=M3.out;have m4:=M4.out;have f1:=F1.out;have f2:=F2.out;have f3:=F3.out;have f4:=F4.out
      have hn1b : ((n1 : Int) == 0) = false:=by have:=B5.out;simp;omega
      have J:=lid (And.intro j1 (And.intro j2 (And.intro j3 j4)));have K:=lid (And.intro k1 (And.intro k2 k3));have HQ:=lid hQ;have HQb:=lid hQb;have Hk:=lid hk;have Hr':=lid hr'
      clear j1 j2 j3 j4 k1 k2 k3 hQ hQb hk hr'
      by_cases hT : 4294967296 <= q
      . have hT2 : (4294967296 : Int) <= (q : Int):=by omega
        go_wp2
        clear m1 m2 m3 m4 f1 f2 f3 f4 g1 g2 g3 g4
        go_loop [18,16] (fun qv rv=>∃ q r : Nat,qv = .int .u64 (q : Int) /\ rv = .int .u64 (r : Int) /\ q * n1 + r = v /\ r < 4294967296 /\ (v * 4294967296 + u0) / y <= q /\ q <= 4294967297) (fun qv _=>(intOf qv).toNat)
        case atStart=>exact ⟨q2,r2,rfl,rfl,T3.out,T4.out,T1.out,T2.out⟩
        case round=>
         clear T1 T2 T3 T4
         obtain ⟨q,r,rfl,rfl,j1,j2,j3,j4⟩:=hrel
         obtain ⟨Q,hQ⟩ : ∃ Q,q * n0 = Q:=⟨_,rfl⟩
         have g1 : IntKind.u64.wrap (4294967296 * (r : Int)) = 4294967296 * (r : Int):=by rw [IntKind.wrap_u64];omega
         have g2 : IntKind.u64.wrap (4294967296 * (r : Int) + (u0 : Int)) = 4294967296 * (r : Int) + (u0 : Int):=by rw [IntKind.wrap_u64];have:=B4.out;omega
         have hQb : q < 4294967296 -> Q < 18446744073709551616:=fun h=>by
          rw [<- hQ]
          have h1 : q * n0 <= 4294967295 * 4294967295:=Nat.mul_le_mul (by omega) (by have:=B2.out;omega)
          omega
         have n1':=N1.out;have n2':=N2.out;have x3:=X3.out;have x4:=X4.out;have x5:=X5.out;have x6:=X6.out
         by_cases hc : 4294967296 <= q \/ 4294967296 * r + u0 < Q
         . obtain ⟨k1,k2,k3⟩:=dq_step q r v n1 n0 u0 (by rw [Hyn.out];exact Hvy.out) B4.out j1 (by rw [Hyn.out];exact j3) (by rw [hQ];exact hc)
           rw [Hyn.out] at k3
           obtain ⟨m,hm⟩ : ∃ m,q - 1 = m:=⟨_,rfl⟩
           rw [hm] at k2 k3
           have g3 : IntKind.u64.wrap ((q : Int) - 1) = (m : Int):=by rw [IntKind.wrap_u64];omega
           have g4 : IntKind.u64.wrap ((r : Int) + (n1 : Int)) = ((r + n1 : Nat) : Int):=by rw [IntKind.wrap_u64];have:=B1.out;omega
           obtain ⟨r',hr'⟩ : ∃ r',r + n1 = r':=⟨_,rfl⟩
           rw [hr'] at k2 g4
           have hT0 : q < 4294967296 -> IntKind.u64.wrap ((q : Int) * (n0 : Int)) = (Q : Int):=fun h=>by rw [<- Int.natCast_mul,hQ,IntKind.wrap_u64];have:=hQb h;omega
           by_cases hbr : 4294967296 <= r'
           . have hkE : E = m:=by
              rw [<- HE.out,<- Hyn.out]
              exact dq_break m r' v n1 n0 u0 B5.out B2.out k2 (by rw [Hyn.out];exact k3) (by omega) hbr
             subst hkE
             have hbr2 : (4294967296 : Int) <= (r' : Int):=by omega
             clear j1 j3 k2 k3 hQ hQb hm hr'
             by_cases hT : 4294967296 <= q
             . have hT2 : (4294967296 : Int) <= (q : Int):=by omega
               go_wp2
               refine bodyPost_ret (v:=.tuple #[.int .u64 ((DD : Int) * 4294967296 + (E : Int)),.int .u64 X]) (by simp [results,Tryz.results148,go_sem]) rfl ⟨⟨_,by rw [HfinI.out]⟩,Below.refl _ _⟩
             . have hc2 : 4294967296 * (r : Int) + (u0 : Int) < (Q : Int):=by omega
               have hT2 : ¬ (4294967296 : Int) <= (q : Int):=by omega
               have g0:=hT0 (by omega)
               go_wp2
               refine bodyPost_ret (v:=.tuple #[.int .u64 ((DD : Int) * 4294967296 + (E : Int)),.int .u64 X]) (by simp [results,Tryz.results148,go_sem]) rfl ⟨⟨_,by rw [HfinI.out]⟩,Below.refl _ _⟩
           . have hbr2 : ¬ (4294967296 : Int) <= (r' : Int):=by omega
             have K:=lid (And.intro k2 k3)
             clear j1 j3 k2 k3 hQ hQb hr'
             by_cases hT : 4294967296 <= q
             . have hT2 : (4294967296 : Int) <= (q : Int):=by omega
               go_wp2
               exact ⟨⟨m,r',rfl,rfl,K.out.1,by omega,K.out.2,by omega⟩,by simp [intOf];omega⟩
             . have hc2 : 4294967296 * (r : Int) + (u0 : Int) < (Q : Int):=by omega
               have hT2 : ¬ (4294967296 : Int) <= (q : Int):=by omega
               have g0:=hT0 (by omega)
               go_wp2
               exact ⟨⟨m,r',rfl,rfl,K.out.1,by omega,K.out.2,by omega⟩,by simp [intOf];omega⟩
         . have hqE : E = q:=by
            rw [<- HE.out,<- Hyn.out]
            exact dq_out q r v n1 n0 u0 B5.out j1 (by rw [Hyn.out];exact j3) (by rw [hQ];omega)
           subst hqE
           have hT2 : ¬ (4294967296 : Int) <= (E : Int):=by omega
           have hc2 : ¬ 4294967296 * (r : Int) + (u0 : Int) < (Q : Int):=by omega
           have g0 : IntKind.u64.wrap ((E : Int) * (n0 : Int)) = (Q : Int):=by rw [<- Int.natCast_mul,hQ,IntKind.wrap_u64];have:=hQb (by omega);omega
           clear j1 j3 hQ hQb
           go_wp2
           refine bodyPost_ret (v:=.tuple #[.int .u64 ((DD : Int) * 4294967296 + (E : Int)),.int .u64 X]) (by simp [results,Tryz.results148,go_sem]) rfl ⟨⟨_,by rw [HfinI.out]⟩,Below.refl _ _⟩
      . have hc2 : 4294967296 * (r : Int) + (u1 : Int) < (Q : Int):=by omega
        have hT2 : ¬ (4294967296 : Int) <= (q : Int):=by omega
        have g0 : IntKind.u64.wrap ((q : Int) * (n0 : Int)) = (Q : Int):=by rw [<- Int.natCast_mul,HQ.out,IntKind.wrap_u64];have:=HQb.out (by omega);omega
        go_wp2
        clear m1 m2 m3 m4 f1 f2 f3 f4 g0 g1 g2 g3 g4
        go_loop [18,16] (fun qv rv=>∃ q r : Nat,qv = .int .u64 (q : Int) /\ rv = .int .u64 (r : Int) /\ q * n1 + r = v /\ r < 4294967296 /\ (v * 4294967296 + u0) / y <= q /\ q <= 4294967297) (fun qv _=>(intOf qv).toNat)
        case atStart=>exact ⟨q2,r2,rfl,rfl,T3.out,T4.out,T1.out,T2.out⟩
        case round=>
         clear T1 T2 T3 T4
         obtain ⟨q,r,rfl,rfl,j1,j2,j3,j4⟩:=hrel
         obtain ⟨Q,hQ⟩ : ∃ Q,q * n0 = Q:=⟨_,rfl⟩
         have g1 : IntKind.u64.wrap (4294967296 * (r : Int)) = 4294967296 * (r : Int):=by rw [IntKind.wrap_u64];omega
         have g2 : IntKind.u64.wrap (4294967296 * (r : Int) + (u0 : Int)) = 4294967296 * (r : Int) + (u0 : Int):=by rw [IntKind.wrap_u64];have:=B4.out;omega
         have hQb : q < 4294967296 -> Q < 18446744073709551616:=fun h=>by
          rw [<- hQ]
          have h1 : q * n0 <= 4294967295 * 4294967295:=Nat.mul_le_mul (by omega) (by have:=B2.out;omega)
          omega
         have n1':=N1.out;have n2':=N2.out;have x3:=X3.out;have x4:=X4.out;have x5:=X5.out;have x6:=X6.out
         by_cases hc : 4294967296 <= q \/ 4294967296 * r + u0 < Q
         . obtain ⟨k1,k2,k3⟩:=dq_step q r v n1 n0 u0 (by rw [Hyn.out];exact Hvy.out) B4.out j1 (by rw [Hyn.out];exact j3) (by rw [hQ];exact hc)
           rw [Hyn.out] at k3
           obtain ⟨m,hm⟩ : ∃ m,q - 1 = m:=⟨_,rfl⟩
           rw [hm] at k2 k3
           have g3 : IntKind.u64.wrap ((q : Int) - 1) = (m : Int):=by rw [IntKind.wrap_u64];omega
           have g4 : IntKind.u64.wrap ((r : Int) + (n1 : Int)) = ((r + n1 : Nat) : Int):=by rw [IntKind.wrap_u64];have:=B1.out;omega
           obtain ⟨r',hr'⟩ : ∃ r',r + n1 = r':=⟨_,rfl⟩
           rw [hr'] at k2 g4
           have hT0 : q < 4294967296 -> IntKind.u64.wrap ((q : Int) * (n0 : Int)) = (Q : Int):=fun h=>by rw [<- Int.natCast_mul,hQ,IntKind.wrap_u64];have:=hQb h;omega
           by_cases hbr : 4294967296 <= r'
           . have hkE : E = m:=by
              rw [<- HE.out,<- Hyn.out]
              exact dq_break m r' v n1 n0 u0 B5.out B2.out k2 (by rw [Hyn.out];exact k3) (by omega) hbr
             subst hkE
             have hbr2 : (4294967296 : Int) <= (r' : Int):=by omega
             clear j1 j3 k2 k3 hQ hQb hm hr'
             by_cases hT : 4294967296 <= q
             . have hT2 : (4294967296 : Int) <= (q : Int):=by omega
               go_wp2
               refine bodyPost_ret (v:=.tuple #[.int .u64 ((DD : Int) * 4294967296 + (E : Int)),.int .u64 X]) (by simp [results,Tryz.results148,go_sem]) rfl ⟨⟨_,by rw [HfinI.out]⟩,Below.refl _ _⟩
             . have hc2 : 4294967296 * (r : Int) + (u0 : Int) < (Q : Int):=by omega
               have hT2 : ¬ (4294967296 : Int) <= (q : Int):=by omega
               have g0:=hT0 (by omega)
               go_wp2
               refine bodyPost_ret (v:=.tuple #[.int .u64 ((DD : Int) * 4294967296 + (E : Int)),.int .u64 X]) (by simp [results,Tryz.results148,go_sem]) rfl ⟨⟨_,by rw [HfinI.out]⟩,Below.refl _ _⟩
           . have hbr2 : ¬ (4294967296 : Int) <= (r' : Int):=by omega
             have K:=lid (And.intro k2 k3)
             clear j1 j3 k2 k3 hQ hQb hr'
             by_cases hT : 4294967296 <= q
             . have hT2 : (4294967296 : Int) <= (q : Int):=by omega
               go_wp2
               exact ⟨⟨m,r',rfl,rfl,K.out.1,by omega,K.out.2,by omega⟩,by simp [intOf];omega⟩
             . have hc2 : 4294967296 * (r : Int) + (u0 : Int) < (Q : Int):=by omega
               have hT2 : ¬ (4294967296 : Int) <= (q : Int):=by omega
               have g0:=hT0 (by omega)
               go_wp2
               exact ⟨⟨m,r',rfl,rfl,K.out.1,by omega,K.out.2,by omega⟩,by simp [intOf];omega⟩
         . have hqE : E = q:=by
            rw [<- HE.out,<- Hyn.out]
            exact dq_out q r v n1 n0 u0 B5.out j1 (by rw [Hyn.out];exact j3) (by rw [hQ];omega)
           subst hqE
           have hT2 : ¬ (4294967296 : Int) <= (E : Int):=by omega
           have hc2 : ¬ 4294967296 * (r : Int) + (u0 : Int) < (Q : Int):=by omega
           have g0 : IntKind.u64.wrap ((E : Int) * (n0 : Int)) = (Q : Int):=by rw [<- Int.natCast_mul,hQ,IntKind.wrap_u64];have:=hQb (by omega);omega
           clear j1 j3 hQ hQb
           go_wp2
           refine bodyPost_ret (v:=.tuple #[.int .u64 ((DD : Int) * 4294967296 + (E : Int)),.int .u64 X]) (by simp [results,Tryz.results148,go_sem]) rfl ⟨⟨_,by rw [HfinI.out]⟩,Below.refl _ _⟩
    . have hbr2 : ¬ (4294967296 : Int) <= (r' : Int):=by omega
      have K:=lid (And.intro k2 k3);have HQ:=lid hQ;have HQb:=lid hQb
      clear j1 j3 k2 k3 hQ hQb hr'
      by_cases hT : 4294967296 <= q
      . have hT2 : (4294967296 : Int) <= (q : Int):=by omega
        go_wp2
        exact ⟨⟨k,r',rfl,rfl,K.out.1,by omega,K.out.2,by omega⟩,by simp [intOf];omega⟩
      . have hc2 : 4294967296 * (r : Int) + (u1 : Int) < (Q : Int):=by omega
        have hT2 : ¬ (4294967296 : Int) <= (q : Int):=by omega
        have g0 : IntKind.u64.wrap ((q : Int) * (n0 : Int)) = (Q : Int):=by rw [<- Int.natCast_mul,HQ.out,IntKind.wrap_u64];have:=HQb.out (by omega);omega
        go_wp2
        exact ⟨⟨k,r',rfl,rfl,K.out.1,by omega,K.out.2,by omega⟩,by simp [intOf];omega⟩
  . have hqD : DD = q:=by
     rw [<- HD.out,<- Hyn.out]
     exact dq_out q r h n1 n0 u1 B5.out j1 (by rw [Hyn.out];exact j3) (by rw [hQ];omega)
    subst hqD
    have hT2 : ¬ (4294967296 : Int) <= (DD : Int):=by omega
    have hc2 : ¬ 4294967296 * (r : Int) + (u1 : Int) < (Q : Int):=by omega
    have g0 : IntKind.u64.wrap ((DD : Int) * (n0 : Int)) = (Q : Int):=by rw [<- Int.natCast_mul,hQ,IntKind.wrap_u64];have:=hQb (by omega);omega
    have m1:=M1.out;have m2:=M2.out;have m3:=M3.out;have m4:=M4.out;have f1:=F1.out;have f2:=F2.out;have f3:=F3.out;have f4:=F4.out
    have hn1b : ((n1 : Int) == 0) = false:=by have:=B5.out;simp;omega
    have J:=lid (And.intro j1 (And.intro j2 (And.intro j3 j4)));have HQ:=lid hQ;have HQb:=lid hQb
    clear j1 j2 j3 j4 hQ hQb
    go_wp2
    clear m1 m2 m3 m4 f1 f2 f3 f4 g0 g1 g2
    go_loop [18,16] (fun qv rv=>∃ q r : Nat,qv = .int .u64 (q : Int) /\ rv = .int .u64 (r : Int) /\ q * n1 + r = v /\ r < 4294967296 /\ (v * 4294967296 + u0) / y <= q /\ q <= 4294967297) (fun qv _=>(intOf qv).toNat)
    case atStart=>exact ⟨q2,r2,rfl,rfl,T3.out,T4.out,T1.out,T2.out⟩
    case round=>
     clear T1 T2 T3 T4
     obtain ⟨q,r,rfl,rfl,j1,j2,j3,j4⟩:=hrel
     obtain ⟨Q,hQ⟩ : ∃ Q,q * n0 = Q:=⟨_,rfl⟩
     have g1 : IntKind.u64.wrap (4294967296 * (r : Int)) = 4294967296 * (r : Int):=by rw [IntKind.wrap_u64];omega
     have g2 : IntKind.u64.wrap (4294967296 * (r : Int) + (u0 : Int)) = 4294967296 * (r : Int) + (u0 : Int):=by rw [IntKind.wrap_u64];have:=B4.out;omega
     have hQb : q < 4294967296 -> Q < 18446744073709551616:=fun h=>by
      rw [<- hQ]
      have h1 : q * n0 <= 4294967295 * 4294967295:=Nat.mul_le_mul (by omega) (by have:=B2.out;omega)
      omega
     have n1':=N1.out;have n2':=N2.out;have x3:=X3.out;have x4:=X4.out;have x5:=X5.out;have x6:=X6.out
     by_cases hc : 4294967296 <= q \/ 4294967296 * r + u0 < Q
     . obtain ⟨k1,k2,k3⟩:=dq_step q r v n1 n0 u0 (by rw [Hyn.out];exact Hvy.out) B4.out j1 (by rw [Hyn.out];exact j3) (by rw [hQ];exact hc)
       rw [Hyn.out] at k3
       obtain ⟨m,hm⟩ : ∃ m,q - 1 = m:=⟨_,rfl⟩
       rw [hm] at k2 k3
       have g3 : IntKind.u64.wrap ((q : Int) - 1) = (m : Int):=by rw [IntKind.wrap_u64];omega
       have g4 : IntKind.u64.wrap ((r : Int) + (n1 : Int)) = ((r + n1 : Nat) : Int):=by rw [IntKind.wrap_u64];have:=B1.out;omega
       obtain ⟨r',hr'⟩ : ∃ r',r + n1 = r':=⟨_,rfl⟩
       rw [hr'] at k2 g4
       have hT0 : q < 4294967296 -> IntKind.u64.wrap ((q : Int) * (n0 : Int)) = (Q : Int):=fun h=>by rw [<- Int.natCast_mul,hQ,IntKind.wrap_u64];have:=hQb h;omega
       by_cases hbr : 4294967296 <= r'
       . have hkE : E = m:=by
          rw [<- HE.out,<- Hyn.out]
          exact dq_break m r' v n1 n0 u0 B5.out B2.out k2 (by rw [Hyn.out];exact k3) (by omega) hbr
         subst hkE
         have hbr2 : (4294967296 : Int) <= (r' : Int):=by omega
         clear j1 j3 k2 k3 hQ hQb hm hr'
         by_cases hT : 4294967296 <= q
         . have hT2 : (4294967296 : Int) <= (q : Int):=by omega
           go_wp2
           refine bodyPost_ret (v:=.tuple #[.int .u64 ((DD : Int) * 4294967296 + (E : Int)),.int .u64 X]) (by simp [results,Tryz.results148,go_sem]) rfl ⟨⟨_,by rw [HfinI.out]⟩,Below.refl _ _⟩
         . have hc2 : 4294967296 * (r : Int) + (u0 : Int) < (Q : Int):=by omega
           have hT2 : ¬ (4294967296 : Int) <= (q : Int):=by omega
           have g0:=hT0 (by omega)
           go_wp2
           refine bodyPost_ret (v:=.tuple #[.int .u64 ((DD : Int) * 4294967296 + (E : Int)),.int .u64 X]) (by simp [results,Tryz.results148,go_sem]) rfl ⟨⟨_,by rw [HfinI.out]⟩,Below.refl _ _⟩
       . have hbr2 : ¬ (4294967296 : Int) <= (r' : Int):=by omega
         have K:=lid (And.intro k2 k3)
         clear j1 j3 k2 k3 hQ hQb hr'
         by_cases hT : 4294967296 <= q
         . have hT2 : (4294967296 : Int) <= (q : Int):=by omega
           go_wp2
           exact ⟨⟨m,r',rfl,rfl,K.out.1,by omega,K.out.2,by omega⟩,by simp [intOf];omega⟩
         . have hc2 : 4294967296 * (r : Int) + (u0 : Int) < (Q : Int):=by omega
           have hT2 : ¬ (4294967296 : Int) <= (q : Int):=by omega
           have g0:=hT0 (by omega)
           go_wp2
           exact ⟨⟨m,r',rfl,rfl,K.out.1,by omega,K.out.2,by omega⟩,by simp [intOf];omega⟩
     . have hqE : E = q:=by
        rw [<- HE.out,<- Hyn.out]
        exact dq_out q r v n1 n0 u0 B5.out j1 (by rw [Hyn.out];exact j3) (by rw [hQ];omega)
       subst hqE
       have hT2 : ¬ (4294967296 : Int) <= (E : Int):=by omega
       have hc2 : ¬ 4294967296 * (r : Int) + (u0 : Int) < (Q : Int):=by omega
       have g0 : IntKind.u64.wrap ((E : Int) * (n0 : Int)) = (Q : Int):=by rw [<- Int.natCast_mul,hQ,IntKind.wrap_u64];have:=hQb (by omega);omega
       clear j1 j3 hQ hQb
       go_wp2
       refine bodyPost_ret (v:=.tuple #[.int .u64 ((DD : Int) * 4294967296 + (E : Int)),.int .u64 X]) (by simp [results,Tryz.results148,go_sem]) rfl ⟨⟨_,by rw [HfinI.out]⟩,Below.refl _ _⟩
theorem div64_low (lo y : Nat) (w : World) (hy : 0 < y) (hy2 : y < WW) (hl : lo < WW) :
 Calls Tryz.prog 148 #[.int .u64 0,.int .u64 (lo : Int),.int .u64 (y : Int)] w fun e w'=>∃ r,e = .returned (.tuple #[.int .u64 ((lo / y : Nat) : Int),.int .u64 r]) /\ Below w.heap.size w w':=by
 rw [WW_def] at *
 have e6 : ((y : Int) == 0) = false:=by simp;omega
 have e7 : ¬ (y : Int) <= 0:=by omega
 have f1 : (lo : Int).tdiv (y : Int) = ((lo / y : Nat) : Int):=rfl
 obtain ⟨q,hq⟩ : ∃ q,lo / y = q:=⟨_,rfl⟩
 have hqb : q <= lo:=by rw [<- hq];exact Nat.div_le_self _ _
 rw [hq] at f1 ⊢
 have f2 : IntKind.u64.wrap (q : Int) = (q : Int):=by rw [IntKind.wrap_u64];omega
 clear hq
 go_enter Tryz.func148,Tryz.ntmps148
 go_wp2
 go_region
 go_wp2
 refine bodyPost_ret (v:=.tuple #[.int .u64 (q : Int),.int .u64 ((lo : Int) % (y : Int))]) (by simp [results,Tryz.results148,go_sem]) rfl ⟨_,rfl,(Below.refl _ _).drew⟩
end Go.Proofs.YtidjljldhdckiaaGreatDoor
