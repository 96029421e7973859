/- Package ogeeref04: Make. -/
import Derived.Test.YtidjljldhdckiaaGreatDoorZ17
import Derived.Deep.RegionWith
import Derived.Test.YtidjljldhdckiaaGreatDoorZ15
import Derived.Test.YtidjljldhdckiaaGreatDoorZ11
set_option maxRecDepth 100000
set_option maxHeartbeats 16000000
namespace Go.Proofs.YtidjljldhdckiaaGreatDoor
open Go.RowKit
attribute [local go_sem ↓] Go.wp_at_zero Go.wp_at_succ
theorem bs_take (M : List UInt8) (c : UInt8) : (bs (M ++ [c])).extract 0 M.length = bs M:=by
 apply ByteArray.ext
 unfold bs
 rw [ByteArray.data_extract]
 simp
theorem slice_bs_to (M : List UInt8) (c : UInt8) (i : Int) (hi : i = M.length) (W : World) :
 (Instr.sliceAt 9 (.string (bs (M ++ [c]))) none (some (.int .i64 i)) none).run Tryz.prog W = .ok (.string (bs M)) W:=by
 subst hi
 have h:=run_slice_string_h (P:=Tryz.prog) W 9 (bs (M ++ [c])) Tryz.underlying9 .i64 M.length (by omega) (by rw [bs_size];simp<;>omega)
 simp only [Int.toNat_natCast,bs_take M c] at h
 simpa [Instr.sliceAt,run_underlying Tryz.underlying9] using h
theorem canon_odd (s : Bool) (n : Nat) (e : Int) (h : n % 2 = 1) : canon (dval (s,nt n,e)) = (s,nt n,e):=by
 have h0 : iv s (nt n) ≠ 0:=by rw [iv_num];split<;>omega
 obtain ⟨h1,h2⟩:=dval_parts s (nt n) e h0
 have ht : tz n = 0:=by
  have:=tz_odd 0 (n / 2)
  rw [show 2 ^ 0 * (2 * (n / 2) + 1) = n by omega] at this
  exact this
 rw [nv_nt,ht] at h1 h2
 unfold canon
 rw [h1,h2]
 have e1 : iv s (nt n) / 2 ^ 0 = iv s (nt n):=by simp
 rw [e1,iv_neg,iv_abs,nv_nt]
 have e3 : (nt n).isEmpty = false:=by
  have:=nt_ne_nil (n:=n) (by omega)
  cases h : nt n with
  | nil=>exact absurd h this
  | cons a b=>rfl
 rw [e3]
 simp
theorem dval_up (s : Bool) (l : List UInt8) (n k : Nat) (e : Int) (h : n * 2 ^ k = nv l) : dval (s,nt n,e + k) = dval (s,l,e):=by
 unfold dval
 have e1 : iv s l = iv s (nt n) * 2 ^ k:=by
  rw [iv_num]
  unfold iv
  rw [<- h]
  split
  . rw [Int.neg_mul];simp
  . simp
 simp only [e1]
 rw [<- owp_shift (iv s (nt n)) k (-(e + k))]
 congr 1;omega
theorem pow_bound {n k v b : Nat} (h : n * 2 ^ k = v) (h0 : 0 < v) (hv : v < 2 ^ b) : k < b /\ 0 < n:=by
 have hn : 0 < n:=by
  rcases Nat.eq_zero_or_pos n with h1 | h1
  . subst h1;simp at h;omega
  . exact h1
 refine ⟨?_,hn⟩
 rcases Nat.lt_or_ge k b with h1 | h1
 . exact h1
 . have h2:=Nat.pow_le_pow_right (show 0 < 2 by decide) h1
   have h3 : 2 ^ k <= n * 2 ^ k:=Nat.le_mul_of_pos_left _ hn
   omega
theorem rof2_two (w : World) : Calls Tryz.prog 41 #[.int .i64 2] w fun e w'=>e = .returned (.agg #[.bool false,.string (bs (nt 2))]) /\ Below w.heap.size w w':=rof2_nat 2 w (by decide)
theorem nt_last {n : Nat} (h : 0 < n) : ∃ M c,nt n = M ++ [c] /\ M = nt (n / 256) /\ c.toNat = n % 256:=⟨_,_,nt_pos h,rfl,byte_mod n⟩
theorem rmake_zero (s : Bool) (l : List UInt8) (e : Int) (w : World) (hl : l.length <= 1048576) (h0 : nv l = 0) :
 Calls Tryz.prog 40 #[.agg #[.bool s,.string (bs l)],.int .i64 e] w fun r w'=>r = .returned (numV 0) /\ Below w.heap.size w w':=by
 have hf:=fun W=>rform_any s l W (by omega)
 simp only [h0,nt_zero,List.isEmpty_nil,Bool.not_true,Bool.and_false] at hf
 have Hf:=lid hf
 have hem : (bs []).toList.isEmpty = true:=by rw [bs_empty];rfl
 clear hf h0
 obtain ⟨W,hW_W⟩ : ∃ W,((w.alloc (.cells #[.bool s,.string (bs l)] 34)).alloc (.cells #[.bool false,.string ⟨#[]⟩,.int .i64 0] 36)) = W:=⟨_,rfl⟩
 have Hb : Hid (Below w.heap.size w W):=by rw [<- hW_W];exact (((Below.refl _ _).alloc (Nat.le_refl _) _).alloc (by simp<;>omega) _)
 have Hm : Hid (Blk W (w.heap.size) 34 [.bool s,.string (bs l)]):=by rw [<- hW_W];exact (Blk.newAt _ _ _ (by simp)).alloc _
 have Hr : Hid (Blk W (w.heap.size + 1) 36 [.bool false,.string ⟨#[]⟩,.int .i64 0]):=by rw [<- hW_W];exact Blk.newAt _ _ _ (by simp)
 obtain ⟨m0,fm0,m1,fm1⟩:=Hm.out.g2
 obtain ⟨r0,fr0,r1,fr1,r2,fr2⟩:=Hr.out.g3
 go_enter Tryz.func40,Tryz.ntmps40
 go_wp2_with fail
 refine (Hf.out _).mono ?_
 rintro e w1 ⟨rfl,hbn⟩
 clear m0 fm0 m1 fm1
 clear r0 fr0 r1 fr1 r2 fr2
 replace Hm:=kB Hm hbn
 replace Hr:=kB Hr hbn
 obtain ⟨m0,fm0,m1,fm1⟩:=Hm.out.g2
 obtain ⟨r0,fr0,r1,fr1,r2,fr2⟩:=Hr.out.g3
 replace Hb:=bnx Hb hbn;clear hbn
 go_wp2
 refine bodyPost_ret (v:=.agg #[.bool false,.string ⟨#[]⟩,.int .i64 0]) (by simp [results,Tryz.results40,go_sem,r0,r1,r2]) rfl ⟨rfl,?_⟩
 (repeat first | exact Hb.out | (refine Below.setCell ?_ (by have:=Hb.out.size;first | (dsimp only;omega) | (show _ <= _;omega) | (simp<;>omega)) _) | refine Below.drew ?_)
theorem rmake_pos (s : Bool) (l : List UInt8) (e : Int) (D : Dyadic) (hD : dval (s,l,e) = D) (w : World) (hl : l.length <= 1048576) (he : -1099511627776 <= e /\ e <= 1099511627776) (h0 : 0 < nv l) :
 Calls Tryz.prog 40 #[.agg #[.bool s,.string (bs l)],.int .i64 e] w fun r w'=>r = .returned (numV D) /\ Below w.heap.size w w':=by
 have hf:=fun W=>rform_any s l W (by omega)
 have e3 : (nt (nv l)).isEmpty = false:=by
  have:=nt_ne_nil h0
  cases h : nt (nv l) with
  | nil=>exact absurd h this
  | cons a b=>rfl
 rw [e3] at hf
 simp only [Bool.not_false,Bool.and_true] at hf
 have hvb:=nv_bits l
 obtain ⟨v,hv⟩ : ∃ v,nv l = v:=⟨_,rfl⟩
 rw [hv] at h0 hvb
 simp only [hv] at hf
 have hup : ∀ n k : Nat,n * 2 ^ k = v -> dval (s,nt n,e + k) = D:=fun n k h=>by rw [<- hD];exact dval_up s l n k e (by rw [hv];exact h)
 obtain ⟨Bn,hBn⟩ : ∃ Bn,8 * l.length = Bn:=⟨_,rfl⟩
 have hpb : ∀ n k : Nat,n * 2 ^ k = v -> k < Bn /\ 0 < n:=fun n k h=>by rw [<- hBn];exact pow_bound h h0 hvb
 have hBl : Bn <= 8388608:=by omega
 have Hf:=lid hf;have Hup:=lid hup;have Hpb:=lid hpb
 have hlen0 : (bs (nt v)).toList.isEmpty = false:=by rw [bs_empty,<- hv];exact e3
 have hntl : ∀ n k : Nat,n * 2 ^ k = v -> (nt n).length <= 1048576:=fun n k h=>by
  refine Nat.le_trans (nt_length_le (Nat.lt_of_le_of_lt (Nat.le_mul_of_pos_right n (Nat.pow_pos (n:=k) (show 0 < 2 by decide))) ?_)) hl
  rw [h,<- hv];exact nv_lt l
 have Hntl:=lid hntl
 clear hf e3 hvb hup hpb hBn hD hv h0 hntl
 obtain ⟨W,hW_W⟩ : ∃ W,((w.alloc (.cells #[.bool s,.string (bs l)] 34)).alloc (.cells #[.bool false,.string ⟨#[]⟩,.int .i64 0] 36)) = W:=⟨_,rfl⟩
 have Hb : Hid (Below w.heap.size w W):=by rw [<- hW_W];exact (((Below.refl _ _).alloc (Nat.le_refl _) _).alloc (by simp<;>omega) _)
 have Hm : Hid (Blk W (w.heap.size) 34 [.bool s,.string (bs l)]):=by rw [<- hW_W];exact (Blk.newAt _ _ _ (by simp)).alloc _
 have Hr : Hid (Blk W (w.heap.size + 1) 36 [.bool false,.string ⟨#[]⟩,.int .i64 0]):=by rw [<- hW_W];exact Blk.newAt _ _ _ (by simp)
 obtain ⟨m0,fm0,m1,fm1⟩:=Hm.out.g2
 obtain ⟨r0,fr0,r1,fr1,r2,fr2⟩:=Hr.out.g3
 go_enter Tryz.func40,Tryz.ntmps40
 go_wp2_with fail
 refine (Hf.out _).mono ?_
 rintro e w1 ⟨rfl,hbn⟩
 clear m0 fm0 m1 fm1
 clear r0 fr0 r1 fr1 r2 fr2
 replace Hm:=kB Hm hbn
 replace Hr:=kB Hr hbn
 obtain ⟨m0,fm0,m1,fm1⟩:=Hm.out.g2
 obtain ⟨r0,fr0,r1,fr1,r2,fr2⟩:=Hr.out.g3
 replace Hb:=bnx Hb hbn;clear hbn
 go_wp2_with fail
 clear m0 fm0 m1 fm1
 clear r0 fr0 r1 fr1 r2 fr2
 obtain ⟨R,hR⟩ : ∃ R : World -> Prop,(fun w2=>Blk w2 (w.heap.size) 34 [.bool s,.string (bs (nt v))] /\ Blk w2 (w.heap.size + 1) 36 [.bool false,.string ⟨#[]⟩,.int .i64 0] /\ Below w.heap.size w w2) = R:=⟨_,rfl⟩
 first | refine wp_world R ?hR ?_ | refine calls_world R ?hR ?_
 case hR=>subst hR;exact ⟨((Hm.out.set 0 _).set 1 _),((Hr.out.so (w.heap.size) 0 (by omega) _).so (w.heap.size) 1 (by omega) _),((Hb.out.sc (w.heap.size) 0 (by have:=Hb.out.size;omega) _).sc (w.heap.size) 1 (by have:=Hb.out.size;omega) _)⟩
 subst hR
 rintro w2 ⟨qm,qr,hbn⟩
 replace Hm:=lid qm;clear qm
 replace Hr:=lid qr;clear qr
 obtain ⟨m0,fm0,m1,fm1⟩:=Hm.out.g2
 obtain ⟨r0,fr0,r1,fr1,r2,fr2⟩:=Hr.out.g3
 replace Hb:=lid hbn;clear hbn
 clear m0 m1 fm0 fm1 r0 r1 r2 fr0 fr1 fr2
 have lm:=Hm.out.lt;have lr:=Hr.out.lt
 go_loopw [1] (fun x wr=>∃ n k : Nat,n * 2 ^ k = v /\ x = .int .i64 (e + k) /\ Blk wr w.heap.size 34 [.bool s,.string (bs (nt n))] /\ Blk wr (w.heap.size + 1) 36 [.bool false,.string ⟨#[]⟩,.int .i64 0] /\ Below w.heap.size w wr) (fun x _=>(e + Bn + 100 - intOf x).toNat)
 case atStart=>exact ⟨v,0,by simp,by simp,Hm.out,Hr.out,Hb.out⟩
 case round=>
  clear Hm Hr Hb
  obtain ⟨n,k,hnk,rfl,hm,hr,hb⟩:=hrel
  obtain ⟨hk,hn⟩:=Hpb.out n k hnk
  obtain ⟨M,c,hM,hMe,hc⟩:=nt_last hn
  have Hm:=lid hm;have Hr:=lid hr;have Hb:=lid hb;have Hnk:=lid hnk;have HM:=lid hM;have HMe:=lid hMe
  have hnl:=Hntl.out n k hnk
  have hMl : M.length + 1 <= 1048576:=by rw [hM] at hnl;simpa using hnl
  have m1 : wr.cell? ⟨w.heap.size,1,none⟩ = some (.string (bs (M ++ [c]))):=by rw [<- hM];exact hm.cell 1
  have fm1 : wr.frozen? ⟨w.heap.size,1,none⟩ = false:=hm.free 1
  have hsz : (bs (M ++ [c])).size = M.length + 1:=by rw [bs_size];simp
  have hidx:=idx_bs (M ++ [c]) (M.length : Int) M.length (by simp) rfl
  have hgc : (M ++ [c])[M.length]'(by simp) = c:=by simp
  rw [hgc] at hidx
  obtain ⟨C,hC⟩ : ∃ C,c.toNat = C:=⟨_,rfl⟩
  rw [hC] at hidx hc
  have hsl:=slice_bs_to M c (M.length : Int) rfl
  have Hc:=lid hc
  clear hm hr hb hnk hM hMe hgc hc hnl
  by_cases hC0 : C = 0
  . subst hC0
    go_wp2
    go_roundw
    case rel=>
     refine ⟨n / 256,k + 8,?_,by go_num,?_,?_,?_⟩
     . have h1:=Hc.out;have h2:=Hnk.out
       rw [<- h2,Nat.pow_add,show (2 : Nat) ^ 8 = 256 by rfl,Nat.mul_comm (2 ^ k),<- Nat.mul_assoc]
       congr 1;omega
     . rw [<- HMe.out];exact Hm.out.set 1 _
     . exact Hr.out.set_other ⟨w.heap.size,1,none⟩ (by dsimp only;omega) _
     . exact Hb.out.setCell (by dsimp only;omega) _
    case measure=>simp [intOf];omega
  . have hC1 : ((C : Int) == 0) = false:=by simp;omega
    go_wp2_with fail
    clear m1 fm1 hsz hidx hsl hMl hC1 hC hC0
    go_loopw [1] (fun x wr=>∃ n k : Nat,n * 2 ^ k = v /\ x = .int .i64 (e + k) /\ Blk wr w.heap.size 34 [.bool s,.string (bs (nt n))] /\ Blk wr (w.heap.size + 1) 36 [.bool false,.string ⟨#[]⟩,.int .i64 0] /\ Below w.heap.size w wr) (fun x _=>(e + Bn + 100 - intOf x).toNat)
    case atStart=>exact ⟨n,k,Hnk.out,rfl,Hm.out,Hr.out,Hb.out⟩
    case round=>
     clear Hm Hr Hb Hnk HM HMe Hc hk hn
     obtain ⟨n,k,hnk,rfl,hm,hr,hb⟩:=hrel
     obtain ⟨hk,hn⟩:=Hpb.out n k hnk
     obtain ⟨M,c,hM,hMe,hc⟩:=nt_last hn
     have Hr:=lid hr;have Hnk:=lid hnk;have HM:=lid hM
     have hnl:=Hntl.out n k hnk
     have hMl : M.length + 1 <= 1048576:=by rw [hM] at hnl;simpa using hnl
     have Hm : Hid (Blk wr w.heap.size 34 [.bool s,.string (bs (M ++ [c]))]):=by rw [hM] at hm;exact hm
     have m0 : wr.cell? ⟨w.heap.size,0,none⟩ = some (.bool s):=Hm.out.cell 0
     have m1 : wr.cell? ⟨w.heap.size,1,none⟩ = some (.string (bs (M ++ [c]))):=Hm.out.cell 1
     have hsz : (bs (M ++ [c])).size = M.length + 1:=by rw [bs_size];simp
     have hidx:=idx_bs (M ++ [c]) (M.length : Int) M.length (by simp) rfl
     have hgc : (M ++ [c])[M.length]'(by simp) = c:=by simp
     rw [hgc] at hidx
     obtain ⟨C,hC⟩ : ∃ C,c.toNat = C:=⟨_,rfl⟩
     rw [hC] at hidx hc
     have hbs0:=hb.size
     have Hb0:=lid hb
     clear hm hr hb hnk hMe hgc hC
     by_cases hev : n % 2 = 0
     . obtain ⟨n',rfl⟩ : ∃ n',n = 2 * n':=⟨n / 2,by omega⟩
       have hrem : (C : Int) % 2 = 0:=by omega
       have hh:=fun W=>rhalf_any s n' W (by omega) (Nat.le_trans hnl (by decide))
       rw [hM] at hh
       have Hh:=lid hh
       have Hb : Hid (Below wr.heap.size wr wr):=Below.refl _ _
       clear hh hM hnl hc
       go_wp2_with fail
       have lmm:=Hm.out.lt;have lrr:=Hr.out.lt
       go_region_with (first | (go_at_call 41;refine (rof2_two _).mono ?_;rintro e3 w3 ⟨rfl,hb3⟩;replace hb3:=bundrew hb3;have Hm3:=lid (Hm.out.below hb3);have m03 : w3.cell? ⟨w.heap.size,0,none⟩ = some (.bool s):=Hm3.out.cell 0;have m13 : w3.cell? ⟨w.heap.size,1,none⟩ = some (.string (bs (M ++ [c]))):=Hm3.out.cell 1) | (go_at_call 62;refine (Hh.out _).mono ?_;rintro e4 w4 ⟨rfl,hb4⟩;have Hm5:=lid (Hm3.out.below hb4);have m04 : w4.cell? ⟨w.heap.size,0,none⟩ = some (.bool s):=Hm5.out.cell 0;have m14 : w4.cell? ⟨w.heap.size,1,none⟩ = some (.string (bs (M ++ [c]))):=Hm5.out.cell 1;have fm04:=Hm5.out.free 0;have fm14:=Hm5.out.free 1))
       all_goals
        have HBm:=lid (bnext (bnext Hb0.out hb3) hb4)
        have Hm4:=lid ((Hm5.out.set 0 (.bool s)).set 1 (.string (bs (nt n'))))
        have Hr4:=lid ((((Hr.out.below hb3).below hb4).set_other ⟨w.heap.size,0,none⟩ (by dsimp only;omega) (.bool s)).set_other ⟨w.heap.size,1,none⟩ (by dsimp only;omega) (.string (bs (nt n'))))
        clear m0 m1 m03 m13 m04 m14 fm04 fm14 hrem hidx hb3 hb4 Hm3 Hm5
        go_wp2
        go_roundw
        case rel=>
         refine ⟨n',k + 1,?_,by go_num,Hm4.out,Hr4.out,?_⟩
         . rw [<- Hnk.out,Nat.pow_succ,Nat.mul_comm (2 ^ k) 2,<- Nat.mul_assoc,Nat.mul_comm n' 2]
         . exact (HBm.out.setCell (by dsimp only;omega) _).setCell (by dsimp only;omega) _
        case measure=>simp [intOf];omega
     . have hrem : ((C : Int) % 2 == 0) = false:=by simp;omega
       have hod : n % 2 = 1:=by omega
       have hfin:=canon_odd s n (e + k) hod
       rw [Hup.out n k Hnk.out,HM.out] at hfin
       have Hfin:=lid hfin
       have r0 : wr.cell? ⟨w.heap.size + 1,0,none⟩ = some (.bool false):=Hr.out.cell 0
       have r1 : wr.cell? ⟨w.heap.size + 1,1,none⟩ = some (.string ⟨#[]⟩):=Hr.out.cell 1
       have r2 : wr.cell? ⟨w.heap.size + 1,2,none⟩ = some (.int .i64 0):=Hr.out.cell 2
       have fr0:=Hr.out.free 0;have fr1:=Hr.out.free 1;have fr2:=Hr.out.free 2
       clear hM hnl hc hod hfin hev
       go_wp2
       refine bodyPost_ret (v:=.agg #[.bool s,.string (bs (M ++ [c])),.int .i64 (e + k)]) (by simp [results,Tryz.results40,go_sem,r0,r1,r2]) rfl ⟨?_,?_⟩
       . have h1:=Hfin.out
         unfold canon at h1
         simp only [Prod.mk.injEq] at h1
         rw [<- h1.1,<- h1.2.1,<- h1.2.2]
       . exact (((Hb0.out.setCell (by dsimp only;omega) _).setCell (by dsimp only;omega) _).setCell (by dsimp only;omega) _)
theorem rmake_any (s : Bool) (l : List UInt8) (e : Int) (D : Dyadic) (hD : dval (s,l,e) = D) (w : World) (hl : l.length <= 1048576) (he : -1099511627776 <= e /\ e <= 1099511627776) :
 Calls Tryz.prog 40 #[.agg #[.bool s,.string (bs l)],.int .i64 e] w fun r w'=>r = .returned (numV D) /\ Below w.heap.size w w':=by
 rcases Nat.eq_zero_or_pos (nv l) with h0 | h0
 . have : D = 0:=by rw [<- hD];exact dval_zero s l e (by unfold iv;rw [h0];split<;>rfl)
   rw [this];exact rmake_zero s l e w hl h0
 . exact rmake_pos s l e D hD w hl he h0
def dI (n : Nat) : Dyadic:=Dyadic.ofIntWithPrec (n : Int) 0
theorem num_any (n : Nat) (w : World) (hn : n <= 1000000) :
 Calls Tryz.prog 18 #[.int .i64 (n : Int)] w fun e w'=>e = .returned (numV (dI n)) /\ Below w.heap.size w w':=by
 have h1:=fun W=>rof2_nat n W (by omega)
 have h2:=fun W=>rmake_any false (nt n) 0 (dI n) (by unfold dval dI;simp only [iv_num];rfl) W (Nat.le_trans (nt_length_le (k:=4) (by omega)) (by decide)) (by omega)
 generalize dI n = D at *
 generalize nt n = m at *
 have H1:=lid h1;have H2:=lid h2;clear h1 h2
 obtain ⟨W,hW_W⟩ : ∃ W,(w.alloc (.cells #[.bool false,.string ⟨#[]⟩,.int .i64 0] 36)) = W:=⟨_,rfl⟩
 have Hb : Hid (Below w.heap.size w W):=by rw [<- hW_W];exact ((Below.refl _ _).alloc (Nat.le_refl _) _)
 have Hr : Hid (Blk W (w.heap.size) 36 [.bool false,.string ⟨#[]⟩,.int .i64 0]):=by rw [<- hW_W];exact Blk.newAt _ _ _ (by simp)
 obtain ⟨r0,fr0,r1,fr1,r2,fr2⟩:=Hr.out.g3
 go_enter Tryz.func18,Tryz.ntmps18
 go_wp2_with fail
 refine (H1.out _).mono ?_
 rintro e w1 ⟨rfl,hbn⟩
 clear r0 fr0 r1 fr1 r2 fr2
 replace Hr:=kB Hr hbn
 obtain ⟨r0,fr0,r1,fr1,r2,fr2⟩:=Hr.out.g3
 replace Hb:=bnx Hb hbn;clear hbn
 go_wp2_with fail
 refine (H2.out _).mono ?_
 rintro e w2 ⟨rfl,hbn⟩
 clear r0 fr0 r1 fr1 r2 fr2
 replace Hr:=kB Hr hbn
 obtain ⟨r0,fr0,r1,fr1,r2,fr2⟩:=Hr.out.g3
 replace Hb:=bnx Hb hbn;clear hbn
 go_wp2
 clear r0 fr0 r1 fr1 r2 fr2
 refine body_world (fun w9=>Blk w9 (w.heap.size) 36 [.bool (sgnB (dN D)),.string (bs (nt (dN D).natAbs)),.int .i64 (dE D)] /\ Below w.heap.size w w9) ⟨(((Hr.out.set 0 _).set 1 _).set 2 _),(((Hb.out.sc (w.heap.size) 0 (by have:=Hb.out.size;omega) _).sc (w.heap.size) 1 (by have:=Hb.out.size;omega) _).sc (w.heap.size) 2 (by have:=Hb.out.size;omega) _)⟩ ?_
 rintro w9 ⟨qr,hbn⟩
 replace Hr:=lid qr;clear qr
 obtain ⟨r0,fr0,r1,fr1,r2,fr2⟩:=Hr.out.g3
 replace Hb:=lid hbn;clear hbn
 refine bodyPost_ret (v:=numV D) (by simp [results,Tryz.results18,go_sem,r0,r1,r2]) rfl ⟨rfl,Hb.out⟩
theorem of_law (V D : Int) (a : Option Addr) (ns : List Nat) (N cap : Nat) (w : World) (hN : ns.length = N) (hl : N <= 1000) (hn : ∀ n ∈ ns,n <= 1000000) (ha : At w a (ns.map fun (n : Nat)=>Value.int .i64 (n : Int))) :
 Calls Tryz.prog 16 #[.int .i64 V,.int .i64 D,.slice a N cap] w fun e w'=>∃ a2 cap2,e = .returned (.agg #[.int .i64 V,.int .i64 D,.slice a2 N cap2]) /\ At w' a2 (dC (ns.map dI)) /\ Below w.heap.size w w':=by
 obtain ⟨i0,hi,hz0,hz1,hz2⟩:=info_parts Tryz.infoN
 have HN:=lid hN;have HA:=lid ha;have Hn:=lid hn
 have Hi:=lid hi;have Hz0:=lid hz0;have Hz1:=lid hz1;have Hz2:=lid hz2
 obtain ⟨Z,hZ⟩ : ∃ Z,ns.map dI = Z:=⟨_,rfl⟩
 have HZ:=lid hZ
 rw [hZ]
 clear hN ha hn hi hz0 hz1 hz2 hZ
 obtain ⟨W,hW_W⟩ : ∃ W,((w.alloc (.cells #[.int .i64 0,.int .i64 0,.slice none 0 0] 24)).alloc (.cells #[.int .i64 V,.int .i64 D,.slice none 0 0] 24)) = W:=⟨_,rfl⟩
 have Hb : Hid (Below w.heap.size w W):=by rw [<- hW_W];exact (((Below.refl _ _).alloc (Nat.le_refl _) _).alloc (by simp<;>omega) _)
 have Hr : Hid (Blk W (w.heap.size) 24 [.int .i64 0,.int .i64 0,.slice none 0 0]):=by rw [<- hW_W];exact (Blk.newAt _ _ _ (by simp)).alloc _
 have Ho : Hid (Blk W (w.heap.size + 1) 24 [.int .i64 V,.int .i64 D,.slice none 0 0]):=by rw [<- hW_W];exact Blk.newAt _ _ _ (by simp)
 obtain ⟨r0,fr0,r1,fr1,r2,fr2⟩:=Hr.out.g3
 obtain ⟨o0,fo0,o1,fo1,o2,fo2⟩:=Ho.out.g3
 go_enter Tryz.func16,Tryz.ntmps16
 go_wp2_with fail
 clear r0 fr0 r1 fr1 r2 fr2
 clear o0 fo0 o1 fo1 o2 fo2
 obtain ⟨R,hR⟩ : ∃ R : World -> Prop,(fun w1=>Blk w1 (w.heap.size) 24 [.int .i64 0,.int .i64 0,.slice none 0 0] /\ Blk w1 (w.heap.size + 1) 24 [.int .i64 V,.int .i64 D,.slice none 0 0] /\ Below w.heap.size w w1) = R:=⟨_,rfl⟩
 first | refine wp_world R ?hR ?_ | refine calls_world R ?hR ?_
 case hR=>subst hR;exact ⟨(Hr.out.so (w.heap.size + 1) 2 (by omega) _),(Ho.out.set 2 _),(Hb.out.sc (w.heap.size + 1) 2 (by have:=Hb.out.size;omega) _)⟩
 subst hR
 rintro w1 ⟨qr,qo,hbn⟩
 replace Hr:=lid qr;clear qr
 replace Ho:=lid qo;clear qo
 obtain ⟨r0,fr0,r1,fr1,r2,fr2⟩:=Hr.out.g3
 obtain ⟨o0,fo0,o1,fo1,o2,fo2⟩:=Ho.out.g3
 replace Hb:=lid hbn;clear hbn
 have lr:=Hr.out.lt;have lo:=Ho.out.lt
 go_loopw [8] (fun i wr=>∃ k : Nat,k <= N /\ i = .int .i64 (k : Int) /\ ∃ v,wr.ownsRow w.heap.size 36 3 v k (dC (Z.take k)) /\ Blk wr w.heap.size 24 [.int .i64 0,.int .i64 0,.slice none 0 0] /\ Blk wr (w.heap.size + 1) 24 [.int .i64 V,.int .i64 D,v] /\ Below w.heap.size w wr) (fun i _=>N - (intOf i).toNat)
 case atStart=>exact ⟨0,Nat.zero_le _,rfl,_,World.ownsRow_nil _ _ _ _,Hr.out,Ho.out,Hb.out⟩
 case round=>
  clear r0 r1 r2 fr0 fr1 fr2 o0 o1 o2 fo0 fo1 fo2
  obtain ⟨k,hk,rfl,v,pv,pR,pO,pb⟩:=hrel
  by_cases hlt : k < N
  . have h1 : k < ns.length:=by rw [HN.out];exact hlt
    obtain ⟨n,hx⟩ : ∃ n,ns[k] = n:=⟨_,rfl⟩
    have hnn : n <= 1000000:=by rw [<- hx];exact Hn.out _ (List.getElem_mem h1)
    obtain ⟨X,hX⟩ : ∃ X,dI n = X:=⟨_,rfl⟩
    have hnum:=fun W=>num_any n W hnn
    rw [hX] at hnum
    have Hnum:=lid hnum
    have Hst : Hid (dC (Z.take (k + 1)) = dC (Z.take k) ++ [.bool (sgnB (dN X)),.string (bs (nt (dN X).natAbs)),.int .i64 (dE X)]):=by
     show _ = _
     rw [<- HZ.out,List.take_succ_eq_append_getElem (by simpa using h1),dC_append]
     congr 1
     simp only [List.getElem_map,hx,hX]
     rfl
    have hat : At w a (ns.flatMap fun (n : Nat)=>[Value.int .i64 (n : Int)]):=by rw [flat_one];exact HA.out
    obtain ⟨b1,oa,hab1,hcs⟩:=hat.elem (f:=fun (n : Nat)=>[Value.int .i64 (n : Int)]) (sz:=1) (fun _=>rfl) (by decide) k h1
    have p0 : w.cell? ⟨b1,oa + k,none⟩ = some (.int .i64 (n : Int)):=by rw [<- hx];simpa using hcs 0 (by decide)
    have lb1 : b1 < w.heap.size:=World.block_lt_of_cell? w _ p0
    replace p0:=cell_later pb p0
    have hix1:=i89x2 N cap k (k : Int) hab1 hlt rfl
    rw [Nat.mul_one] at hix1
    have Hp : Hid (Win wr b1 (oa + k) [.int .i64 (n : Int)]):=fun j hj=>by
     obtain rfl : j = 0:=by simp at hj;omega
     exact p0
    replace Hr:=lid pR;replace Ho:=lid pO;have Hv:=lid pv;have Hbr:=lid pb
    have hszr : w.heap.size <= wr.heap.size:=pb.size
    clear pR pO pv hx hX hab1 p0 Hb pb hat hcs hnum hnn
    have Hb : Hid (Below wr.heap.size wr wr):=Below.refl _ _
    obtain ⟨y,hy⟩ : ∃ y : Int,(n : Int) = y:=⟨_,rfl⟩
    rw [hy] at Hp Hnum
    clear hy
    go_wp2_with fail
    obtain ⟨o0,fo0,o1,fo1,o2,fo2⟩:=Ho.out.g3
    have p0:=Hp.out.w1
    refine wp_region_plan (fun w'=>w'.cell? ⟨w.heap.size + 1,2,none⟩ = some (v) /\ w'.cell? ⟨b1,oa + k,none⟩ = some (.int .i64 y)) (fun i=>Nat.blt i 10) [(0,true),(1,true),(2,true),(3,true),(4,true),(5,true),(6,false),(7,false),(8,false),(9,true),(10,false)] (by kernel_rfl) (by kernel_rfl) rfl (by kernel_rfl) (fun o c a v w=>by cases o.dst<;>exact id) ⟨o2,p0⟩ ?_
    iterate 6 (refine planT rfl rfl (v:=?_) (fun w' hw'=>?_) ?_;rotate_left;(focus obtain ⟨q0,q1⟩:=hw';go_simp;try with_reducible rfl);try simp only [Act.put,U1,U2,U3])
    refine planF rfl rfl (fun K hK=>?_)
    go_simp
    with_reducible refine (Hnum.out _).mono ?_
    rintro e w5 ⟨rfl,hq⟩
    have hbn : Below wr.heap.size wr w5:=by first | exact hq | exact bundrew hq
    clear o0 fo0 o1 fo1 o2 fo2
    clear p0
    replace Ho:=kB Ho hbn
    replace Hp:=kW Hp hbn
    obtain ⟨o0,fo0,o1,fo1,o2,fo2⟩:=Ho.out.g3
    have p0:=Hp.out.w1
    replace Hb:=bnx Hb hbn;clear hbn
    refine hK _ _ (fun _=>⟨o2,p0⟩) ?_;clear hK K
    try simp only [Act.put,U1,U2,U3]
    refine planF rfl rfl (fun K hK=>?_)
    go_simp
    refine hK _ _ (fun _=>⟨cell_new o2,cell_new p0⟩) ?_;clear hK K
    try simp only [Act.put,U1,U2,U3]
    refine plan_world (fun w6=>Blk w6 (w5.heap.size) 36 [.bool (sgnB (dN X)),.string (bs (nt (dN X).natAbs)),.int .i64 (dE X)] /\ Below w5.heap.size w5 w6) (by first | exact nw1 | exact nw2) ?_
    rintro w6 ⟨qc,hbn⟩
    clear o0 fo0 o1 fo1 o2 fo2
    clear p0
    have lz_o_w6:=Ho.out.lt
    replace Ho:=kB Ho hbn
    replace Hp:=kW Hp hbn
    have Hc:=lid qc;clear qc
    obtain ⟨o0,fo0,o1,fo1,o2,fo2⟩:=Ho.out.g3
    have p0:=Hp.out.w1
    obtain ⟨c0,c1,c2⟩:=Hc.out.c3
    replace Hb:=bnx Hb hbn;clear hbn
    refine planF rfl rfl (fun K hK=>?_)
    have hv6:=ownsRow_below Hv.out Hb.out
    have hs6:=Hb.out.size
    refine wp_append_own _ _ _ 22 rfl w.heap.size 36 i0 _ 3 32 Tryz.underlying22 Hi.out Hz0.out Hz1.out Hz2.out rfl (by decide) v k (dC (Z.take k)) rfl hv6 ⟨w5.heap.size,0,none⟩ 1 1 [.bool (sgnB (dN X)),.string (bs (nt (dN X).natAbs)),.int .i64 (dE X)] rfl rfl (blk_news Hc.out) (by simp [Value.oneCell']) (by simp [maxLen];omega) (by omega) (by omega) ?_
    intro v' w7 ho7 hg7 _
    obtain ⟨g',cq,rfl⟩:=ownsRow_succ ho7
    have nb : ∀ b,b < w.heap.size -> some b ≠ v.ownBlock:=fun b hb e=>by have:=ownsRow_base hv6 b e.symm;omega
    have ho2:=Ho.out.row (by decide) hv6 hg7
    have hr2:=(Hr.out.below Hb.out).row (by decide) hv6 hg7
    refine hK _ _ (fun _=>⟨ho2.cell 2,grownBy_cell hg7 p0 (nb _ lb1)⟩) ?_;clear hK K
    clear o0 o1 o2 fo0 fo1 fo2 p0 c0 c1 c2
    try simp only [Act.put,U1,U2,U3]
    refine planT rfl rfl (v:=?_) (fun w' hw'=>?_) ?_;rotate_left;focus (go_simp;try with_reducible rfl)
    try simp only [Act.put,U1,U2,U3]
    refine planF rfl rfl (fun K hK=>?_)
    have o2 : w7.cell? ⟨w.heap.size + 1,2,none⟩ = some v:=ho2.cell 2
    have fo2 : w7.frozen? ⟨w.heap.size + 1,2,none⟩ = false:=ho2.free 2
    have Hnr:=lid (ho2.not_row (by decide) ho7)
    have H1:=lid ho2;have H4:=lid hr2;have H5:=lid ho7;have H6:=lid hg7;have H7:=lid hv6
    clear ho2 hr2 ho7 hg7 hv6
    go_simp
    refine hK _ _ (fun h=>absurd h (by decide)) ?_;clear hK K
    simp only [wpPlan]
    go_wp2
    go_roundw
    case rel=>
     refine ⟨k + 1,by omega,by go_num,.slice (some ⟨g',0,none⟩) (k + 1) cq,?_,?_,?_,?_⟩
     . rw [Hst.out]
       exact H5.out.kept (grownBy_set (w:=w7) (a:=⟨w.heap.size + 1,2,none⟩) (w.heap.size + 1) rfl _) (.inr Hnr.out.symm)
     . exact H4.out.set_other ⟨w.heap.size + 1,2,none⟩ (by dsimp only;omega) _
     . exact H1.out.set 2 _
     . refine Below.setCell ?_ (by dsimp only;omega) _
       exact (bnext Hbr.out Hb.out).grown H6.out (by omega) (fun j e=>ownsRow_base H7.out j e)
    case measure=>simp [intOf];omega
  . obtain rfl : k = N:=by omega
    have hZl : Z.take k = Z:=by rw [List.take_of_length_le];rw [<- HZ.out];simp [HN.out]
    rw [hZl] at pv
    obtain ⟨a2,cap2,rfl,hat,hab⟩:=ownsRow_at pv
    have Hat:=lid hat;have Hab:=lid hab;have HB:=lid pb;have HR:=lid pR;have HV:=lid pv
    have o0 : wr.cell? ⟨w.heap.size + 1,0,none⟩ = some (.int .i64 V):=pO.cell 0
    have o1 : wr.cell? ⟨w.heap.size + 1,1,none⟩ = some (.int .i64 D):=pO.cell 1
    have o2 : wr.cell? ⟨w.heap.size + 1,2,none⟩ = some (.slice a2 k cap2):=pO.cell 2
    have r0 : wr.cell? ⟨w.heap.size,0,none⟩ = some (.int .i64 0):=pR.cell 0
    have r1 : wr.cell? ⟨w.heap.size,1,none⟩ = some (.int .i64 0):=pR.cell 1
    have r2 : wr.cell? ⟨w.heap.size,2,none⟩ = some (.slice none 0 0):=pR.cell 2
    have fr0:=pR.free 0;have fr1:=pR.free 1;have fr2:=pR.free 2
    clear pR pO pb pv hat hab hZl
    go_wp2
    refine bodyPost_ret (v:=.agg #[.int .i64 V,.int .i64 D,.slice a2 k cap2]) (by simp [results,Tryz.results16,go_sem,r0,r1,r2]) rfl ⟨a2,cap2,rfl,?_,?_⟩
    . have hne : ∀ b o,a2 = some ⟨b,o,none⟩ -> some b ≠ some (w.heap.size):=by
       intro b o e h
       subst e
       have:=HR.out.not_row (by decide) HV.out
       simp [Value.ownBlock] at this h
       omega
      exact ((Hat.out.grown (grownBy_set (w:=wr) (a:=⟨w.heap.size,0,none⟩) _ rfl (.int .i64 V)) hne).grown (grownBy_set (a:=⟨w.heap.size,1,none⟩) _ rfl (.int .i64 D)) hne).grown (grownBy_set (a:=⟨w.heap.size,2,none⟩) _ rfl _) hne
    . exact (((HB.out.setCell (by dsimp only;omega) _).setCell (by dsimp only;omega) _).setCell (by dsimp only;omega) _)
theorem wp_builtin_by {P : Program} {w w' : World} {o : Oper} {a : Act} {K : Act -> World -> Prop} {Q : Exit -> Act -> World -> Prop} (d s : Operand) (dT sT : TypeId)
 (ho : o.op = .call { callee:=.builtin .append,args:=#[d,s],argTypes:=#[dT,sT] }) (x y v : Value) (hd : a.eval d = x) (hs : a.eval s = y)
 (hrun : (Builtin.append_ #[dT,sT] o.type #[x,y]).run P w = .ok v w') (h : K (a.put o.dst v) w') : o.wp P a w K Q:=by
 unfold Oper.wp execOp
 simp only [ho,resolve,invoke,builtin,Sem.run_bind,Sem.run_pure,Result.andThen_ok,List.map_toArray,List.map_cons,List.map_nil,hd,hs,hrun]
 exact h
theorem append_front {w : World} {bM : Nat} {y : UInt8} {l : List UInt8} (h : Blk w bM 5 (byteC (y :: l))) (_hl : l.length <= 255) (ty : TypeId) (c : Nat) :
 ∃ w',(Builtin.append_ #[67,67] ty #[.slice (some ⟨bM,0,none⟩) 0 (l.length + 1),.slice (some ⟨bM,1,none⟩) l.length c]).run Tryz.prog w = .ok (.slice (some ⟨bM,0,none⟩) l.length (l.length + 1)) w' /\
  (∃ z,Blk w' bM 5 (byteC (l ++ [z]))) /\ w.grownBy w' (some bM):=by
 obtain ⟨i0,hi,hz0,hz1,hz2⟩:=info_parts Tryz.infoB
 have hr:=run_append_room (P:=Tryz.prog) w 67 ty 5 i0 Tryz.underlying67 hi bM 0 (l.length + 1) (byteC (y :: l)).toArray h ⟨bM,1,none⟩ l.length c (byteC l) (by rw [hz1];simp [byteC]) ?_ ?_ (by omega) (by rw [hz1];simp [byteC])
 . rw [Nat.zero_add] at hr
   refine ⟨_,hr,?_,?_⟩
   . have e : ∃ z,(List.take (0 * i0.size) (byteC (y :: l)).toArray.toList ++ byteC l ++ List.drop (0 * i0.size + (byteC l).length) (byteC (y :: l)).toArray.toList) = byteC (l ++ [z]):=by
      refine ⟨(y :: l)[l.length]'(by simp),?_⟩
      rw [hz1]
      have h2 : (byteC (y :: l)).drop l.length = byteC [(y :: l)[l.length]'(by simp)]:=by
       unfold byteC
       rw [<- List.map_drop,List.drop_eq_getElem_cons (by simp)]
       rw [List.drop_of_length_le (by simp)]
      have h3 : (byteC l).length = l.length:=by simp [byteC]
      rw [h3,Nat.zero_mul,Nat.zero_add,List.take_zero,List.nil_append,h2]
      unfold byteC
      rw [List.map_append]
     obtain ⟨z,hz⟩:=e
     refine ⟨z,?_⟩
     rw [hz]
     exact setRow_heap w bM _ _ 5 _ h
   . exact ⟨rfl,rfl,rfl,by simp,fun k _ hk=>setRow_other w bM k _ (fun e=>hk (by rw [e]))⟩
 . intro j u hj
   have hjl : j < l.length:=by
    rcases Nat.lt_or_ge j l.length with h1 | h1
    . exact h1
    . rw [List.getElem?_eq_none (by simp [byteC];exact h1)] at hj;cases hj
   have e2 : ((⟨bM,1,none⟩ : Addr).add j) = ⟨bM,j + 1,none⟩:=by cases j<;>simp [Addr.add]<;>omega
   rw [e2,h.cell]
   simpa [byteC] using hj
 . intro u hu
   unfold byteC at hu
   rw [List.mem_map] at hu
   obtain ⟨x,_,rfl⟩:=hu
   rfl
theorem take_string {w : World} {b : Nat} {t : TypeId} {l : List UInt8} {z : UInt8} (h : Blk w b t (byteC (l ++ [z]))) (cap : Nat) :
 (convert 67 9 (.slice (some ⟨b,0,none⟩) l.length cap)).run Tryz.prog w = .ok (.string (bs l)) w:=by
 have:=run_convert_bytes_arg (P:=Tryz.prog) w 67 5 Tryz.underlying67 Tryz.underlying5 b 0 l.length cap (l.map fun u=>(u.toNat : Int)) (by simp) (fun i hi=>by
  rw [Nat.zero_add,h.cell,byteC_get _ i (by simp;omega)]
  simp [List.getElem_append_left hi,hi]) 9 Tryz.underlying9
 rw [this]
 unfold strOfNums bs
 rw [List.map_map]
 have e : l.map ((fun n : Int=>UInt8.ofNat n.toNat) ∘ fun u : UInt8=>(u.toNat : Int)) = l:=by
  conv=>rhs;rw [<- List.map_id l]
  refine List.map_congr_left (fun u _=>?_)
  simp
 rw [e]
theorem face1_any (v d : Int) (bB bm bM bx bj n B : Nat) (f : List UInt8 -> Nat) (ds : List Dyadic) (y : UInt8) (l : List UInt8) (s : Bool) (m : List UInt8) (e : Int) (w : World)
 (hX : Blk w bx 64 [.int .i64 v,.int .i64 d,.slice (some ⟨bB,0,none⟩) ds.length ds.length,.map (some bm)]) (hJ : Blk w bj 3 [.int .i64 0])
 (hB : Blk w bB 36 (dC ds)) (hm : Mp w bm n f) (hM : Blk w bM 5 (byteC (y :: l))) (hl : l.length <= 8) (hl1 : 1 <= l.length)
 (hf : y = 0 -> f l < ds.length) (hx : Fit B (s,m,e)) (hd : ∀ x ∈ ds,Sm B x) (hBB : B + 2 <= 268435456) (hT : Tab w)
 (t1 : 0 ≠ bM) (t2 : 0 ≠ bB) :
 Calls Tryz.prog 39 #[.slice (some ⟨bM,0,none⟩) (l.length + 1) (l.length + 1),.agg #[.bool s,.string (bs m),.int .i64 e],.pointer (some ⟨bj,0,none⟩),.pointer (some ⟨bx,0,none⟩)] w fun ex w'=>
  (∃ r,ex = .returned r) /\ Blk w' bB 36 (dC (if y = 0 then addAt ds (f l) (dval (s,m,e)) else ds)) /\ Chg (fun b=>b = bM \/ b = bB) w w':=by
 have nMB : bM ≠ bB:=by rintro rfl;have h:=hM.symm.trans hB;simp at h
 have nMX : bM ≠ bx:=by rintro rfl;have h:=hM.symm.trans hX;simp at h
 have nXB : bx ≠ bB:=by rintro rfl;have h:=hX.symm.trans hB;simp at h
 have nMJ : bM ≠ bj:=by rintro rfl;have h:=hM.symm.trans hJ;simp at h
 have nBJ : bB ≠ bj:=by rintro rfl;have h:=hB.symm.trans hJ;simp at h
 have nmM : bm ≠ bM:=by
  rintro rfl
  obtain ⟨D,⟨es,clock,hb,_⟩,_⟩:=hm
  have h:=hM.symm.trans hb;simp at h
 obtain ⟨W,hW⟩ : ∃ W,w.alloc (.cells #[.bool s,.string (bs m),.int .i64 e] 36) = W:=⟨_,rfl⟩
 have hb0 : Below w.heap.size w W:=by rw [<- hW];exact (Below.refl _ _).alloc (Nat.le_refl _) _
 have Hc : Hid (Blk W w.heap.size 36 [.bool s,.string (bs m),.int .i64 e]):=by rw [<- hW];exact Blk.new _ _ _
 have lM:=hM.lt;have lB:=hB.lt
 have m0 : W.cell? ⟨bM,0,none⟩ = some (.int .u8 (y.toNat : Int)):=(hM.below hb0).cell 0
 have Hj:=lid (hJ.below hb0);have Hx:=lid (hX.below hb0);have HM:=lid (hM.below hb0);have HB:=lid (hB.below hb0);have Hm:=lid (hm.below hb0);have HT:=lid (hT.below hb0);have Hb0:=lid hb0
 have hix:=i67x5 (l.length + 1) (l.length + 1) 0 0 (rfl : (some ⟨bM,0,none⟩ : Option Addr) = _) (by omega) rfl
 have Hd:=lid hd;have Hx0:=lid hx;have Hf0:=lid hf;have hT0:=lid hT
 clear hX hJ hB hm hM hT hb0 hd hx hf
 have j0 : W.cell? ⟨bj,0,none⟩ = some (.int .i64 0):=Hj.out.cell 0
 obtain ⟨N,hN⟩ : ∃ N,l.length = N:=⟨_,rfl⟩
 rw [hN] at hl hl1 hix ⊢
 have HN:=lid hN;clear hN
 have hle0 : (0 : Int) <= (N : Int) + 1:=by omega
 have hle1 : (1 : Int) <= (N : Int) + 1:=by omega
 have hle2 : ¬ N = 0:=by omega
 have hw1 : IntKind.i64.wrap 1 = 1:=by rw [IntKind.wrap_i64];omega
 by_cases hy : y = 0
 . rw [if_pos hy]
   subst hy
   obtain ⟨X,hX⟩ : ∃ X,dval (s,m,e) = X:=⟨_,rfl⟩
   have hy0 : ((0 : UInt8).toNat : Int) = 0:=rfl
   rw [hy0] at m0
   clear hy0
   go_enter Tryz.func39,Tryz.ntmps39
   go_wp2_with fail
   clear j0
   have Hb : Hid (Below W.heap.size W W):=Below.refl _ _
   obtain ⟨c0,c1,c2⟩:=Hc.out.c3
   obtain ⟨x0,x1,x2,x3⟩:=Hx.out.c4
   have j0:=Hj.out.c1
   refine wp_region_plan (fun w'=>w'.cell? ⟨w.heap.size,0,none⟩ = some (.bool s) /\ w'.cell? ⟨w.heap.size,1,none⟩ = some (.string (bs m)) /\ w'.cell? ⟨w.heap.size,2,none⟩ = some (.int .i64 e) /\ w'.cell? ⟨bx,0,none⟩ = some (.int .i64 v) /\ w'.cell? ⟨bx,1,none⟩ = some (.int .i64 d) /\ w'.cell? ⟨bx,2,none⟩ = some (.slice (some ⟨bB,0,none⟩) ds.length ds.length) /\ w'.cell? ⟨bx,3,none⟩ = some (.map (some bm)) /\ w'.cell? ⟨bj,0,none⟩ = some (.int .i64 0)) (fun i=>Nat.blt i 100000) [(0,true),(1,true),(2,true),(3,true),(4,true),(5,true),(6,true),(7,true),(9,true),(8,false),(10,false)] (by kernel_rfl) (by kernel_rfl) rfl (by kernel_rfl) (fun o c a v w=>by cases o.dst<;>exact id) ⟨c0,c1,c2,x0,x1,x2,x3,j0⟩ ?_
   iterate 9 (refine planT rfl rfl (v:=?_) (fun w' hw'=>?_) ?_;rotate_left;(focus obtain ⟨q0,q1,q2,q3,q4,q5,q6,q7⟩:=hw';go_simp;try with_reducible rfl);try simp only [Act.put,U1,U2,U3])
   refine planF rfl rfl (fun K hK=>?_)
   obtain ⟨w1,hrun,⟨z,hz⟩,hg⟩:=append_front (w:=W.drew) HM.out.drew (by rw [HN.out];omega) 67 N
   rw [HN.out] at hrun
   refine wp_builtin_by _ _ _ _ rfl _ _ _ rfl rfl hrun ?_
   have kp : ∀ b,b ≠ bM -> some b ≠ some bM:=fun b h e=>h (by cases e;rfl)
   have hc1:=Hc.out.drew.grown hg (kp _ (by omega));have hx1:=Hx.out.drew.grown hg (kp _ (fun e=>nMX e.symm));have hj1:=Hj.out.drew.grown hg (kp _ (fun e=>nMJ e.symm))
   refine hK _ _ (fun _=>⟨hc1.cell 0,hc1.cell 1,hc1.cell 2,hx1.cell 0,hx1.cell 1,hx1.cell 2,hx1.cell 3,hj1.cell 0⟩) ?_;clear hK K
   have Cg : Chg (fun b=>b = bM \/ b = bB) w w1:=(Chg.of_below (Y:=fun b=>b = bM \/ b = bB) Hb0.out).trans (Chg.of_grown (Y:=fun b=>b = bM) (W:=W) (W':=w1) (r:=some bM) ⟨hg.os,hg.tape,hg.output,hg.size,hg.block⟩ (fun b e=>by cases e;rfl)) (fun b h=>.inl (.inl h))
   have hB1:=HB.out.drew.grown hg (kp _ (fun e=>nMB e.symm))
   have hm1 : Mp w1 bm n f:=Hm.out.kept (r:=some bM) ⟨hg.os,hg.tape,hg.output,hg.size,hg.block⟩ (kp _ nmM)
   have hT1 : Tab w1:=Cg.tab hT0.out (by rintro (h | h);exact t1 h;exact t2 h)
   have hfl : f l < ds.length:=by simpa using Hf0.out
   have hput:=put_conv v d bB bm bM N (N + 1) n (f l) B f ds l s m e (ds[f l] + dval (s,m,e)) w1 hB1 hm1 (fun W' hW'=>by
    have:=hz.below hW'
    have h2:=take_string this (N + 1)
    rw [HN.out] at h2
    exact h2) (by rw [HN.out];omega) rfl hfl Hx0.out (Hd.out _ (List.getElem_mem hfl)) hBB rfl hT1
   have est : ds.set (f l) (ds[f l] + dval (s,m,e)) = addAt ds (f l) (dval (s,m,e)):=by unfold addAt;congr 1;simp [hfl]
   rw [est] at hput
   have Hput:=lid hput;have HCg:=lid Cg;have G1:=lid hc1;have G2:=lid hx1;have G3:=lid hj1
   clear hput est hB1 hm1 hT1 hfl hc1 hx1 hj1 hz hg Cg c0 c1 c2 x0 x1 x2 x3 j0 m0
   try simp only [Act.put,U1,U2,U3]
   refine planF rfl rfl (fun K hK=>?_)
   go_simp
   refine Hput.out.mono ?_
   rintro e' w2 ⟨⟨r,rfl⟩,qB,qg⟩
   have kb : ∀ b,b ≠ bB -> some b ≠ some bB:=fun b h e=>h (by cases e;rfl)
   have g1:=G1.out.grown qg (kb _ (by omega));have g2:=G2.out.grown qg (kb _ nXB);have g3:=G3.out.grown qg (kb _ (fun e=>nBJ e.symm))
   refine hK _ _ (fun _=>⟨g1.cell 0,g1.cell 1,g1.cell 2,g2.cell 0,g2.cell 1,g2.cell 2,g2.cell 3,g3.cell 0⟩) ?_
   clear hK K g1 g2 g3
   simp only [wpPlan]
   go_wp2
   go_end0
   exact ⟨⟨_,rfl⟩,qB,HCg.out.trans (Chg.of_grown (Y:=fun b=>b = bB) qg (fun b e=>by cases e;rfl)) (fun b h=>.inl (.inr h))⟩
 . rw [if_neg hy]
   have hy1 : ((y.toNat : Int) == 0) = false:=by
    have : y.toNat ≠ 0:=fun h=>hy (by rw [<- UInt8.toNat_inj];exact h)
    simp;omega
   generalize (y.toNat : Int) = yy at *
   go_enter Tryz.func39,Tryz.ntmps39
   go_wp2
   go_end0
   exact ⟨⟨_,rfl⟩,HB.out,Chg.of_below Hb0.out⟩
def faceR (x : List Nat) (c : Dyadic) : Puts:=if x.getD 0 0 = 0 then [(x.drop 1,c)] else []
def faceP (R : List (List Nat)) (cs : List Dyadic) : Puts:=(List.range R.length).flatMap fun k=>faceR (R.getD k []) (cs.getD k 0)
def faceL (U D : Nat) (cs : List Dyadic) : List Dyadic:=colL (rowsL (U + 1) D) (faceP (rowsL (U + 1 + 1) D) cs)
theorem faceR_len (x : List Nat) (c : Dyadic) : (faceR x c).length <= 1:=by unfold faceR;split<;>simp
theorem face_put (f : List UInt8 -> Nat) (ds : List Dyadic) (a : Nat) (l : List Nat) (c : Dyadic) (ha : a <= 255) :
 putAll f ds (faceR (a :: l) c) = if UInt8.ofNat a = 0 then addAt ds (f (l.map UInt8.ofNat)) c else ds:=by
 unfold faceR
 by_cases h : a = 0
 . subst h
   rw [if_pos (by rfl),if_pos (by rfl)];rfl
 . have h2 : ¬ UInt8.ofNat a = 0:=by
    intro e
    have:=congrArg UInt8.toNat e
    simp at this;omega
   rw [if_neg (by simpa using h),if_neg h2];rfl
theorem face_ok (U D : Nat) (a : Option Addr) (cap : Nat) (raws : List Raw) (B : Nat) (w : World) (hc0 : chk ((U + 1 : Nat) : Int) D raws.length = 0) (hU : 1 <= U) (hc1 : cnt U D <= 512)
 (hfit : ∀ x ∈ raws,Fit B x) (hBB : B <= 1000000) (ha : At w a (raws.flatMap numC)) (hT : Tab w) :
 Calls Tryz.prog 17 #[.agg #[.int .i64 ((U + 1 : Nat) : Int),.int .i64 (D : Int),.slice a raws.length cap],.int .i64 0] w fun e w'=>∃ r,
  e = .returned (.tuple #[.agg #[.int .i64 (U : Int),.int .i64 (D : Int),.slice (some ⟨r,0,none⟩) (cnt U D) (cnt U D)],.int .i64 0]) /\ Blk w' r 36 (dC (faceL U D (raws.map dval))) /\ w.heap.size <= r /\ Below w.heap.size w w':=by
 obtain ⟨c1,c2,c3,c4,c5,c6⟩:=chk_ok hc0
 simp only [Int.toNat_natCast] at c5
 have hlen : raws.length = cnt (U + 1) D:=c5
 have hc : cnt (U + 1) D <= 512:=by omega
 have hV2 : U + 1 <= 8:=by omega
 have hD : D <= 20:=by omega
 obtain ⟨N,hN⟩ : ∃ N,cnt U D = N:=⟨_,rfl⟩
 have hRl : (rowsL (U + 1 + 1) D).length = raws.length:=by rw [rowsL_count,hlen]
 have hRl' : (rowsL (U + 1) D).length = N:=by rw [rowsL_count,hN]
 have hkeys0:=keysL_rows (U + 1) D (by omega) hV2 (by omega) hc
 have hkeys:=keysL_rows U D hU (by omega) (by omega) hc1
 have hbeg:=begin_any (U : Int) (D : Int) (fun l hl=>Nat.le_trans (keysL_len _ _ l hl) (by decide))
 obtain ⟨R,hR⟩ : ∃ R,rowsL (U + 1 + 1) D = R:=⟨_,rfl⟩
 obtain ⟨R',hR'⟩ : ∃ R',rowsL (U + 1) D = R':=⟨_,rfl⟩
 obtain ⟨f,hf⟩ : ∃ f,place (R'.map fun x=>x.map UInt8.ofNat) R'.length = f:=⟨_,rfl⟩
 have hkl0 : (keysL ((U + 1 : Nat) : Int) (D : Int)).length = raws.length:=by rw [hkeys0,List.length_map,hRl]
 have hkl : (keysL (U : Int) (D : Int)).length = N:=by rw [hkeys,List.length_map,hRl']
 have hplace : ∀ x ∈ R',∃ q,∃ h : q < R'.length,R'[q] = x /\ f (x.map UInt8.ofNat) = q:=by
  intro x hx
  rw [<- hR'] at hx
  have:=place_row (n:=U) (s:=D) (by omega) hx
  subst hR';subst hf
  exact this
 have hpl : place (keysL (U : Int) (D : Int)) N = f:=by rw [hkeys,<- hRl',hR',hf]
 rw [hkl,hpl] at hbeg
 unfold faceL
 rw [hR] at hRl hkeys0 ⊢
 rw [hR'] at hRl' ⊢
 rw [hN]
 have hmem : ∀ x ∈ R,x.length = U + 1 + 1 /\ x.sum = D:=fun x hx=>(mem_rowsL (U + 1) D x).1 (by rw [hR];exact hx)
 have hmem2 : ∀ x,x.length = U + 1 -> x.sum = D -> x ∈ R':=fun x h1 h2=>by rw [<- hR'];exact (mem_rowsL U D x).2 ⟨h1,h2⟩
 have hnd : R'.Nodup:=by rw [<- hR'];exact rowsL_nodup U D
 have h1:=has_any ((U + 1 : Nat) : Int) D a raws.length cap 0
 rw [decide_eq_true (by omega)] at h1
 obtain ⟨V1,hV1⟩ : ∃ V1 : Int,((U + 1 : Nat) : Int) = V1:=⟨_,rfl⟩
 have hw1 : IntKind.i64.wrap (V1 - 1) = (U : Int):=by rw [IntKind.wrap_i64];omega
 have hv1 : (V1 == 1) = false:=by simp;omega
 have hVU : V1 = (U : Int) + 1:=by omega
 rw [hV1] at hc0 hkeys0 hkl0 h1 ⊢
 have Hc:=lid hc0;have Hbeg:=lid hbeg;have Hkeys:=lid hkeys0;have Hplace:=lid hplace;have Hmem:=lid hmem;have Hmem2:=lid hmem2;have Hnd:=lid hnd;have HRl:=lid hRl;have HRl':=lid hRl';have Hfit:=lid hfit;have Hlen:=lid hlen;have HA:=lid ha;have HT:=lid hT;have Hkl:=lid hkl0;have HN:=lid hN;have H1:=lid h1;have HVU:=lid hVU
 have Hal : Hid (∀ b o,a = some ⟨b,o,none⟩ -> b < w.heap.size):=by
  intro b o e
  subst e
  refine ha.lt (fun h0=>?_)
  have h1:=congrArg List.length h0
  rw [flat_length numC 3 (fun _=>rfl)] at h1
  have:=cnt_pos (U + 1) D
  rw [List.length_nil] at h1
  omega
 clear hbeg hkeys hkeys0 hplace hmem hmem2 hnd hRl hRl' hfit hlen ha hT hR hR' hf hpl hkl hkl0 hc0 c1 c2 c5 c6 hN hc1 hV1 h1 hVU
 obtain ⟨W,hW_W⟩ : ∃ W,(((w.alloc (.cells #[.int .i64 V1,.int .i64 (D : Int),.slice a raws.length cap] 24)).alloc (.cells #[.int .i64 0] 3)).alloc (.cells #[.int .i64 0,.int .i64 0,.slice none 0 0] 24)) = W:=⟨_,rfl⟩
 have Hb : Hid (Below w.heap.size w W):=by rw [<- hW_W];exact ((((Below.refl _ _).alloc (Nat.le_refl _) _).alloc (by simp<;>omega) _).alloc (by simp<;>omega) _)
 have Hq : Hid (Blk W (w.heap.size) 24 [.int .i64 V1,.int .i64 (D : Int),.slice a raws.length cap]):=by rw [<- hW_W];exact ((Blk.newAt _ _ _ (by simp)).alloc _).alloc _
 have Hj : Hid (Blk W (w.heap.size + 1) 3 [.int .i64 0]):=by rw [<- hW_W];exact (Blk.newAt _ _ _ (by simp)).alloc _
 have Hr : Hid (Blk W (w.heap.size + 1 + 1) 24 [.int .i64 0,.int .i64 0,.slice none 0 0]):=by rw [<- hW_W];exact Blk.newAt _ _ _ (by simp)
 obtain ⟨q0,q1,q2⟩:=Hq.out.c3
 have j0:=Hj.out.c1
 obtain ⟨r0,fr0,r1,fr1,r2,fr2⟩:=Hr.out.g3
 go_enter Tryz.func17,Tryz.ntmps17
 go_wp2_with fail
 refine (check_any V1 D a raws.length cap 0 Hc.out _).mono ?_
 rintro e w0 ⟨rfl,hbn⟩
 clear q0 q1 q2
 clear j0
 clear r0 fr0 r1 fr1 r2 fr2
 replace Hq:=kB Hq hbn
 replace Hj:=kB Hj hbn
 replace Hr:=kB Hr hbn
 obtain ⟨q0,q1,q2⟩:=Hq.out.c3
 have j0:=Hj.out.c1
 obtain ⟨r0,fr0,r1,fr1,r2,fr2⟩:=Hr.out.g3
 replace Hb:=bnx Hb hbn;clear hbn
 go_wp2_with fail
 refine (H1.out _).mono ?_
 rintro e w00 ⟨rfl,hbn⟩
 clear q0 q1 q2
 clear j0
 clear r0 fr0 r1 fr1 r2 fr2
 replace Hq:=kB Hq hbn
 replace Hj:=kB Hj hbn
 replace Hr:=kB Hr hbn
 obtain ⟨q0,q1,q2⟩:=Hq.out.c3
 have j0:=Hj.out.c1
 obtain ⟨r0,fr0,r1,fr1,r2,fr2⟩:=Hr.out.g3
 replace Hb:=bnx Hb hbn;clear hbn
 go_wp2_with fail
 refine (Hbeg.out w00).mono ?_
 rintro e w1 ⟨bB,bm,rfl,⟨hB,lB,hm,lm⟩,hbn⟩
 have lz1:=Hq.out.lt;have lz4:=Hr.out.lt;have lz2:=Hj.out.lt
 replace Hq:=lid (Hq.out.below hbn);replace Hr:=lid (Hr.out.below hbn);replace Hj:=lid (Hj.out.below hbn)
 replace Hb:=lid (bnext Hb.out hbn)
 clear q0 q1 q2 j0 r0 r1 r2 fr0 fr1 fr2 hbn
 have lB1:=hB.lt;have lm1:=hm.lt;have sz1:=Hb.out.size
 obtain ⟨W3,hW3⟩ : ∃ W3,w1.alloc (.cells #[.int .i64 (U : Int),.int .i64 (D : Int),.slice (some ⟨bB,0,none⟩) N N,.map (some bm)] 64) = W3:=⟨_,rfl⟩
 have hb3 : Below w1.heap.size w1 W3:=by rw [<- hW3];exact (Below.refl _ _).alloc (Nat.le_refl _) _
 have Hx : Hid (Blk W3 w1.heap.size 64 [.int .i64 (U : Int),.int .i64 (D : Int),.slice (some ⟨bB,0,none⟩) N N,.map (some bm)]):=by rw [<- hW3];exact Blk.new _ _ _
 replace Hq:=lid (Hq.out.below hb3);replace Hr:=lid (Hr.out.below hb3);replace Hj:=lid (Hj.out.below hb3)
 replace Hb:=lid (bnext Hb.out hb3)
 have HB:=lid (hB.below hb3);have Hm:=lid (hm.below hb3)
 clear hB hm hb3
 have q0 : W3.cell? ⟨w.heap.size,0,none⟩ = some (.int .i64 V1):=Hq.out.cell 0
 have q1 : W3.cell? ⟨w.heap.size,1,none⟩ = some (.int .i64 (D : Int)):=Hq.out.cell 1
 have q2 : W3.cell? ⟨w.heap.size,2,none⟩ = some (.slice a raws.length cap):=Hq.out.cell 2
 have j0 : W3.cell? ⟨w.heap.size + 1,0,none⟩ = some (.int .i64 0):=Hj.out.cell 0
 have x0 : W3.cell? ⟨w1.heap.size,0,none⟩ = some (.int .i64 (U : Int)):=Hx.out.cell 0
 have x1 : W3.cell? ⟨w1.heap.size,1,none⟩ = some (.int .i64 (D : Int)):=Hx.out.cell 1
 have x2 : W3.cell? ⟨w1.heap.size,2,none⟩ = some (.slice (some ⟨bB,0,none⟩) N N):=Hx.out.cell 2
 have x3 : W3.cell? ⟨w1.heap.size,3,none⟩ = some (.map (some bm)):=Hx.out.cell 3
 have sz3 : W3.heap.size = w1.heap.size + 1:=by rw [<- hW3];simp
 have Hsz3:=lid sz3;clear sz3
 obtain ⟨cs,hcs⟩ : ∃ cs,raws.map dval = cs:=⟨_,rfl⟩
 obtain ⟨P,hP⟩ : ∃ P : Nat -> Puts,(fun k=>faceR (R.getD k []) (cs.getD k 0)) = P:=⟨_,rfl⟩
 have hPl : ∀ k,k < R.length -> (P k).length <= 1:=by
  intro k hk
  rw [<- hP]
  exact faceR_len _ _
 have hcv : ∀ k (h : k < raws.length),cs.getD k 0 = dval raws[k]:=fun k h=>by rw [<- hcs];simp [h]
 have hPs : ∀ k,k < R.length -> ∀ p ∈ P k,Sm B p.2:=by
  intro k hk p hp
  have hk2 : k < raws.length:=by rw [<- HRl.out];exact hk
  rw [<- hP] at hp
  dsimp only at hp
  unfold faceR at hp
  split at hp
  . rw [List.mem_singleton] at hp
    subst hp
    dsimp only
    rw [hcv k hk2]
    exact (Hfit.out _ (List.getElem_mem hk2)).2
  . cases hp
 have hPr : ∀ k,k < R.length -> ∀ p ∈ P k,p.1 ∈ R':=by
  intro k hk p hp
  have hm:=Hmem.out _ (List.getElem_mem hk)
  have e : R.getD k [] = R[k]:=by simp [hk]
  rw [<- hP] at hp
  dsimp only at hp
  unfold faceR at hp
  rw [e] at hp
  split at hp
  . rename_i h0
    rw [List.mem_singleton] at hp
    subst hp
    dsimp only
    obtain ⟨a0,rest,hx⟩ : ∃ a0 rest,R[k] = a0 :: rest:=by
     cases h : R[k] with
     | nil=>rw [h] at hm;simp at hm
     | cons a0 rest=>exact ⟨_,_,rfl⟩
    rw [hx] at hm h0 ⊢
    have h00 : a0 = 0:=h0
    subst h00
    refine Hmem2.out _ ?_ ?_
    . have:=hm.1;simp at this ⊢;omega
    . have:=hm.2;simp at this ⊢;omega
  . cases hp
 have Htb : Hid (0 < w.heap.size):=HT.out.lt
 have hmade:=smade_any (U : Int) (D : Int) bB N bm 39 #[.pointer (some ⟨w.heap.size + 1,0,none⟩),.pointer (some ⟨w1.heap.size,0,none⟩)] V1 (D : Int) a cap raws
  (fun k W=>Blk W w1.heap.size 64 [.int .i64 (U : Int),.int .i64 (D : Int),.slice (some ⟨bB,0,none⟩) N N,.map (some bm)] /\ Blk W (w.heap.size + 1) 3 [.int .i64 0] /\ Blk W bB 36 (dC (putAll f (List.replicate N 0) (putsTo P k))) /\ Mp W bm N f /\ Tab W) W3
  Hkl.out.symm (HA.out.below Hb.out) ?hab ?hac (enters_of Tryz.func39 (by kernel_rfl) rfl) ?hJb ?hcl ?hbB ⟨Hx.out,Hj.out,HB.out,Hm.out,HT.out.below Hb.out⟩
 rotate_right 5
 case hbB=>have:=Hsz3.out;omega
 case hab=>
  intro b o e
  have:=Hal.out b o e;omega
 case hac=>
  intro b o e
  have:=Hal.out b o e;have:=Hb.out.size;omega
 case hJb=>
  rintro k W' W'' ⟨j1,j2,j4,j5,j6⟩ hch
  have hs:=Hsz3.out
  have:=Htb.out;have:=Hb.out.size
  exact ⟨hch.blk j1 (by omega),hch.blk j2 (by omega),hch.blk j4 (by omega),hch.mp j5 (by omega),hch.tab j6 (by omega)⟩
 case hcl=>
  rintro k hk hk2 W' bM ⟨j1,j2,j4,j5,j6⟩ hM hbM
  have hs:=Hsz3.out
  have hkR : k < R.length:=by rw [HRl.out];exact hk2
  have hm:=Hmem.out _ (List.getElem_mem hkR)
  have ek : (keysL V1 (D : Int))[k] = (R[k]).map UInt8.ofNat:=by
   have:=Hkeys.out;simp only [this,List.getElem_map]
  have eP : P k = faceR R[k] (dval raws[k]):=by
   rw [<- hP]
   dsimp only
   rw [hcv k hk2]
   simp [hkR]
  obtain ⟨a0,rest,hx⟩ : ∃ a0 rest,R[k] = a0 :: rest:=by
   cases h : R[k] with
   | nil=>rw [h] at hm;simp at hm
   | cons a0 rest=>exact ⟨_,_,rfl⟩
  rw [hx] at hm eP
  rw [ek,hx,List.map_cons] at hM ⊢
  rw [List.length_cons]
  have hrl : rest.length = U + 1:=by have:=hm.1;simp at this;omega
  have hrs : a0 + rest.sum = D:=by have:=hm.2;simpa using this
  have ha0 : a0 <= 255:=by omega
  obtain ⟨ds,hds⟩ : ∃ ds,putAll f (List.replicate N 0) (putsTo P k) = ds:=⟨_,rfl⟩
  have hdl : ds.length = N:=by rw [<- hds,putAll_length,List.length_replicate]
  rw [hds] at j4
  have nmB : bm ≠ bB:=by
   rintro rfl
   obtain ⟨D,⟨es,clock,hb,_⟩,_⟩:=j5
   have h:=j4.symm.trans hb;simp at h
  have hpl:=putsTo_len P 1 R.length k (by omega) hPl
  have hkb : k * 1 <= 512:=by have:=Hlen.out;omega
  have hds2 : ∀ y ∈ ds,Sm (B + 512) y:=by
   rw [<- hds]
   intro y hy
   have:=putAll_sm (B:=B) f (List.replicate N 0) (putsTo P k) (fun d hd=>by rw [List.eq_of_mem_replicate hd];exact Sm.zero _) (putsTo_all P R.length k (by omega) hPs) y hy
   exact this.mono (by omega)
  have hfx:=Hfit.out _ (List.getElem_mem hk2)
  have hh:=face1_any (U : Int) (D : Int) bB bm bM w1.heap.size (w.heap.size + 1) N (B + 512) f ds (UInt8.ofNat a0) (rest.map UInt8.ofNat) raws[k].1 raws[k].2.1 raws[k].2.2 W' (by rw [hdl];exact j1) j2 j4 j5 hM (by rw [List.length_map];omega) (by rw [List.length_map];omega)
   (fun h0=>by
    have h00 : a0 = 0:=by
     have:=congrArg UInt8.toNat h0
     simp at this;omega
    have hmm : rest ∈ R':=Hmem2.out _ hrl (by omega)
    obtain ⟨q,hq,_,e2⟩:=Hplace.out _ hmm
    rw [e2,hdl,<- HRl'.out];exact hq) (hfx.mono (by omega)) hds2 (by omega) j6 (by have:=Htb.out;have:=Hb.out.size;omega) (by have:=Htb.out;omega)
  refine hh.mono ?_
  rintro e' w' ⟨he,hB',hch⟩
  refine ⟨he,⟨hch.blk j1 (by omega),hch.blk j2 (by omega),?_,hch.mp j5 (by omega),hch.tab j6 (by have:=Htb.out;have:=Hb.out.size;omega)⟩,hch⟩
  rw [putsTo_succ,putAll_append,hds,eP,face_put _ _ _ _ _ ha0]
  exact hB'
 have Hmade:=lid hmade;clear hmade
 go_wp2_with fail
 refine Hmade.out.mono ?_
 rintro e w4 ⟨rfl,⟨_,_,hB4,_,_⟩,hch⟩
 have hs:=Hsz3.out
 have hr4 : Blk w4 (w.heap.size + 1 + 1) 24 [.int .i64 0,.int .i64 0,.slice none 0 0]:=hch.blk Hr.out (by omega)
 have r0 : w4.cell? ⟨w.heap.size + 1 + 1,0,none⟩ = some (.int .i64 0):=hr4.cell 0
 have r1 : w4.cell? ⟨w.heap.size + 1 + 1,1,none⟩ = some (.int .i64 0):=hr4.cell 1
 have r2 : w4.cell? ⟨w.heap.size + 1 + 1,2,none⟩ = some (.slice none 0 0):=hr4.cell 2
 have fr0:=hr4.free 0;have fr1:=hr4.free 1;have fr2:=hr4.free 2
 have hfin : putAll f (List.replicate N 0) (putsTo P (keysL V1 (D : Int)).length) = colL R' (faceP R cs):=by
  rw [Hkl.out,<- HRl.out]
  have e : putsTo P R.length = faceP R cs:=by rw [<- hP];rfl
  rw [e,<- HRl'.out]
  exact putAll_zero R' Hnd.out f Hplace.out _ (by rw [<- e];exact putsTo_all P R.length R.length (Nat.le_refl _) hPr)
 rw [hfin] at hB4
 have HB4:=lid hB4;have Hch:=lid hch
 have Hbz:=lid (Hb.out.trans (Hch.out.below (by have:=Hb.out.size;omega) (fun b e=>by omega)))
 clear hB4 hch hr4 q0 q1 q2 j0 x0 x1 x2 x3 hs
 go_wp2
 refine bodyPost_ret (v:=.tuple #[.agg #[.int .i64 (U : Int),.int .i64 (D : Int),.slice (some ⟨bB,0,none⟩) N N],.int .i64 0]) (by simp [results,Tryz.results17,go_sem,r0,r1,r2]) rfl ⟨bB,rfl,?_,by omega,?_⟩
 . have:=((HB4.out.set_other ⟨w.heap.size + 1 + 1,0,none⟩ (by dsimp only;omega) (.int .i64 (U : Int))).set_other ⟨w.heap.size + 1 + 1,1,none⟩ (by dsimp only;omega) (.int .i64 (D : Int))).set_other ⟨w.heap.size + 1 + 1,2,none⟩ (by dsimp only;omega) (.slice (some ⟨bB,0,none⟩) N N)
   rw [hcs];exact this
 . exact (((Hbz.out.setCell (by dsimp only;omega) _).setCell (by dsimp only;omega) _).setCell (by dsimp only;omega) _)
end Go.Proofs.YtidjljldhdckiaaGreatDoor
namespace Go.Proofs.YtidjljldhdckiaaGreatDoor
theorem aw_half12 : halfL 2 1 1 2 ([0,4,8].map dI) = [0,4,6].map dI:=by decide +kernel
theorem aw_half21 : halfL 2 1 2 1 ([0,4,8].map dI) = [0,6,8].map dI:=by decide +kernel
theorem aw_lift : liftL 2 1 ([0,4,8].map dI) = [0,4,8,4,12,8].map dI:=by decide +kernel
theorem aw_face : faceL 1 1 ([0,4,8].map dI) = [4,8].map dI:=by decide +kernel
theorem aw_corner : cornTo 2 1 (rowsL 3 1) ([0,4,8].map dI) 3 = dI 8:=by decide +kernel
theorem cnt_21 : cnt 2 1 = 3:=by simp [cnt]
theorem cnt_22 : cnt 2 2 = 6:=by simp [cnt]
theorem cnt_11 : cnt 1 1 = 2:=by simp [cnt]
theorem dI_sm (n : Nat) (h : n < 4096) : Sm 12 (dI n):=by
 refine ⟨(n : Int) * 2 ^ 12,?_,?_⟩
 . unfold dI
   rw [<- owp_shift (n : Int) 12 0];rfl
 . have : ((n : Int) * 2 ^ 12).natAbs = n * 4096:=by
    rw [Int.natAbs_mul];rfl
   rw [this]
   have : (2 : Nat) ^ (2 * 12) = 16777216:=by rfl
   omega
theorem aw_fit : ∀ x ∈ (([0,4,8].map dI).map canon),Fit 12 x:=by
 intro x hx
 simp only [List.map_cons,List.map_nil,List.mem_cons,List.not_mem_nil,or_false] at hx
 rcases hx with rfl | rfl | rfl<;>exact (dI_sm _ (by decide)).fit (by decide)
theorem chk_21 : chk 2 1 3 = 0:=by unfold chk;simp [show (2 : Int).toNat = 2 from rfl,show (1 : Int).toNat = 1 from rfl,cnt_21]
end Go.Proofs.YtidjljldhdckiaaGreatDoor
namespace Go.Proofs.YtidjljldhdckiaaGreatDoor
open Go.RowKit
abbrev aw (ns : List Nat) : List Value:=dC (ns.map dI)
theorem aw_of (V D : Int) (b : Nat) (ns : List Nat) (cs : List Value) (hcs : (ns.map fun (n : Nat)=>Value.int .i64 (n : Int)) = cs) (N : Nat) (hN : ns.length = N) (hl : N <= 1000) (hn : ∀ n ∈ ns,n <= 1000000) (w : World) (h : Blk w b 2 cs) :
 Calls Tryz.prog 16 #[.int .i64 V,.int .i64 D,.slice (some ⟨b,0,none⟩) N N] w fun e w'=>∃ a2 cap2,e = .returned (.agg #[.int .i64 V,.int .i64 D,.slice a2 N cap2]) /\ At w' a2 (aw ns) /\ Below w.heap.size w w':=
 of_law V D _ ns N N w hN hl hn (by rw [hcs];exact At.of_blk h)
theorem aw_at {w : World} {a : Option Addr} {ns : List Nat} (h : At w a (aw ns)) : At w a (((ns.map dI).map canon).flatMap numC):=by rw [<- dC_raws];exact h
theorem aw_split (a : Option Addr) (cap : Nat) (w : World) (ha : At w a (aw [0,4,8])) (hT : Tab w) :
 Calls Tryz.prog 7 #[.agg #[.int .i64 2,.int .i64 1,.slice a 3 cap],.int .i64 1,.int .i64 2] w fun e w'=>∃ r s,
  e = .returned (.tuple #[.agg #[.int .i64 2,.int .i64 1,.slice (some ⟨r,0,none⟩) 3 3],.agg #[.int .i64 2,.int .i64 1,.slice (some ⟨s,0,none⟩) 3 3],.int .i64 0]) /\
   At w' (some ⟨r,0,none⟩) (aw [0,4,6]) /\ At w' (some ⟨s,0,none⟩) (aw [0,6,8]) /\ Below w.heap.size w w':=by
 have h:=split_ok 2 1 a cap (([0,4,8].map dI).map canon) 1 2 12 w chk_21 (by decide) (by decide) (by decide) aw_fit (by decide) (aw_at ha) hT
 rw [dval_raws,aw_half12,aw_half21] at h
 exact h.mono (fun e w' ⟨r,s,he,hr,hs,_,_,hb⟩=>⟨r,s,he,At.of_blk hr,At.of_blk hs,hb⟩)
theorem aw_bad (a : Option Addr) (cap : Nat) (j : Int) (hj : j = 0 \/ j = 3) (w : World) :
 Calls Tryz.prog 7 #[.agg #[.int .i64 2,.int .i64 1,.slice a 3 cap],.int .i64 0,.int .i64 j] w fun e w'=>e = .returned (.tuple #[sf0,sf0,.int .i64 1]) /\ Below w.heap.size w w':=
 split_arg 2 1 a 3 cap 0 j w chk_21 (by omega)
theorem aw_lifts (a : Option Addr) (cap : Nat) (w : World) (ha : At w a (aw [0,4,8])) (hT : Tab w) :
 Calls Tryz.prog 8 #[.agg #[.int .i64 2,.int .i64 1,.slice a 3 cap]] w fun e w'=>∃ r,
  e = .returned (.tuple #[.agg #[.int .i64 2,.int .i64 2,.slice (some ⟨r,0,none⟩) 6 6],.int .i64 0]) /\ At w' (some ⟨r,0,none⟩) (aw [0,4,8,4,12,8]) /\ Below w.heap.size w w':=by
 have h:=lift_ok 2 1 a cap (([0,4,8].map dI).map canon) 12 w chk_21 (by decide) (by rw [show cnt 2 (1 + 1) = 6 from cnt_22];decide) aw_fit (by decide) (aw_at ha) hT
 rw [dval_raws,aw_lift,show cnt 2 (1 + 1) = 6 from cnt_22] at h
 exact h.mono (fun e w' ⟨r,he,hr,_,hb⟩=>⟨r,he,At.of_blk hr,hb⟩)
theorem aw_faces (a : Option Addr) (cap : Nat) (w : World) (ha : At w a (aw [0,4,8])) (hT : Tab w) :
 Calls Tryz.prog 17 #[.agg #[.int .i64 2,.int .i64 1,.slice a 3 cap],.int .i64 0] w fun e w'=>∃ r,
  e = .returned (.tuple #[.agg #[.int .i64 1,.int .i64 1,.slice (some ⟨r,0,none⟩) 2 2],.int .i64 0]) /\ At w' (some ⟨r,0,none⟩) (aw [4,8]) /\ Below w.heap.size w w':=by
 have h:=face_ok 1 1 a cap (([0,4,8].map dI).map canon) 12 w chk_21 (by decide) (by rw [cnt_11];decide) aw_fit (by decide) (aw_at ha) hT
 rw [dval_raws,aw_face,cnt_11] at h
 exact h.mono (fun e w' ⟨r,he,hr,_,hb⟩=>⟨r,he,At.of_blk hr,hb⟩)
theorem aw_corners (a : Option Addr) (cap : Nat) (w : World) (ha : At w a (aw [0,4,8])) (hT : Tab w) :
 Calls Tryz.prog 10 #[.agg #[.int .i64 2,.int .i64 1,.slice a 3 cap],.int .i64 2] w fun e w'=>e = .returned (.tuple #[numV (dI 8),.int .i64 0]) /\ Below w.heap.size w w':=by
 have h:=corner_ok 2 1 a cap (([0,4,8].map dI).map canon) 2 w chk_21 (by decide) (fun x hx=>(aw_fit x hx).1) (aw_at ha) hT
 rw [dval_raws] at h
 have e : cornTo 2 1 (rowsL (2 + 1) 1) ([0,4,8].map dI) (([0,4,8].map dI).map canon).length = dI 8:=aw_corner
 rw [e] at h
 exact h
theorem aw_num (w : World) : Calls Tryz.prog 18 #[.int .i64 8] w fun e w'=>e = .returned (numV (dI 8)) /\ Below w.heap.size w w':=num_any 8 w (by decide)
theorem aw_same (ns : List Nat) (V D : Int) (a a' : Option Addr) (N cap cap' : Nat) (w : World) (hN : ns.length = N) (hl : N <= 1000) (ha : At w a (aw ns)) (ha' : At w a' (aw ns)) :
 Calls Tryz.prog 9 #[.agg #[.int .i64 V,.int .i64 D,.slice a N cap],.agg #[.int .i64 V,.int .i64 D,.slice a' N cap']] w fun e w'=>e = .returned (.bool true) /\ Below w.heap.size w w':=
 same_true V D a a' N cap cap' _ w (by simp only [List.length_map];exact hN) (by omega) (aw_at ha) (aw_at ha')
theorem delta_sm {B : Nat} {c : Dyadic} (h : Sm B c) (r x : List Nat) : Sm B (c * delta r x):=by
 unfold delta
 split
 . rw [Dyadic.mul_one];exact h
 . rw [Dyadic.mul_zero];exact Sm.zero B
theorem coef_sm {B : Nat} (r : List Nat) (ps : Puts) (h : ∀ p ∈ ps,Sm B p.2) : Sm (B + ps.length) (coef ps r):=by
 unfold coef
 induction ps with
 | nil=>exact Sm.zero _
 | cons p ps ih =>
   have h1:=ih (fun q hq=>h q (by simp [hq]))
   have h2:=delta_sm (h p (by simp)) r p.1
   have h3:=Sm.add (h2.mono (show B <= B + ps.length by omega)) h1
   rw [List.length_cons,<- Nat.add_assoc]
   exact h3
theorem colL_sm {B C : Nat} (R : List (List Nat)) (ps : Puts) (h : ∀ p ∈ ps,Sm B p.2) (hC : B + ps.length <= C) : ∀ d ∈ colL R ps,Sm C d:=by
 intro d hd
 unfold colL at hd
 rw [List.mem_map] at hd
 obtain ⟨r,_,rfl⟩:=hd
 exact (coef_sm r ps h).mono hC
theorem zip_sm {B : Nat} {cs ds : List Dyadic} (h : ∀ c ∈ cs,Sm B c) (h' : ∀ c ∈ ds,Sm B c) : ∀ c ∈ List.zipWith (· + ·) cs ds,Sm (B + 1) c:=by
 intro c hc
 rw [List.mem_iff_getElem] at hc
 obtain ⟨k,hk,rfl⟩:=hc
 rw [List.length_zipWith] at hk
 rw [List.getElem_zipWith]
 exact Sm.add (h _ (List.getElem_mem (by omega))) (h' _ (List.getElem_mem (by omega)))
theorem halfL_len (V D i j : Nat) (cs : List Dyadic) : (halfL V D i j cs).length = cnt V D:=by unfold halfL;rw [colL_length,rowsL_count]
theorem canon_fit {B : Nat} {cs : List Dyadic} (h : ∀ c ∈ cs,Sm B c) (hB : B <= 268435456) : ∀ x ∈ cs.map canon,Fit B x:=by
 intro x hx
 rw [List.mem_map] at hx
 obtain ⟨c,hc,rfl⟩:=hx
 exact (h c hc).fit hB
theorem split_raw (V D : Nat) (v d : Int) (hv : (V : Int) = v) (hd : (D : Int) = d) (a : Option Addr) (cap N : Nat) (raws : List Raw) (hN : raws.length = N) (cs : List Dyadic) (hcs : raws.map dval = cs) (I J : Nat) (i j : Int) (hI : (I : Int) = i) (hJ : (J : Int) = j) (B : Nat) (w : World) (hc : chk v d N = 0) (hi : I <= V) (hj : J <= V) (hij : I ≠ J)
 (hfit : ∀ x ∈ raws,Fit B x) (hBB : B <= 1000000) (ha : At w a (raws.flatMap numC)) (hT : Tab w) :
 Calls Tryz.prog 7 #[.agg #[.int .i64 v,.int .i64 d,.slice a N cap],.int .i64 i,.int .i64 j] w fun e w'=>∃ r s,
  e = .returned (.tuple #[.agg #[.int .i64 v,.int .i64 d,.slice (some ⟨r,0,none⟩) N N],.agg #[.int .i64 v,.int .i64 d,.slice (some ⟨s,0,none⟩) N N],.int .i64 0]) /\
   At w' (some ⟨r,0,none⟩) (dC (halfL V D I J cs)) /\ At w' (some ⟨s,0,none⟩) (dC (halfL V D J I cs)) /\ Below w.heap.size w w':=by
 subst hv hd hN hcs hI hJ
 exact (split_ok V D a cap raws I J B w hc hi hj hij hfit hBB ha hT).mono (fun e w' ⟨r,s,he,hr,hs,_,_,hb⟩=>⟨r,s,he,At.of_blk hr,At.of_blk hs,hb⟩)
theorem split_dy (V D : Nat) (v d : Int) (hv : (V : Int) = v) (hd : (D : Int) = d) (a : Option Addr) (cap N : Nat) (cs : List Dyadic) (hN : cs.length = N) (I J : Nat) (i j : Int) (hI : (I : Int) = i) (hJ : (J : Int) = j) (B : Nat) (w : World) (hc : chk v d N = 0) (hi : I <= V) (hj : J <= V) (hij : I ≠ J)
 (hs : ∀ c ∈ cs,Sm B c) (hBB : B <= 1000000) (ha : At w a (dC cs)) (hT : Tab w) :
 Calls Tryz.prog 7 #[.agg #[.int .i64 v,.int .i64 d,.slice a N cap],.int .i64 i,.int .i64 j] w fun e w'=>∃ r s,
  e = .returned (.tuple #[.agg #[.int .i64 v,.int .i64 d,.slice (some ⟨r,0,none⟩) N N],.agg #[.int .i64 v,.int .i64 d,.slice (some ⟨s,0,none⟩) N N],.int .i64 0]) /\
   At w' (some ⟨r,0,none⟩) (dC (halfL V D I J cs)) /\ At w' (some ⟨s,0,none⟩) (dC (halfL V D J I cs)) /\ Below w.heap.size w w':=
 split_raw V D v d hv hd a cap N (cs.map canon) (by rw [List.length_map];exact hN) cs (dval_raws cs) I J i j hI hJ B w hc hi hj hij (canon_fit hs (by omega)) hBB (by rw [<- dC_raws];exact ha) hT
theorem same_dy (v d : Int) (a a' : Option Addr) (N cap cap' : Nat) (cs cs' : List Dyadic) (he : cs = cs') (w : World) (hN : cs.length = N) (hl : N <= 1048576) (ha : At w a (dC cs)) (ha' : At w a' (dC cs')) :
 Calls Tryz.prog 9 #[.agg #[.int .i64 v,.int .i64 d,.slice a N cap],.agg #[.int .i64 v,.int .i64 d,.slice a' N cap']] w fun e w'=>e = .returned (.bool true) /\ Below w.heap.size w w':=by
 subst he
 exact same_true v d a a' N cap cap' (cs.map canon) w (by rw [List.length_map];exact hN) hl (by rw [<- dC_raws];exact ha) (by rw [<- dC_raws];exact ha')
theorem Fair.fit {d : Int} {raws : List Raw} (h : Fair d raws) : ∀ x ∈ raws,Fit 192 x:=by
 intro x hx
 obtain ⟨h1,h2,h3⟩:=h.2.2 x hx
 exact ⟨⟨by omega,by omega,by omega⟩,Sm.raw (B:=96) (by omega) (by omega) (by omega)⟩
theorem order_add (V D I J : Nat) (cs cs' : List Dyadic) (hl : cs.length = cs'.length) : halfL V D I J (List.zipWith (· + ·) cs cs') = List.zipWith (· + ·) (halfL V D I J cs) (halfL V D I J cs'):=by
 unfold halfL
 exact split_add I J _ cs cs' hl
end Go.Proofs.YtidjljldhdckiaaGreatDoor
namespace Go.Proofs.YtidjljldhdckiaaGreatDoor
def timesL (V D : Nat) (cs l : List Dyadic) : List Dyadic:=colL (rowsL (V + 1) (D + 1)) (timesP (rowsL (V + 1) D) cs fun k=>l.getD k 0)
theorem timesL_len (V D : Nat) (cs l : List Dyadic) : (timesL V D cs l).length = cnt V (D + 1):=by unfold timesL;rw [colL_length,rowsL_count]
theorem timesR_len (x : List Nat) (c : Dyadic) (l : Nat -> Dyadic) : (timesR x c l).length = x.length:=by simp [timesR]
theorem timesL_sm {A B V D : Nat} {cs l : List Dyadic} (h : ∀ c ∈ cs,Sm A c) (h' : ∀ c ∈ l,Sm B c) (hV : V <= 8) (hc : cnt V D <= 512) : ∀ d ∈ timesL V D cs l,Sm (A + B + 4608) d:=by
 have hRl : (rowsL (V + 1) D).length = cnt V D:=rowsL_count V D
 have hm : ∀ x ∈ rowsL (V + 1) D,x.length = V + 1:=fun x hx=>((mem_rowsL V D x).1 hx).1
 unfold timesL
 generalize rowsL (V + 1) D = R at *
 have e : timesP R cs (fun k=>l.getD k 0) = putsTo (fun k=>timesR (R.getD k []) (cs.getD k 0) fun k=>l.getD k 0) R.length:=rfl
 have hs : ∀ k,k < R.length -> (R.getD k []).length = V + 1:=fun k hk=>by
  have : R.getD k [] = R[k]:=by simp [hk]
  rw [this];exact hm _ (List.getElem_mem hk)
 have hl:=putsTo_len (fun k=>timesR (R.getD k []) (cs.getD k 0) fun k=>l.getD k 0) 9 R.length R.length (Nat.le_refl _) (fun k hk=>by
  rw [timesR_len,hs k hk];omega)
 refine colL_sm (B:=A + B) _ _ ?_ ?_
 . rw [e]
   refine putsTo_all _ R.length R.length (Nat.le_refl _) (fun k hk p hp=>?_)
   unfold timesR at hp
   rw [List.mem_map] at hp
   obtain ⟨t,_,rfl⟩:=hp
   exact Sm.mul (getD_sm h k) (getD_sm h' t)
 . rw [e];omega
def growL (V : Nat) : Nat -> List Dyadic -> List (List Dyadic) -> List Dyadic
 | _,cs,[]=>cs
 | D,cs,l :: ls=>growL V (D + 1) (timesL V D cs l) ls
theorem growL_append (V D : Nat) (cs : List Dyadic) (ls ms : List (List Dyadic)) : growL V D cs (ls ++ ms) = growL V (D + ls.length) (growL V D cs ls) ms:=by
 induction ls generalizing D cs with
 | nil=>rfl
 | cons l ls ih =>
   rw [List.cons_append,growL,growL,ih,List.length_cons]
   rw [show D + 1 + ls.length = D + (ls.length + 1) by omega]
theorem growL_snoc (V D : Nat) (cs : List Dyadic) (ls : List (List Dyadic)) (l : List Dyadic) : growL V D cs (ls ++ [l]) = timesL V (D + ls.length) (growL V D cs ls) l:=by
 rw [growL_append];rfl
theorem growL_len (V D : Nat) (cs : List Dyadic) (ls : List (List Dyadic)) (h : cs.length = cnt V D) : (growL V D cs ls).length = cnt V (D + ls.length):=by
 induction ls generalizing D cs with
 | nil=>exact h
 | cons l ls ih =>
   rw [growL,ih _ _ (timesL_len V D cs l),List.length_cons]
   rw [show D + 1 + ls.length = D + (ls.length + 1) by omega]
theorem growL_sm {A B V D : Nat} {cs : List Dyadic} (ls : List (List Dyadic)) (h : ∀ c ∈ cs,Sm A c) (h' : ∀ l ∈ ls,∀ c ∈ l,Sm B c) (hV : V <= 8) (hc : ∀ d,d < D + ls.length -> cnt V d <= 512) : ∀ d ∈ growL V D cs ls,Sm (A + ls.length * (B + 4608)) d:=by
 induction ls generalizing D cs A with
 | nil=>simpa [growL] using h
 | cons l ls ih =>
   have h1:=timesL_sm (V:=V) (D:=D) h (h' l (by simp)) hV (hc D (by simp))
   have h2:=ih (D:=D + 1) h1 (fun m hm=>h' m (by simp [hm])) (fun d hd=>hc d (by rw [List.length_cons];omega))
   intro d hd
   refine (h2 d hd).mono ?_
   rw [List.length_cons,Nat.succ_mul];omega
def midS (i j : Nat) (l : List Dyadic) : List Dyadic:=l.set j ((l.getD i 0 + l.getD j 0) * hp 1)
theorem midS_j {i j : Nat} {l : List Dyadic} (h : j < l.length) : (midS i j l).getD j 0 + (midS i j l).getD j 0 = l.getD i 0 + l.getD j 0:=by
 have e : (midS i j l).getD j 0 = (l.getD i 0 + l.getD j 0) * hp 1:=by
  unfold midS
  rw [List.getD_eq_getElem?_getD,List.getElem?_set_self h];rfl
 rw [e]
 have:=hp_two
 generalize l.getD i 0 + l.getD j 0 = x
 have e2 : x * hp 1 + x * hp 1 = x * (hp 1 + hp 1):=by grind
 rw [e2,this];grind
theorem midS_ne {i j k : Nat} {l : List Dyadic} (h : k ≠ j) : (midS i j l).getD k 0 = l.getD k 0:=by
 unfold midS
 rw [List.getD_eq_getElem?_getD,List.getElem?_set_ne (fun e=>h e.symm),<- List.getD_eq_getElem?_getD]
theorem half_times (V D i j : Nat) (cs l : List Dyadic) (hij : i ≠ j) (hi : i <= V) (hj : j <= V) (hl : l.length = V + 1) : halfL V (D + 1) i j (timesL V D cs l) = timesL V D (halfL V D i j cs) (midS i j l):=by
 unfold halfL timesL
 refine split_times i j (V + 1) (rowsL (V + 1) D) (rowsL (V + 1) (D + 1)) cs _ _ hij (by omega) (by omega) (rowsL_nodup V D) (rowsL_nodup V (D + 1)) (fun x hx=>((mem_rowsL V D x).1 hx).1) (fun x hx k hk=>?_) (fun x hx t ht=>?_) (fun k hk=>midS_ne hk) (midS_j (by omega))
 . obtain ⟨h1,h2⟩:=(mem_rowsL V D x).1 hx
   exact (mem_rowsL V (D + 1) _).2 ⟨by rw [inc_length];exact h1,by rw [inc_sum _ _ (by omega)];omega⟩
 . obtain ⟨h1,h2⟩:=(mem_rowsL V D x).1 hx
   exact (mem_rowsL V D _).2 ⟨by rw [mv_length];exact h1,by rw [mv_sum _ _ _ _ hij (by omega) (by omega) ht];exact h2⟩
theorem half_grow (V i j : Nat) (hij : i ≠ j) (hi : i <= V) (hj : j <= V) (ls : List (List Dyadic)) (hl : ∀ l ∈ ls,l.length = V + 1) (D : Nat) (cs : List Dyadic) : halfL V (D + ls.length) i j (growL V D cs ls) = growL V D (halfL V D i j cs) (ls.map (midS i j)):=by
 induction ls generalizing D cs with
 | nil=>rfl
 | cons l ls ih =>
   rw [growL,List.map_cons,growL,List.length_cons,show D + (ls.length + 1) = D + 1 + ls.length by omega,ih (fun m hm=>hl m (by simp [hm])),half_times V D i j cs l hij hi hj (hl l (by simp))]
theorem rowsL_zero (V : Nat) : rowsL (V + 1) 0 = [List.replicate (V + 1) 0]:=by
 have h1 : (rowsL (V + 1) 0).length = 1:=by rw [rowsL_count,cnt_nought]
 obtain ⟨x,hx⟩ : ∃ x,rowsL (V + 1) 0 = [x]:=List.length_eq_one_iff.1 h1
 have hm:=(mem_rowsL V 0 x).1 (by rw [hx];simp)
 rw [hx]
 congr 1
 refine List.eq_replicate_iff.2 ⟨hm.1,fun a ha=>?_⟩
 have:=mem_le_sum ha
 omega
theorem half_base (V i j : Nat) (c : Dyadic) : halfL V 0 i j [c] = [c]:=by
 unfold halfL
 rw [rowsL_zero]
 obtain ⟨z,hz⟩ : ∃ z,List.replicate (V + 1) 0 = z:=⟨_,rfl⟩
 have z0 : ∀ k,z.getD k 0 = 0:=fun k=>by
  rw [<- hz,List.getD_eq_getElem?_getD,List.getElem?_replicate];split<;>rfl
 rw [hz]
 have hmv : mv z i j 0 = z:=by
  unfold mv
  rw [z0 i,z0 j,<- hz]
  simp
 have e : halfP i j [z] [c] = [(z,c * chD 0 0 * hp 0)]:=by
  show (List.range 1).flatMap _ = _
  rw [show List.range 1 = [0] from rfl]
  simp only [List.flatMap_cons,List.flatMap_nil,List.append_nil,List.getD_cons_zero]
  unfold halfR
  rw [z0 i,z0 j,show List.range (0 + 1) = [0] from rfl]
  simp only [List.map_cons,List.map_nil,hmv,Nat.add_zero]
 rw [e]
 unfold colL coef
 simp only [List.map_cons,List.map_nil,pairE,delta,if_pos,chD_zero,hp_zero]
 congr 1
 grind
def colS (S : List (List Dyadic)) (k : Nat) : List Dyadic:=S.map fun r=>r.getD k 0
def sharesN (S : List (List Dyadic)) (es : List Nat) (n : Nat) : List (List Dyadic):=(List.range n).flatMap fun k=>List.replicate (es.getD k 0) (colS S k)
def onesL (V : Nat) : List Dyadic:=List.replicate (V + 1) 1
def formT (V D : Nat) (S : List (List Dyadic)) (c : Dyadic) (es : List Nat) : List Dyadic:=growL V 0 [c] (sharesN S es es.length ++ List.replicate (D - es.sum) (onesL V))
def formP (V D : Nat) (S : List (List Dyadic)) (ts : List (Dyadic × List Nat)) : List Dyadic:=ts.foldl (fun s t=>List.zipWith (· + ·) s (formT V D S t.1 t.2)) (List.replicate (cnt V D) 0)
theorem sharesN_succ (S : List (List Dyadic)) (es : List Nat) (n : Nat) : sharesN S es (n + 1) = sharesN S es n ++ List.replicate (es.getD n 0) (colS S n):=by
 unfold sharesN
 rw [List.range_succ,List.flatMap_append];simp
theorem sharesN_len (S : List (List Dyadic)) (es : List Nat) (n : Nat) (h : n <= es.length) : (sharesN S es n).length = (es.take n).sum:=by
 induction n with
 | zero=>rfl
 | succ n ih =>
   rw [sharesN_succ,List.length_append,ih (by omega),List.take_succ_eq_append_getElem (by omega),List.sum_append,List.length_replicate]
   have : es.getD n 0 = es[n]:=by simp [show n < es.length by omega]
   rw [this];simp
theorem shares_len (V D : Nat) (S : List (List Dyadic)) (es : List Nat) (h : es.sum <= D) : (sharesN S es es.length ++ List.replicate (D - es.sum) (onesL V)).length = D:=by
 rw [List.length_append,sharesN_len _ _ _ (Nat.le_refl _),List.take_length,List.length_replicate];omega
theorem shares_all {P : List Dyadic -> Prop} (V D : Nat) (S : List (List Dyadic)) (es : List Nat) (h1 : ∀ k,k < es.length -> P (colS S k)) (h2 : P (onesL V)) : ∀ l ∈ sharesN S es es.length ++ List.replicate (D - es.sum) (onesL V),P l:=by
 intro l hl
 rw [List.mem_append] at hl
 rcases hl with hl | hl
 . unfold sharesN at hl
   rw [List.mem_flatMap] at hl
   obtain ⟨k,hk,hl⟩:=hl
   rw [List.mem_range] at hk
   rw [(List.mem_replicate.1 hl).2]
   exact h1 k hk
 . rw [(List.mem_replicate.1 hl).2];exact h2
theorem formT_len (V D : Nat) (S : List (List Dyadic)) (c : Dyadic) (es : List Nat) (h : es.sum <= D) : (formT V D S c es).length = cnt V D:=by
 unfold formT
 rw [growL_len _ _ _ _ (by rw [cnt_nought];rfl),shares_len _ _ _ _ h,Nat.zero_add]
theorem mid_ones (V i j : Nat) (hi : i <= V) (hj : j <= V) : midS i j (onesL V) = onesL V:=by
 unfold midS onesL
 have e : ∀ k,k <= V -> (List.replicate (V + 1) (1 : Dyadic)).getD k 0 = 1:=fun k hk=>by
  rw [List.getD_eq_getElem?_getD,List.getElem?_replicate,if_pos (by omega)];rfl
 rw [e i hi,e j hj]
 have h1 : ((1 : Dyadic) + 1) * hp 1 = 1:=by have:=hp_two;grind
 rw [h1]
 simp
theorem mid_cols (i j k : Nat) (S : List (List Dyadic)) (m : List Dyadic) (hi : i < S.length) (hj : j < S.length) (hm : m.getD k 0 = ((S.getD i []).getD k 0 + (S.getD j []).getD k 0) * hp 1) : midS i j (colS S k) = colS (S.set j m) k:=by
 unfold midS colS
 have e : ∀ a,a < S.length -> (S.map fun r=>r.getD k 0).getD a 0 = (S.getD a []).getD k 0:=fun a ha=>by simp [List.getD_eq_getElem?_getD,ha]
 rw [e i hi,e j hj,<- hm,List.map_set]
theorem half_form (V D i j : Nat) (S : List (List Dyadic)) (m : List Dyadic) (ts : List (Dyadic × List Nat)) (hij : i ≠ j) (hi : i <= V) (hj : j <= V) (hS : S.length = V + 1) (ht : ∀ t ∈ ts,t.2.length = V /\ t.2.sum <= D)
 (hm : ∀ k,k < V -> m.getD k 0 = ((S.getD i []).getD k 0 + (S.getD j []).getD k 0) * hp 1) : halfL V D i j (formP V D S ts) = formP V D (S.set j m) ts:=by
 have hT : ∀ t ∈ ts,halfL V D i j (formT V D S t.1 t.2) = formT V D (S.set j m) t.1 t.2:=by
  intro t h
  obtain ⟨h1,h2⟩:=ht t h
  have hg:=half_grow V i j hij hi hj (sharesN S t.2 t.2.length ++ List.replicate (D - t.2.sum) (onesL V)) (shares_all (P:=fun l=>l.length = V + 1) V D S t.2 (fun k _=>by simp [colS,hS]) (by simp [onesL])) 0 [t.1]
  rw [shares_len _ _ _ _ h2,Nat.zero_add,half_base] at hg
  unfold formT
  rw [hg]
  congr 1
  rw [List.map_append,List.map_replicate,mid_ones V i j hi hj]
  congr 1
  unfold sharesN
  rw [List.map_flatMap]
  have e2 : ∀ k,k < t.2.length -> (List.replicate (t.2.getD k 0) (colS S k)).map (midS i j) = List.replicate (t.2.getD k 0) (colS (S.set j m) k):=fun k hk=>by
   rw [List.map_replicate,mid_cols i j k S m (by omega) (by omega) (hm k (by omega))]
  generalize t.2.length = n at *
  clear h1 hg
  induction n with
  | zero=>rfl
  | succ n ih=>rw [List.range_succ,List.flatMap_append,List.flatMap_append,ih (fun k hk=>e2 k (by omega))];simp only [List.flatMap_cons,List.flatMap_nil,List.append_nil,e2 n (by omega)]
 have hz : halfL V D i j (List.replicate (cnt V D) 0) = List.replicate (cnt V D) 0:=by
  have h1:=order_add V D i j (List.replicate (cnt V D) 0) (List.replicate (cnt V D) 0) rfl
  have h0 : List.zipWith (· + ·) (List.replicate (cnt V D) (0 : Dyadic)) (List.replicate (cnt V D) 0) = List.replicate (cnt V D) 0:=by
   rw [List.zipWith_replicate']
   congr 1
  rw [h0] at h1
  refine List.eq_replicate_iff.2 ⟨halfL_len _ _ _ _ _,fun b hb=>?_⟩
  obtain ⟨q,hq,rfl⟩:=List.mem_iff_getElem.1 hb
  have h2 : (halfL V D i j (List.replicate (cnt V D) 0))[q]? = (List.zipWith (· + ·) (halfL V D i j (List.replicate (cnt V D) 0)) (halfL V D i j (List.replicate (cnt V D) 0)))[q]?:=by rw [<- h1]
  rw [List.getElem?_zipWith,List.getElem?_eq_getElem hq] at h2
  simp only [Option.some.injEq] at h2
  generalize (halfL V D i j (List.replicate (cnt V D) 0))[q] = y at *
  grind
 unfold formP
 have key : ∀ (ts : List (Dyadic × List Nat)) (a b : List Dyadic),(∀ t ∈ ts,t.2.sum <= D /\ halfL V D i j (formT V D S t.1 t.2) = formT V D (S.set j m) t.1 t.2) -> a.length = cnt V D -> halfL V D i j a = b ->
  halfL V D i j (ts.foldl (fun s t=>List.zipWith (· + ·) s (formT V D S t.1 t.2)) a) = ts.foldl (fun s t=>List.zipWith (· + ·) s (formT V D (S.set j m) t.1 t.2)) b:=by
  intro ts
  induction ts with
  | nil=>intro a b _ _ h;exact h
  | cons t ts ih =>
    intro a b h hl hab
    obtain ⟨h1,h2⟩:=h t (by simp)
    have hf:=formT_len V D S t.1 t.2 h1
    rw [List.foldl_cons,List.foldl_cons]
    refine ih _ _ (fun u hu=>h u (by simp [hu])) (by rw [List.length_zipWith,hl,hf];exact Nat.min_self _) ?_
    rw [order_add V D i j _ _ (by rw [hl,hf]),hab,h2]
 exact key ts _ _ (fun t h=>⟨(ht t h).2,hT t h⟩) (by simp) hz
theorem formT_sm {A B V D : Nat} {S : List (List Dyadic)} {c : Dyadic} {es : List Nat} (hc : Sm A c) (hS : ∀ r ∈ S,∀ d ∈ r,Sm B d) (hB : 1 <= B) (hV : V <= 8) (h : es.sum <= D) (h5 : ∀ d,d < D -> cnt V d <= 512) : ∀ d ∈ formT V D S c es,Sm (A + D * (B + 4608)) d:=by
 have hg:=growL_sm (A:=A) (B:=B) (V:=V) (D:=0) (cs:=[c]) (sharesN S es es.length ++ List.replicate (D - es.sum) (onesL V)) (by simpa using hc) (shares_all (P:=fun l=>∀ c ∈ l,Sm B c) V D S es (fun k _=>by
  intro c hc
  unfold colS at hc
  obtain ⟨r,hr,rfl⟩:=List.mem_map.1 hc
  exact getD_sm (hS r hr) k) (by
  intro c hc
  rw [(List.mem_replicate.1 hc).2]
  exact Sm.mono (A:=1) ⟨2,by decide,by decide⟩ hB)) hV (by rw [shares_len _ _ _ _ h,Nat.zero_add];exact h5)
 rw [shares_len _ _ _ _ h] at hg
 exact hg
end Go.Proofs.YtidjljldhdckiaaGreatDoor
namespace Go.Proofs.YtidjljldhdckiaaGreatDoor
open Go.RowKit
attribute [local go_sem ↓] Go.wp_at_zero Go.wp_at_succ
theorem awake_any (w : World) (hT : Tab w) : Calls Tryz.prog 6 #[] w fun e w'=>e = .returned (.bool true) /\ Below w.heap.size w w':=by
 have HT0:=lid hT;clear hT
 have Hb : Hid (Below w.heap.size w w):=Below.refl _ _
 go_enter Tryz.func6,Tryz.ntmps6
 go_wp2_with fail
 obtain ⟨R,hR⟩ : ∃ R : World -> Prop,(fun W=>Blk W (w.heap.size) 2 [.int .i64 0,.int .i64 4,.int .i64 8] /\ Below w.heap.size w W) = R:=⟨_,rfl⟩
 first | refine wp_world R ?hR ?_ | refine calls_world R ?hR ?_
 case hR=>subst hR;exact ⟨(Blk.newAt w _ _ (b:=w.heap.size) rfl),((Below.refl _ _).alloc (Nat.le_refl _) _)⟩
 subst hR
 rintro W ⟨qs0,hbn⟩
 have Hs0:=lid qs0;clear qs0
 obtain ⟨s00,s01,s02⟩:=Hs0.out.c3
 replace Hb:=bnx Hb hbn;clear hbn
 go_wp2_with fail
 refine (aw_of 2 1 _ [0,4,8] _ rfl 3 rfl (by decide) (by decide) _ Hs0.out).mono ?_
 rintro e w1 ⟨a0,cap0,rfl,hat,hbn⟩
 clear s00 s01 s02
 replace Hs0:=kB Hs0 hbn
 obtain ⟨s00,s01,s02⟩:=Hs0.out.c3
 replace Hb:=bnx Hb hbn;clear hbn
 clear s00 s01 s02
 clear Hs0
 have HA : Hid (At w1 a0 (aw [0,4,8])):=hat
 clear hat
 have HT : Hid (Tab w1):=HT0.out.below Hb.out
 go_wp2_with fail
 obtain ⟨R,hR⟩ : ∃ R : World -> Prop,(fun W1=>Blk W1 (w1.heap.size) 24 [.int .i64 2,.int .i64 1,.slice a0 3 cap0] /\ Below w1.heap.size w1 W1) = R:=⟨_,rfl⟩
 first | refine wp_world R ?hR ?_ | refine calls_world R ?hR ?_
 case hR=>subst hR;exact ⟨(Blk.newAt w1 _ _ (b:=w1.heap.size) rfl),((Below.refl _ _).alloc (Nat.le_refl _) _)⟩
 subst hR
 rintro W1 ⟨qf,hbn⟩
 have Hf:=lid qf;clear qf
 replace HA:=kA HA hbn
 replace HT:=kT HT hbn
 obtain ⟨f0,f1,f2⟩:=Hf.out.c3
 replace Hb:=bnx Hb hbn;clear hbn
 go_wp2_with fail
 refine (aw_split a0 cap0 _ HA.out HT.out).mono ?_
 rintro e w2 ⟨r,s,rfl,hat,hat2,hbn⟩
 clear f0 f1 f2
 replace HA:=kA HA hbn
 replace HT:=kT HT hbn
 replace Hf:=kB Hf hbn
 obtain ⟨f0,f1,f2⟩:=Hf.out.c3
 replace Hb:=bnx Hb hbn;clear hbn
 have HA1 : Hid (At w2 (some ⟨r,0,none⟩) (aw [0,4,6])):=hat
 have HA2 : Hid (At w2 (some ⟨s,0,none⟩) (aw [0,6,8])):=hat2
 clear hat hat2
 have lz_f_W2:=Hf.out.lt
 go_wp2_with fail
 obtain ⟨R,hR⟩ : ∃ R : World -> Prop,(fun W2=>Blk W2 (w2.heap.size) 24 [.int .i64 2,.int .i64 1,.slice (some ⟨r,0,none⟩) 3 3] /\ Blk W2 (w2.heap.size + 1) 24 [.int .i64 2,.int .i64 1,.slice (some ⟨s,0,none⟩) 3 3] /\ Below w2.heap.size w2 W2) = R:=⟨_,rfl⟩
 first | refine wp_world R ?hR ?_ | refine calls_world R ?hR ?_
 case hR=>subst hR;exact ⟨((Blk.newAt w2 _ _ (b:=w2.heap.size) rfl).alloc _),(Blk.newAt (w2.alloc _) _ _ (b:=w2.heap.size + 1) (by simp)),(((Below.refl _ _).alloc (Nat.le_refl _) _).alloc (by simp<;>omega) _)⟩
 subst hR
 rintro W2 ⟨qp,qq,hbn⟩
 have Hp:=lid qp;clear qp
 have Hq:=lid qq;clear qq
 replace HA:=kA HA hbn
 replace HT:=kT HT hbn
 clear f0 f1 f2
 replace Hf:=kB Hf hbn
 obtain ⟨f0,f1,f2⟩:=Hf.out.c3
 replace HA1:=kA HA1 hbn
 replace HA2:=kA HA2 hbn
 obtain ⟨p0,p1,p2⟩:=Hp.out.c3
 obtain ⟨q0,q1,q2⟩:=Hq.out.c3
 replace Hb:=bnx Hb hbn;clear hbn
 go_wp2_with fail
 refine (aw_bad a0 cap0 0 (by omega) _).mono ?_
 rintro e w3 ⟨rfl,hbn⟩
 clear f0 f1 f2
 clear p0 p1 p2
 clear q0 q1 q2
 replace HA:=kA HA hbn
 replace HT:=kT HT hbn
 replace Hf:=kB Hf hbn
 replace HA1:=kA HA1 hbn
 replace HA2:=kA HA2 hbn
 replace Hp:=kB Hp hbn
 replace Hq:=kB Hq hbn
 obtain ⟨f0,f1,f2⟩:=Hf.out.c3
 obtain ⟨p0,p1,p2⟩:=Hp.out.c3
 obtain ⟨q0,q1,q2⟩:=Hq.out.c3
 replace Hb:=bnx Hb hbn;clear hbn
 have lz_f_W3:=Hf.out.lt
 have lz_p_W3:=Hp.out.lt
 have lz_q_W3:=Hq.out.lt
 go_wp2_with fail
 first | refine wp_world (fun W3=>Below w3.heap.size w3 W3) ?hR ?_ | refine calls_world (fun W3=>Below w3.heap.size w3 W3) ?hR ?_
 case hR=>(repeat first | exact Below.refl _ _ | (refine Below.setCell ?_ (by first | (dsimp only;omega) | (show _ <= _;omega) | (simp<;>omega)) _) | (refine Below.alloc ?_ (by simp<;>omega) _) | refine Below.drew ?_)
 rintro W3 hbn
 clear f0 f1 f2
 clear p0 p1 p2
 clear q0 q1 q2
 replace HA:=kA HA hbn
 replace HT:=kT HT hbn
 replace Hf:=kB Hf hbn
 replace HA1:=kA HA1 hbn
 replace HA2:=kA HA2 hbn
 replace Hp:=kB Hp hbn
 replace Hq:=kB Hq hbn
 obtain ⟨f0,f1,f2⟩:=Hf.out.c3
 obtain ⟨p0,p1,p2⟩:=Hp.out.c3
 obtain ⟨q0,q1,q2⟩:=Hq.out.c3
 replace Hb:=bnx Hb hbn;clear hbn
 go_wp2_with fail
 refine (aw_bad a0 cap0 3 (by omega) _).mono ?_
 rintro e w4 ⟨rfl,hbn⟩
 clear f0 f1 f2
 clear p0 p1 p2
 clear q0 q1 q2
 replace HA:=kA HA hbn
 replace HT:=kT HT hbn
 replace Hf:=kB Hf hbn
 replace HA1:=kA HA1 hbn
 replace HA2:=kA HA2 hbn
 replace Hp:=kB Hp hbn
 replace Hq:=kB Hq hbn
 obtain ⟨f0,f1,f2⟩:=Hf.out.c3
 obtain ⟨p0,p1,p2⟩:=Hp.out.c3
 obtain ⟨q0,q1,q2⟩:=Hq.out.c3
 replace Hb:=bnx Hb hbn;clear hbn
 have lz_f_W4:=Hf.out.lt
 have lz_p_W4:=Hp.out.lt
 have lz_q_W4:=Hq.out.lt
 go_wp2_with fail
 first | refine wp_world (fun W4=>Below w4.heap.size w4 W4) ?hR ?_ | refine calls_world (fun W4=>Below w4.heap.size w4 W4) ?hR ?_
 case hR=>(repeat first | exact Below.refl _ _ | (refine Below.setCell ?_ (by first | (dsimp only;omega) | (show _ <= _;omega) | (simp<;>omega)) _) | (refine Below.alloc ?_ (by simp<;>omega) _) | refine Below.drew ?_)
 rintro W4 hbn
 clear f0 f1 f2
 clear p0 p1 p2
 clear q0 q1 q2
 replace HA:=kA HA hbn
 replace HT:=kT HT hbn
 replace Hf:=kB Hf hbn
 replace HA1:=kA HA1 hbn
 replace HA2:=kA HA2 hbn
 replace Hp:=kB Hp hbn
 replace Hq:=kB Hq hbn
 obtain ⟨f0,f1,f2⟩:=Hf.out.c3
 obtain ⟨p0,p1,p2⟩:=Hp.out.c3
 obtain ⟨q0,q1,q2⟩:=Hq.out.c3
 replace Hb:=bnx Hb hbn;clear hbn
 go_wp2_with fail
 refine (aw_lifts a0 cap0 _ HA.out HT.out).mono ?_
 rintro e w5 ⟨r2,rfl,hat,hbn⟩
 clear f0 f1 f2
 clear p0 p1 p2
 clear q0 q1 q2
 replace HA:=kA HA hbn
 replace HT:=kT HT hbn
 replace Hf:=kB Hf hbn
 replace HA1:=kA HA1 hbn
 replace HA2:=kA HA2 hbn
 replace Hp:=kB Hp hbn
 replace Hq:=kB Hq hbn
 obtain ⟨f0,f1,f2⟩:=Hf.out.c3
 obtain ⟨p0,p1,p2⟩:=Hp.out.c3
 obtain ⟨q0,q1,q2⟩:=Hq.out.c3
 replace Hb:=bnx Hb hbn;clear hbn
 have HA3 : Hid (At w5 (some ⟨r2,0,none⟩) (aw [0,4,8,4,12,8])):=hat
 clear hat
 have lz_f_W5:=Hf.out.lt
 have lz_p_W5:=Hp.out.lt
 have lz_q_W5:=Hq.out.lt
 go_wp2_with fail
 obtain ⟨R,hR⟩ : ∃ R : World -> Prop,(fun W5=>Blk W5 (w5.heap.size) 24 [.int .i64 2,.int .i64 2,.slice (some ⟨r2,0,none⟩) 6 6] /\ Below w5.heap.size w5 W5) = R:=⟨_,rfl⟩
 first | refine wp_world R ?hR ?_ | refine calls_world R ?hR ?_
 case hR=>subst hR;exact ⟨(Blk.newAt w5 _ _ (b:=w5.heap.size) rfl),((Below.refl _ _).alloc (Nat.le_refl _) _)⟩
 subst hR
 rintro W5 ⟨qc,hbn⟩
 have Hc:=lid qc;clear qc
 replace HA:=kA HA hbn
 replace HT:=kT HT hbn
 clear f0 f1 f2
 replace Hf:=kB Hf hbn
 obtain ⟨f0,f1,f2⟩:=Hf.out.c3
 replace HA1:=kA HA1 hbn
 replace HA2:=kA HA2 hbn
 clear p0 p1 p2
 replace Hp:=kB Hp hbn
 obtain ⟨p0,p1,p2⟩:=Hp.out.c3
 clear q0 q1 q2
 replace Hq:=kB Hq hbn
 obtain ⟨q0,q1,q2⟩:=Hq.out.c3
 replace HA3:=kA HA3 hbn
 obtain ⟨c0,c1,c2⟩:=Hc.out.c3
 replace Hb:=bnx Hb hbn;clear hbn
 go_wp2_with fail
 refine (aw_faces a0 cap0 _ HA.out HT.out).mono ?_
 rintro e w6 ⟨r3,rfl,hat,hbn⟩
 clear f0 f1 f2
 clear p0 p1 p2
 clear q0 q1 q2
 clear c0 c1 c2
 replace HA:=kA HA hbn
 replace HT:=kT HT hbn
 replace Hf:=kB Hf hbn
 replace HA1:=kA HA1 hbn
 replace HA2:=kA HA2 hbn
 replace Hp:=kB Hp hbn
 replace Hq:=kB Hq hbn
 replace HA3:=kA HA3 hbn
 replace Hc:=kB Hc hbn
 obtain ⟨f0,f1,f2⟩:=Hf.out.c3
 obtain ⟨p0,p1,p2⟩:=Hp.out.c3
 obtain ⟨q0,q1,q2⟩:=Hq.out.c3
 obtain ⟨c0,c1,c2⟩:=Hc.out.c3
 replace Hb:=bnx Hb hbn;clear hbn
 have HA4 : Hid (At w6 (some ⟨r3,0,none⟩) (aw [4,8])):=hat
 clear hat
 have lz_f_W6:=Hf.out.lt
 have lz_p_W6:=Hp.out.lt
 have lz_q_W6:=Hq.out.lt
 have lz_c_W6:=Hc.out.lt
 go_wp2_with fail
 obtain ⟨R,hR⟩ : ∃ R : World -> Prop,(fun W6=>Blk W6 (w6.heap.size) 24 [.int .i64 1,.int .i64 1,.slice (some ⟨r3,0,none⟩) 2 2] /\ Below w6.heap.size w6 W6) = R:=⟨_,rfl⟩
 first | refine wp_world R ?hR ?_ | refine calls_world R ?hR ?_
 case hR=>subst hR;exact ⟨(Blk.newAt w6 _ _ (b:=w6.heap.size) rfl),((Below.refl _ _).alloc (Nat.le_refl _) _)⟩
 subst hR
 rintro W6 ⟨qu,hbn⟩
 have Hu:=lid qu;clear qu
 replace HA:=kA HA hbn
 replace HT:=kT HT hbn
 clear f0 f1 f2
 replace Hf:=kB Hf hbn
 obtain ⟨f0,f1,f2⟩:=Hf.out.c3
 replace HA1:=kA HA1 hbn
 replace HA2:=kA HA2 hbn
 clear p0 p1 p2
 replace Hp:=kB Hp hbn
 obtain ⟨p0,p1,p2⟩:=Hp.out.c3
 clear q0 q1 q2
 replace Hq:=kB Hq hbn
 obtain ⟨q0,q1,q2⟩:=Hq.out.c3
 replace HA3:=kA HA3 hbn
 clear c0 c1 c2
 replace Hc:=kB Hc hbn
 obtain ⟨c0,c1,c2⟩:=Hc.out.c3
 replace HA4:=kA HA4 hbn
 obtain ⟨u0,u1,u2⟩:=Hu.out.c3
 replace Hb:=bnx Hb hbn;clear hbn
 go_wp2_with fail
 refine (aw_corners a0 cap0 _ HA.out HT.out).mono ?_
 rintro e w7 ⟨rfl,hbn⟩
 clear f0 f1 f2
 clear p0 p1 p2
 clear q0 q1 q2
 clear c0 c1 c2
 clear u0 u1 u2
 replace HA:=kA HA hbn
 replace HT:=kT HT hbn
 replace Hf:=kB Hf hbn
 replace HA1:=kA HA1 hbn
 replace HA2:=kA HA2 hbn
 replace Hp:=kB Hp hbn
 replace Hq:=kB Hq hbn
 replace HA3:=kA HA3 hbn
 replace Hc:=kB Hc hbn
 replace HA4:=kA HA4 hbn
 replace Hu:=kB Hu hbn
 obtain ⟨f0,f1,f2⟩:=Hf.out.c3
 obtain ⟨p0,p1,p2⟩:=Hp.out.c3
 obtain ⟨q0,q1,q2⟩:=Hq.out.c3
 obtain ⟨c0,c1,c2⟩:=Hc.out.c3
 obtain ⟨u0,u1,u2⟩:=Hu.out.c3
 replace Hb:=bnx Hb hbn;clear hbn
 have lz_f_W7:=Hf.out.lt
 have lz_p_W7:=Hp.out.lt
 have lz_q_W7:=Hq.out.lt
 have lz_c_W7:=Hc.out.lt
 have lz_u_W7:=Hu.out.lt
 go_wp2_with fail
 obtain ⟨R,hR⟩ : ∃ R : World -> Prop,(fun W7=>Blk W7 (w7.heap.size) 36 [.bool (sgnB (dN (dI 8))),.string (bs (nt (dN (dI 8)).natAbs)),.int .i64 (dE (dI 8))] /\ Below w7.heap.size w7 W7) = R:=⟨_,rfl⟩
 first | refine wp_world R ?hR ?_ | refine calls_world R ?hR ?_
 case hR=>subst hR;exact ⟨(Blk.newAt w7 _ _ (b:=w7.heap.size) rfl),((Below.refl _ _).alloc (Nat.le_refl _) _)⟩
 subst hR
 rintro W7 ⟨qz,hbn⟩
 have Hz:=lid qz;clear qz
 replace HA:=kA HA hbn
 replace HT:=kT HT hbn
 clear f0 f1 f2
 replace Hf:=kB Hf hbn
 obtain ⟨f0,f1,f2⟩:=Hf.out.c3
 replace HA1:=kA HA1 hbn
 replace HA2:=kA HA2 hbn
 clear p0 p1 p2
 replace Hp:=kB Hp hbn
 obtain ⟨p0,p1,p2⟩:=Hp.out.c3
 clear q0 q1 q2
 replace Hq:=kB Hq hbn
 obtain ⟨q0,q1,q2⟩:=Hq.out.c3
 replace HA3:=kA HA3 hbn
 clear c0 c1 c2
 replace Hc:=kB Hc hbn
 obtain ⟨c0,c1,c2⟩:=Hc.out.c3
 replace HA4:=kA HA4 hbn
 clear u0 u1 u2
 replace Hu:=kB Hu hbn
 obtain ⟨u0,u1,u2⟩:=Hu.out.c3
 obtain ⟨z0,z1,z2⟩:=Hz.out.c3
 replace Hb:=bnx Hb hbn;clear hbn
 refine wp_region_plan (fun w'=>w'.cell? ⟨w2.heap.size,0,none⟩ = some (.int .i64 2) /\ w'.cell? ⟨w2.heap.size,1,none⟩ = some (.int .i64 1) /\ w'.cell? ⟨w2.heap.size,2,none⟩ = some (.slice (some ⟨r,0,none⟩) 3 3) /\ w'.cell? ⟨w2.heap.size + 1,0,none⟩ = some (.int .i64 2) /\ w'.cell? ⟨w2.heap.size + 1,1,none⟩ = some (.int .i64 1) /\ w'.cell? ⟨w2.heap.size + 1,2,none⟩ = some (.slice (some ⟨s,0,none⟩) 3 3) /\ w'.cell? ⟨w5.heap.size,0,none⟩ = some (.int .i64 2) /\ w'.cell? ⟨w5.heap.size,1,none⟩ = some (.int .i64 2) /\ w'.cell? ⟨w5.heap.size,2,none⟩ = some (.slice (some ⟨r2,0,none⟩) 6 6) /\ w'.cell? ⟨w6.heap.size,0,none⟩ = some (.int .i64 1) /\ w'.cell? ⟨w6.heap.size,1,none⟩ = some (.int .i64 1) /\ w'.cell? ⟨w6.heap.size,2,none⟩ = some (.slice (some ⟨r3,0,none⟩) 2 2) /\ w'.cell? ⟨w7.heap.size,0,none⟩ = some (.bool (sgnB (dN (dI 8)))) /\ w'.cell? ⟨w7.heap.size,1,none⟩ = some (.string (bs (nt (dN (dI 8)).natAbs))) /\ w'.cell? ⟨w7.heap.size,2,none⟩ = some (.int .i64 (dE (dI 8)))) (fun i=>Nat.blt i 100000) [(0,true),(1,false),(2,false),(3,false),(4,true),(5,true),(6,false),(7,false),(8,false),(9,true),(10,true),(11,true),(12,true),(13,true),(14,true),(15,true),(16,true),(17,true),(18,true),(19,true),(20,true),(21,true),(22,true),(23,true),(24,false),(25,false),(26,false),(27,true),(28,true),(29,true),(30,true),(31,true),(32,true),(33,true),(34,false),(35,false),(36,false),(37,true),(38,true),(39,true),(40,true),(41,true),(42,true),(43,true),(44,false),(45,true),(46,true),(47,true),(48,true),(49,true),(50,true),(51,true)] (by kernel_rfl) (by kernel_rfl) rfl (by kernel_rfl) (fun o c a v w=>by cases o.dst<;>exact id) ⟨p0,p1,p2,q0,q1,q2,c0,c1,c2,u0,u1,u2,z0,z1,z2⟩ ?_
 refine planT rfl rfl (v:=?_) (fun w' hw'=>?_) ?_;rotate_left;(focus obtain ⟨q0,q1,q2,q3,q4,q5,q6,q7,q8,q9,q10,q11,q12,q13,q14⟩:=hw';go_simp;try with_reducible rfl);try simp only [Act.put,U1,U2,U3]
 refine planF rfl rfl (fun K hK=>?_)
 go_simp
 refine hK _ _ (fun _=>⟨cell_new p0,cell_new p1,cell_new p2,cell_new q0,cell_new q1,cell_new q2,cell_new c0,cell_new c1,cell_new c2,cell_new u0,cell_new u1,cell_new u2,cell_new z0,cell_new z1,cell_new z2⟩) ?_;clear hK K
 try simp only [Act.put,U1,U2,U3]
 refine plan_world (fun X1a=>Blk X1a (W7.heap.size) 2 [.int .i64 0,.int .i64 4,.int .i64 6] /\ Below W7.heap.size W7 X1a) (by first | exact nw1 | exact nw2) ?_
 rintro X1a ⟨ql1,hbn⟩
 clear f0 f1 f2
 clear p0 p1 p2
 clear q0 q1 q2
 clear c0 c1 c2
 clear u0 u1 u2
 clear z0 z1 z2
 have lz_f_X1a:=Hf.out.lt
 have lz_p_X1a:=Hp.out.lt
 have lz_q_X1a:=Hq.out.lt
 have lz_c_X1a:=Hc.out.lt
 have lz_u_X1a:=Hu.out.lt
 have lz_z_X1a:=Hz.out.lt
 replace HA:=kA HA hbn
 replace HT:=kT HT hbn
 replace Hf:=kB Hf hbn
 replace HA1:=kA HA1 hbn
 replace HA2:=kA HA2 hbn
 replace Hp:=kB Hp hbn
 replace Hq:=kB Hq hbn
 replace HA3:=kA HA3 hbn
 replace Hc:=kB Hc hbn
 replace HA4:=kA HA4 hbn
 replace Hu:=kB Hu hbn
 replace Hz:=kB Hz hbn
 have Hl1:=lid ql1;clear ql1
 obtain ⟨f0,f1,f2⟩:=Hf.out.c3
 obtain ⟨p0,p1,p2⟩:=Hp.out.c3
 obtain ⟨q0,q1,q2⟩:=Hq.out.c3
 obtain ⟨c0,c1,c2⟩:=Hc.out.c3
 obtain ⟨u0,u1,u2⟩:=Hu.out.c3
 obtain ⟨z0,z1,z2⟩:=Hz.out.c3
 obtain ⟨l10,l11,l12⟩:=Hl1.out.c3
 replace Hb:=bnx Hb hbn;clear hbn
 refine planF rfl rfl (fun K hK=>?_)
 go_simp
 with_reducible refine (aw_of 2 1 _ [0,4,6] _ rfl 3 rfl (by decide) (by decide) _ Hl1.out).mono ?_
 rintro e X1b ⟨ol1,cl1,rfl,hat,hq⟩
 have hbn : Below X1a.heap.size X1a X1b:=by first | exact hq | exact bundrew hq
 clear f0 f1 f2
 clear p0 p1 p2
 clear q0 q1 q2
 clear c0 c1 c2
 clear u0 u1 u2
 clear z0 z1 z2
 clear l10 l11 l12
 replace HA:=kA HA hbn
 replace HT:=kT HT hbn
 replace Hf:=kB Hf hbn
 replace HA1:=kA HA1 hbn
 replace HA2:=kA HA2 hbn
 replace Hp:=kB Hp hbn
 replace Hq:=kB Hq hbn
 replace HA3:=kA HA3 hbn
 replace Hc:=kB Hc hbn
 replace HA4:=kA HA4 hbn
 replace Hu:=kB Hu hbn
 replace Hz:=kB Hz hbn
 replace Hl1:=kB Hl1 hbn
 obtain ⟨f0,f1,f2⟩:=Hf.out.c3
 obtain ⟨p0,p1,p2⟩:=Hp.out.c3
 obtain ⟨q0,q1,q2⟩:=Hq.out.c3
 obtain ⟨c0,c1,c2⟩:=Hc.out.c3
 obtain ⟨u0,u1,u2⟩:=Hu.out.c3
 obtain ⟨z0,z1,z2⟩:=Hz.out.c3
 obtain ⟨l10,l11,l12⟩:=Hl1.out.c3
 replace Hb:=bnx Hb hbn;clear hbn
 refine hK _ _ (fun _=>⟨p0,p1,p2,q0,q1,q2,c0,c1,c2,u0,u1,u2,z0,z1,z2⟩) ?_;clear hK K
 try simp only [Act.put,U1,U2,U3]
 refine planF rfl rfl (fun K hK=>?_)
 go_simp
 with_reducible refine (aw_same [0,4,6] 2 1 (some ⟨r,0,none⟩) ol1 3 3 cl1 _ rfl (by decide) HA1.out hat).mono ?_
 rintro e X1c ⟨rfl,hq⟩
 have hbn : Below X1b.heap.size X1b X1c:=by first | exact hq | exact bundrew hq
 clear f0 f1 f2
 clear p0 p1 p2
 clear q0 q1 q2
 clear c0 c1 c2
 clear u0 u1 u2
 clear z0 z1 z2
 clear l10 l11 l12
 replace HA:=kA HA hbn
 replace HT:=kT HT hbn
 replace Hf:=kB Hf hbn
 replace HA1:=kA HA1 hbn
 replace HA2:=kA HA2 hbn
 replace Hp:=kB Hp hbn
 replace Hq:=kB Hq hbn
 replace HA3:=kA HA3 hbn
 replace Hc:=kB Hc hbn
 replace HA4:=kA HA4 hbn
 replace Hu:=kB Hu hbn
 replace Hz:=kB Hz hbn
 replace Hl1:=kB Hl1 hbn
 obtain ⟨f0,f1,f2⟩:=Hf.out.c3
 obtain ⟨p0,p1,p2⟩:=Hp.out.c3
 obtain ⟨q0,q1,q2⟩:=Hq.out.c3
 obtain ⟨c0,c1,c2⟩:=Hc.out.c3
 obtain ⟨u0,u1,u2⟩:=Hu.out.c3
 obtain ⟨z0,z1,z2⟩:=Hz.out.c3
 obtain ⟨l10,l11,l12⟩:=Hl1.out.c3
 replace Hb:=bnx Hb hbn;clear hbn
 refine hK _ _ (fun _=>⟨p0,p1,p2,q0,q1,q2,c0,c1,c2,u0,u1,u2,z0,z1,z2⟩) ?_;clear hK K
 try simp only [Act.put,U1,U2,U3]
 iterate 2 (refine planT rfl rfl (v:=?_) (fun w' hw'=>?_) ?_;rotate_left;(focus obtain ⟨q0,q1,q2,q3,q4,q5,q6,q7,q8,q9,q10,q11,q12,q13,q14⟩:=hw';go_simp;try with_reducible rfl);try simp only [Act.put,U1,U2,U3])
 refine planF rfl rfl (fun K hK=>?_)
 go_simp
 refine hK _ _ (fun _=>⟨cell_new p0,cell_new p1,cell_new p2,cell_new q0,cell_new q1,cell_new q2,cell_new c0,cell_new c1,cell_new c2,cell_new u0,cell_new u1,cell_new u2,cell_new z0,cell_new z1,cell_new z2⟩) ?_;clear hK K
 try simp only [Act.put,U1,U2,U3]
 refine plan_world (fun X2a=>Blk X2a (X1c.heap.size) 2 [.int .i64 0,.int .i64 6,.int .i64 8] /\ Below X1c.heap.size X1c X2a) (by first | exact nw1 | exact nw2) ?_
 rintro X2a ⟨ql2,hbn⟩
 clear f0 f1 f2
 clear p0 p1 p2
 clear q0 q1 q2
 clear c0 c1 c2
 clear u0 u1 u2
 clear z0 z1 z2
 clear l10 l11 l12
 have lz_f_X2a:=Hf.out.lt
 have lz_p_X2a:=Hp.out.lt
 have lz_q_X2a:=Hq.out.lt
 have lz_c_X2a:=Hc.out.lt
 have lz_u_X2a:=Hu.out.lt
 have lz_z_X2a:=Hz.out.lt
 have lz_l1_X2a:=Hl1.out.lt
 replace HA:=kA HA hbn
 replace HT:=kT HT hbn
 replace Hf:=kB Hf hbn
 replace HA1:=kA HA1 hbn
 replace HA2:=kA HA2 hbn
 replace Hp:=kB Hp hbn
 replace Hq:=kB Hq hbn
 replace HA3:=kA HA3 hbn
 replace Hc:=kB Hc hbn
 replace HA4:=kA HA4 hbn
 replace Hu:=kB Hu hbn
 replace Hz:=kB Hz hbn
 replace Hl1:=kB Hl1 hbn
 have Hl2:=lid ql2;clear ql2
 obtain ⟨f0,f1,f2⟩:=Hf.out.c3
 obtain ⟨p0,p1,p2⟩:=Hp.out.c3
 obtain ⟨q0,q1,q2⟩:=Hq.out.c3
 obtain ⟨c0,c1,c2⟩:=Hc.out.c3
 obtain ⟨u0,u1,u2⟩:=Hu.out.c3
 obtain ⟨z0,z1,z2⟩:=Hz.out.c3
 obtain ⟨l10,l11,l12⟩:=Hl1.out.c3
 obtain ⟨l20,l21,l22⟩:=Hl2.out.c3
 replace Hb:=bnx Hb hbn;clear hbn
 refine planF rfl rfl (fun K hK=>?_)
 go_simp
 with_reducible refine (aw_of 2 1 _ [0,6,8] _ rfl 3 rfl (by decide) (by decide) _ Hl2.out).mono ?_
 rintro e X2b ⟨ol2,cl2,rfl,hat,hq⟩
 have hbn : Below X2a.heap.size X2a X2b:=by first | exact hq | exact bundrew hq
 clear f0 f1 f2
 clear p0 p1 p2
 clear q0 q1 q2
 clear c0 c1 c2
 clear u0 u1 u2
 clear z0 z1 z2
 clear l10 l11 l12
 clear l20 l21 l22
 replace HA:=kA HA hbn
 replace HT:=kT HT hbn
 replace Hf:=kB Hf hbn
 replace HA1:=kA HA1 hbn
 replace HA2:=kA HA2 hbn
 replace Hp:=kB Hp hbn
 replace Hq:=kB Hq hbn
 replace HA3:=kA HA3 hbn
 replace Hc:=kB Hc hbn
 replace HA4:=kA HA4 hbn
 replace Hu:=kB Hu hbn
 replace Hz:=kB Hz hbn
 replace Hl1:=kB Hl1 hbn
 replace Hl2:=kB Hl2 hbn
 obtain ⟨f0,f1,f2⟩:=Hf.out.c3
 obtain ⟨p0,p1,p2⟩:=Hp.out.c3
 obtain ⟨q0,q1,q2⟩:=Hq.out.c3
 obtain ⟨c0,c1,c2⟩:=Hc.out.c3
 obtain ⟨u0,u1,u2⟩:=Hu.out.c3
 obtain ⟨z0,z1,z2⟩:=Hz.out.c3
 obtain ⟨l10,l11,l12⟩:=Hl1.out.c3
 obtain ⟨l20,l21,l22⟩:=Hl2.out.c3
 replace Hb:=bnx Hb hbn;clear hbn
 refine hK _ _ (fun _=>⟨p0,p1,p2,q0,q1,q2,c0,c1,c2,u0,u1,u2,z0,z1,z2⟩) ?_;clear hK K
 try simp only [Act.put,U1,U2,U3]
 refine planF rfl rfl (fun K hK=>?_)
 go_simp
 with_reducible refine (aw_same [0,6,8] 2 1 (some ⟨s,0,none⟩) ol2 3 3 cl2 _ rfl (by decide) HA2.out hat).mono ?_
 rintro e X2c ⟨rfl,hq⟩
 have hbn : Below X2b.heap.size X2b X2c:=by first | exact hq | exact bundrew hq
 clear f0 f1 f2
 clear p0 p1 p2
 clear q0 q1 q2
 clear c0 c1 c2
 clear u0 u1 u2
 clear z0 z1 z2
 clear l10 l11 l12
 clear l20 l21 l22
 replace HA:=kA HA hbn
 replace HT:=kT HT hbn
 replace Hf:=kB Hf hbn
 replace HA1:=kA HA1 hbn
 replace HA2:=kA HA2 hbn
 replace Hp:=kB Hp hbn
 replace Hq:=kB Hq hbn
 replace HA3:=kA HA3 hbn
 replace Hc:=kB Hc hbn
 replace HA4:=kA HA4 hbn
 replace Hu:=kB Hu hbn
 replace Hz:=kB Hz hbn
 replace Hl1:=kB Hl1 hbn
 replace Hl2:=kB Hl2 hbn
 obtain ⟨f0,f1,f2⟩:=Hf.out.c3
 obtain ⟨p0,p1,p2⟩:=Hp.out.c3
 obtain ⟨q0,q1,q2⟩:=Hq.out.c3
 obtain ⟨c0,c1,c2⟩:=Hc.out.c3
 obtain ⟨u0,u1,u2⟩:=Hu.out.c3
 obtain ⟨z0,z1,z2⟩:=Hz.out.c3
 obtain ⟨l10,l11,l12⟩:=Hl1.out.c3
 obtain ⟨l20,l21,l22⟩:=Hl2.out.c3
 replace Hb:=bnx Hb hbn;clear hbn
 refine hK _ _ (fun _=>⟨p0,p1,p2,q0,q1,q2,c0,c1,c2,u0,u1,u2,z0,z1,z2⟩) ?_;clear hK K
 try simp only [Act.put,U1,U2,U3]
 iterate 15 (refine planT rfl rfl (v:=?_) (fun w' hw'=>?_) ?_;rotate_left;(focus obtain ⟨q0,q1,q2,q3,q4,q5,q6,q7,q8,q9,q10,q11,q12,q13,q14⟩:=hw';go_simp;try with_reducible rfl);try simp only [Act.put,U1,U2,U3])
 refine planF rfl rfl (fun K hK=>?_)
 go_simp
 refine hK _ _ (fun _=>⟨cell_new p0,cell_new p1,cell_new p2,cell_new q0,cell_new q1,cell_new q2,cell_new c0,cell_new c1,cell_new c2,cell_new u0,cell_new u1,cell_new u2,cell_new z0,cell_new z1,cell_new z2⟩) ?_;clear hK K
 try simp only [Act.put,U1,U2,U3]
 refine plan_world (fun X3a=>Blk X3a (X2c.heap.size) 2 [.int .i64 0,.int .i64 4,.int .i64 8,.int .i64 4,.int .i64 12,.int .i64 8] /\ Below X2c.heap.size X2c X3a) (by first | exact nw1 | exact nw2) ?_
 rintro X3a ⟨ql3,hbn⟩
 clear f0 f1 f2
 clear p0 p1 p2
 clear q0 q1 q2
 clear c0 c1 c2
 clear u0 u1 u2
 clear z0 z1 z2
 clear l10 l11 l12
 clear l20 l21 l22
 have lz_f_X3a:=Hf.out.lt
 have lz_p_X3a:=Hp.out.lt
 have lz_q_X3a:=Hq.out.lt
 have lz_c_X3a:=Hc.out.lt
 have lz_u_X3a:=Hu.out.lt
 have lz_z_X3a:=Hz.out.lt
 have lz_l1_X3a:=Hl1.out.lt
 have lz_l2_X3a:=Hl2.out.lt
 replace HA:=kA HA hbn
 replace HT:=kT HT hbn
 replace Hf:=kB Hf hbn
 replace HA1:=kA HA1 hbn
 replace HA2:=kA HA2 hbn
 replace Hp:=kB Hp hbn
 replace Hq:=kB Hq hbn
 replace HA3:=kA HA3 hbn
 replace Hc:=kB Hc hbn
 replace HA4:=kA HA4 hbn
 replace Hu:=kB Hu hbn
 replace Hz:=kB Hz hbn
 replace Hl1:=kB Hl1 hbn
 replace Hl2:=kB Hl2 hbn
 have Hl3:=lid ql3;clear ql3
 obtain ⟨f0,f1,f2⟩:=Hf.out.c3
 obtain ⟨p0,p1,p2⟩:=Hp.out.c3
 obtain ⟨q0,q1,q2⟩:=Hq.out.c3
 obtain ⟨c0,c1,c2⟩:=Hc.out.c3
 obtain ⟨u0,u1,u2⟩:=Hu.out.c3
 obtain ⟨z0,z1,z2⟩:=Hz.out.c3
 obtain ⟨l10,l11,l12⟩:=Hl1.out.c3
 obtain ⟨l20,l21,l22⟩:=Hl2.out.c3
 obtain ⟨l30,l31,l32,l33,l34,l35⟩:=Hl3.out.c6
 replace Hb:=bnx Hb hbn;clear hbn
 refine planF rfl rfl (fun K hK=>?_)
 go_simp
 with_reducible refine (aw_of 2 2 _ [0,4,8,4,12,8] _ rfl 6 rfl (by decide) (by decide) _ Hl3.out).mono ?_
 rintro e X3b ⟨ol3,cl3,rfl,hat,hq⟩
 have hbn : Below X3a.heap.size X3a X3b:=by first | exact hq | exact bundrew hq
 clear f0 f1 f2
 clear p0 p1 p2
 clear q0 q1 q2
 clear c0 c1 c2
 clear u0 u1 u2
 clear z0 z1 z2
 clear l10 l11 l12
 clear l20 l21 l22
 clear l30 l31 l32 l33 l34 l35
 replace HA:=kA HA hbn
 replace HT:=kT HT hbn
 replace Hf:=kB Hf hbn
 replace HA1:=kA HA1 hbn
 replace HA2:=kA HA2 hbn
 replace Hp:=kB Hp hbn
 replace Hq:=kB Hq hbn
 replace HA3:=kA HA3 hbn
 replace Hc:=kB Hc hbn
 replace HA4:=kA HA4 hbn
 replace Hu:=kB Hu hbn
 replace Hz:=kB Hz hbn
 replace Hl1:=kB Hl1 hbn
 replace Hl2:=kB Hl2 hbn
 replace Hl3:=kB Hl3 hbn
 obtain ⟨f0,f1,f2⟩:=Hf.out.c3
 obtain ⟨p0,p1,p2⟩:=Hp.out.c3
 obtain ⟨q0,q1,q2⟩:=Hq.out.c3
 obtain ⟨c0,c1,c2⟩:=Hc.out.c3
 obtain ⟨u0,u1,u2⟩:=Hu.out.c3
 obtain ⟨z0,z1,z2⟩:=Hz.out.c3
 obtain ⟨l10,l11,l12⟩:=Hl1.out.c3
 obtain ⟨l20,l21,l22⟩:=Hl2.out.c3
 obtain ⟨l30,l31,l32,l33,l34,l35⟩:=Hl3.out.c6
 replace Hb:=bnx Hb hbn;clear hbn
 refine hK _ _ (fun _=>⟨p0,p1,p2,q0,q1,q2,c0,c1,c2,u0,u1,u2,z0,z1,z2⟩) ?_;clear hK K
 try simp only [Act.put,U1,U2,U3]
 refine planF rfl rfl (fun K hK=>?_)
 go_simp
 with_reducible refine (aw_same [0,4,8,4,12,8] 2 2 (some ⟨r2,0,none⟩) ol3 6 6 cl3 _ rfl (by decide) HA3.out hat).mono ?_
 rintro e X3c ⟨rfl,hq⟩
 have hbn : Below X3b.heap.size X3b X3c:=by first | exact hq | exact bundrew hq
 clear f0 f1 f2
 clear p0 p1 p2
 clear q0 q1 q2
 clear c0 c1 c2
 clear u0 u1 u2
 clear z0 z1 z2
 clear l10 l11 l12
 clear l20 l21 l22
 clear l30 l31 l32 l33 l34 l35
 replace HA:=kA HA hbn
 replace HT:=kT HT hbn
 replace Hf:=kB Hf hbn
 replace HA1:=kA HA1 hbn
 replace HA2:=kA HA2 hbn
 replace Hp:=kB Hp hbn
 replace Hq:=kB Hq hbn
 replace HA3:=kA HA3 hbn
 replace Hc:=kB Hc hbn
 replace HA4:=kA HA4 hbn
 replace Hu:=kB Hu hbn
 replace Hz:=kB Hz hbn
 replace Hl1:=kB Hl1 hbn
 replace Hl2:=kB Hl2 hbn
 replace Hl3:=kB Hl3 hbn
 obtain ⟨f0,f1,f2⟩:=Hf.out.c3
 obtain ⟨p0,p1,p2⟩:=Hp.out.c3
 obtain ⟨q0,q1,q2⟩:=Hq.out.c3
 obtain ⟨c0,c1,c2⟩:=Hc.out.c3
 obtain ⟨u0,u1,u2⟩:=Hu.out.c3
 obtain ⟨z0,z1,z2⟩:=Hz.out.c3
 obtain ⟨l10,l11,l12⟩:=Hl1.out.c3
 obtain ⟨l20,l21,l22⟩:=Hl2.out.c3
 obtain ⟨l30,l31,l32,l33,l34,l35⟩:=Hl3.out.c6
 replace Hb:=bnx Hb hbn;clear hbn
 refine hK _ _ (fun _=>⟨p0,p1,p2,q0,q1,q2,c0,c1,c2,u0,u1,u2,z0,z1,z2⟩) ?_;clear hK K
 try simp only [Act.put,U1,U2,U3]
 iterate 7 (refine planT rfl rfl (v:=?_) (fun w' hw'=>?_) ?_;rotate_left;(focus obtain ⟨q0,q1,q2,q3,q4,q5,q6,q7,q8,q9,q10,q11,q12,q13,q14⟩:=hw';go_simp;try with_reducible rfl);try simp only [Act.put,U1,U2,U3])
 refine planF rfl rfl (fun K hK=>?_)
 go_simp
 refine hK _ _ (fun _=>⟨cell_new p0,cell_new p1,cell_new p2,cell_new q0,cell_new q1,cell_new q2,cell_new c0,cell_new c1,cell_new c2,cell_new u0,cell_new u1,cell_new u2,cell_new z0,cell_new z1,cell_new z2⟩) ?_;clear hK K
 try simp only [Act.put,U1,U2,U3]
 refine plan_world (fun X4a=>Blk X4a (X3c.heap.size) 2 [.int .i64 4,.int .i64 8] /\ Below X3c.heap.size X3c X4a) (by first | exact nw1 | exact nw2) ?_
 rintro X4a ⟨ql4,hbn⟩
 clear f0 f1 f2
 clear p0 p1 p2
 clear q0 q1 q2
 clear c0 c1 c2
 clear u0 u1 u2
 clear z0 z1 z2
 clear l10 l11 l12
 clear l20 l21 l22
 clear l30 l31 l32 l33 l34 l35
 have lz_f_X4a:=Hf.out.lt
 have lz_p_X4a:=Hp.out.lt
 have lz_q_X4a:=Hq.out.lt
 have lz_c_X4a:=Hc.out.lt
 have lz_u_X4a:=Hu.out.lt
 have lz_z_X4a:=Hz.out.lt
 have lz_l1_X4a:=Hl1.out.lt
 have lz_l2_X4a:=Hl2.out.lt
 have lz_l3_X4a:=Hl3.out.lt
 replace HA:=kA HA hbn
 replace HT:=kT HT hbn
 replace Hf:=kB Hf hbn
 replace HA1:=kA HA1 hbn
 replace HA2:=kA HA2 hbn
 replace Hp:=kB Hp hbn
 replace Hq:=kB Hq hbn
 replace HA3:=kA HA3 hbn
 replace Hc:=kB Hc hbn
 replace HA4:=kA HA4 hbn
 replace Hu:=kB Hu hbn
 replace Hz:=kB Hz hbn
 replace Hl1:=kB Hl1 hbn
 replace Hl2:=kB Hl2 hbn
 replace Hl3:=kB Hl3 hbn
 have Hl4:=lid ql4;clear ql4
 obtain ⟨f0,f1,f2⟩:=Hf.out.c3
 obtain ⟨p0,p1,p2⟩:=Hp.out.c3
 obtain ⟨q0,q1,q2⟩:=Hq.out.c3
 obtain ⟨c0,c1,c2⟩:=Hc.out.c3
 obtain ⟨u0,u1,u2⟩:=Hu.out.c3
 obtain ⟨z0,z1,z2⟩:=Hz.out.c3
 obtain ⟨l10,l11,l12⟩:=Hl1.out.c3
 obtain ⟨l20,l21,l22⟩:=Hl2.out.c3
 obtain ⟨l30,l31,l32,l33,l34,l35⟩:=Hl3.out.c6
 obtain ⟨l40,l41⟩:=Hl4.out.c2
 replace Hb:=bnx Hb hbn;clear hbn
 refine planF rfl rfl (fun K hK=>?_)
 go_simp
 with_reducible refine (aw_of 1 1 _ [4,8] _ rfl 2 rfl (by decide) (by decide) _ Hl4.out).mono ?_
 rintro e X4b ⟨ol4,cl4,rfl,hat,hq⟩
 have hbn : Below X4a.heap.size X4a X4b:=by first | exact hq | exact bundrew hq
 clear f0 f1 f2
 clear p0 p1 p2
 clear q0 q1 q2
 clear c0 c1 c2
 clear u0 u1 u2
 clear z0 z1 z2
 clear l10 l11 l12
 clear l20 l21 l22
 clear l30 l31 l32 l33 l34 l35
 clear l40 l41
 replace HA:=kA HA hbn
 replace HT:=kT HT hbn
 replace Hf:=kB Hf hbn
 replace HA1:=kA HA1 hbn
 replace HA2:=kA HA2 hbn
 replace Hp:=kB Hp hbn
 replace Hq:=kB Hq hbn
 replace HA3:=kA HA3 hbn
 replace Hc:=kB Hc hbn
 replace HA4:=kA HA4 hbn
 replace Hu:=kB Hu hbn
 replace Hz:=kB Hz hbn
 replace Hl1:=kB Hl1 hbn
 replace Hl2:=kB Hl2 hbn
 replace Hl3:=kB Hl3 hbn
 replace Hl4:=kB Hl4 hbn
 obtain ⟨f0,f1,f2⟩:=Hf.out.c3
 obtain ⟨p0,p1,p2⟩:=Hp.out.c3
 obtain ⟨q0,q1,q2⟩:=Hq.out.c3
 obtain ⟨c0,c1,c2⟩:=Hc.out.c3
 obtain ⟨u0,u1,u2⟩:=Hu.out.c3
 obtain ⟨z0,z1,z2⟩:=Hz.out.c3
 obtain ⟨l10,l11,l12⟩:=Hl1.out.c3
 obtain ⟨l20,l21,l22⟩:=Hl2.out.c3
 obtain ⟨l30,l31,l32,l33,l34,l35⟩:=Hl3.out.c6
 obtain ⟨l40,l41⟩:=Hl4.out.c2
 replace Hb:=bnx Hb hbn;clear hbn
 refine hK _ _ (fun _=>⟨p0,p1,p2,q0,q1,q2,c0,c1,c2,u0,u1,u2,z0,z1,z2⟩) ?_;clear hK K
 try simp only [Act.put,U1,U2,U3]
 refine planF rfl rfl (fun K hK=>?_)
 go_simp
 with_reducible refine (aw_same [4,8] 1 1 (some ⟨r3,0,none⟩) ol4 2 2 cl4 _ rfl (by decide) HA4.out hat).mono ?_
 rintro e X4c ⟨rfl,hq⟩
 have hbn : Below X4b.heap.size X4b X4c:=by first | exact hq | exact bundrew hq
 clear f0 f1 f2
 clear p0 p1 p2
 clear q0 q1 q2
 clear c0 c1 c2
 clear u0 u1 u2
 clear z0 z1 z2
 clear l10 l11 l12
 clear l20 l21 l22
 clear l30 l31 l32 l33 l34 l35
 clear l40 l41
 replace HA:=kA HA hbn
 replace HT:=kT HT hbn
 replace Hf:=kB Hf hbn
 replace HA1:=kA HA1 hbn
 replace HA2:=kA HA2 hbn
 replace Hp:=kB Hp hbn
 replace Hq:=kB Hq hbn
 replace HA3:=kA HA3 hbn
 replace Hc:=kB Hc hbn
 replace HA4:=kA HA4 hbn
 replace Hu:=kB Hu hbn
 replace Hz:=kB Hz hbn
 replace Hl1:=kB Hl1 hbn
 replace Hl2:=kB Hl2 hbn
 replace Hl3:=kB Hl3 hbn
 replace Hl4:=kB Hl4 hbn
 obtain ⟨f0,f1,f2⟩:=Hf.out.c3
 obtain ⟨p0,p1,p2⟩:=Hp.out.c3
 obtain ⟨q0,q1,q2⟩:=Hq.out.c3
 obtain ⟨c0,c1,c2⟩:=Hc.out.c3
 obtain ⟨u0,u1,u2⟩:=Hu.out.c3
 obtain ⟨z0,z1,z2⟩:=Hz.out.c3
 obtain ⟨l10,l11,l12⟩:=Hl1.out.c3
 obtain ⟨l20,l21,l22⟩:=Hl2.out.c3
 obtain ⟨l30,l31,l32,l33,l34,l35⟩:=Hl3.out.c6
 obtain ⟨l40,l41⟩:=Hl4.out.c2
 replace Hb:=bnx Hb hbn;clear hbn
 refine hK _ _ (fun _=>⟨p0,p1,p2,q0,q1,q2,c0,c1,c2,u0,u1,u2,z0,z1,z2⟩) ?_;clear hK K
 try simp only [Act.put,U1,U2,U3]
 iterate 7 (refine planT rfl rfl (v:=?_) (fun w' hw'=>?_) ?_;rotate_left;(focus obtain ⟨q0,q1,q2,q3,q4,q5,q6,q7,q8,q9,q10,q11,q12,q13,q14⟩:=hw';go_simp;try with_reducible rfl);try simp only [Act.put,U1,U2,U3])
 refine planF rfl rfl (fun K hK=>?_)
 go_simp
 with_reducible refine (aw_num _).mono ?_
 rintro e X5 ⟨rfl,hq⟩
 have hbn : Below X4c.heap.size X4c X5:=by first | exact hq | exact bundrew hq
 clear f0 f1 f2
 clear p0 p1 p2
 clear q0 q1 q2
 clear c0 c1 c2
 clear u0 u1 u2
 clear z0 z1 z2
 clear l10 l11 l12
 clear l20 l21 l22
 clear l30 l31 l32 l33 l34 l35
 clear l40 l41
 replace HA:=kA HA hbn
 replace HT:=kT HT hbn
 replace Hf:=kB Hf hbn
 replace HA1:=kA HA1 hbn
 replace HA2:=kA HA2 hbn
 replace Hp:=kB Hp hbn
 replace Hq:=kB Hq hbn
 replace HA3:=kA HA3 hbn
 replace Hc:=kB Hc hbn
 replace HA4:=kA HA4 hbn
 replace Hu:=kB Hu hbn
 replace Hz:=kB Hz hbn
 replace Hl1:=kB Hl1 hbn
 replace Hl2:=kB Hl2 hbn
 replace Hl3:=kB Hl3 hbn
 replace Hl4:=kB Hl4 hbn
 obtain ⟨f0,f1,f2⟩:=Hf.out.c3
 obtain ⟨p0,p1,p2⟩:=Hp.out.c3
 obtain ⟨q0,q1,q2⟩:=Hq.out.c3
 obtain ⟨c0,c1,c2⟩:=Hc.out.c3
 obtain ⟨u0,u1,u2⟩:=Hu.out.c3
 obtain ⟨z0,z1,z2⟩:=Hz.out.c3
 obtain ⟨l10,l11,l12⟩:=Hl1.out.c3
 obtain ⟨l20,l21,l22⟩:=Hl2.out.c3
 obtain ⟨l30,l31,l32,l33,l34,l35⟩:=Hl3.out.c6
 obtain ⟨l40,l41⟩:=Hl4.out.c2
 replace Hb:=bnx Hb hbn;clear hbn
 refine hK _ _ (fun _=>⟨p0,p1,p2,q0,q1,q2,c0,c1,c2,u0,u1,u2,z0,z1,z2⟩) ?_;clear hK K
 try simp only [Act.put,U1,U2,U3]
 iterate 7 (refine planT rfl rfl (v:=?_) (fun w' hw'=>?_) ?_;rotate_left;(focus go_simp;try with_reducible rfl);try simp only [Act.put,U1,U2,U3])
 simp only [wpPlan]
 go_wp2
 refine bodyPost_ret (v:=.bool true) (by simp [results,Tryz.results6,go_sem]) rfl ⟨rfl,?_⟩
 (repeat first | exact Hb.out | (refine Below.setCell ?_ (by have:=Hb.out.size;first | (dsimp only;omega) | (show _ <= _;omega) | (simp<;>omega)) _) | (refine Below.alloc ?_ (by have:=Hb.out.size;simp<;>omega) _) | refine Below.drew ?_)
end Go.Proofs.YtidjljldhdckiaaGreatDoor
