/- Package dyad: Make,Form,Sign,Shift,Of,Neg,Abs. -/
import Derived.Test.YtidjljldhdckiaaGreatDoorZ7
import Derived.Test.YtidjljldhdckiaaGreatDoorZ8
import Derived.Test.YtidjljldhdckiaaGreatDoorZ6
import Derived.Test.YtidjljldhdckiaaGreatDoorZ1
set_option maxRecDepth 100000
set_option maxHeartbeats 16000000
namespace Go.Proofs.YtidjljldhdckiaaGreatDoor
open Go.RowKit
attribute [local go_sem ↓] Go.wp_at_zero Go.wp_at_succ
abbrev numV (d : Dyadic) : Value:=.agg #[.bool (sgnB (dN d)),.string (bs (nt (dN d).natAbs)),.int .i64 (dE d)]
theorem bs_nil : (⟨#[]⟩ : ByteArray) = bs []:=rfl
theorem shr_as (s : Bool) (l : List UInt8) (n : Nat) (Z : Int) (hZ : iv s l / 2 ^ n = Z) (w : World) (hl : l.length <= 34359738368) (hn : n <= 549755813888) (hT : Tab w) :
 Calls Tryz.prog 69 #[.agg #[.bool s,.string (bs l)],.int .i64 (-(n : Int))] w fun e w'=>e = .returned (intV Z) /\ Below w.heap.size w w':=by
 rcases Nat.eq_zero_or_pos n with h | h
 . subst h;subst hZ
   have:=wShl_any s l 0 w (by omega) (by omega)
   simpa using this
 . subst hZ
   exact wShr_any s l n w hl h (by omega) hT
theorem tz_le (v k : Nat) (h : v < 2 ^ k) : tz v <= k:=by
 rcases Nat.eq_zero_or_pos v with h0 | h0
 . subst h0;exact Nat.zero_le _
 . obtain ⟨m,hm⟩:=tz_spec v h0
   rcases Nat.lt_or_ge k (tz v) with h1 | h1
   . exfalso
     have h2:=Nat.pow_le_pow_right (show 0 < 2 by decide) (Nat.le_of_lt h1)
     have h3 : 2 ^ tz v <= 2 ^ tz v * (2 * m + 1):=Nat.le_mul_of_pos_right _ (by omega)
     omega
   . exact h1
theorem tz_int (n : Int) : tz n.natAbs = n.trailingZeros:=by
 unfold tz
 rcases Int.natAbs_eq n with h | h
 . rw [<- h]
 . conv=>rhs;rw [h]
   rw [Int.trailingZeros_neg]
theorem dval_zero (s : Bool) (l : List UInt8) (e : Int) (h : iv s l = 0) : dval (s,l,e) = 0:=by
 unfold dval;simp only [h];exact owp_zero _
theorem dval_parts (s : Bool) (l : List UInt8) (e : Int) (h : iv s l ≠ 0) : dN (dval (s,l,e)) = iv s l / 2 ^ tz (nv l) /\ dE (dval (s,l,e)) = e + (tz (nv l) : Int):=by
 have:=dN_owp (k:=-e) h
 unfold dval
 rw [show tz (nv l) = (iv s l).trailingZeros by rw [<- iv_abs s l];exact tz_int _]
 exact ⟨this.1,by rw [this.2];omega⟩
theorem make_any (s : Bool) (l : List UInt8) (e : Int) (D : Dyadic) (hD : dval (s,l,e) = D) (w : World) (hl : l.length <= 34359738368) (he : -1099511627776 <= e /\ e <= 1099511627776) (hT : Tab w) :
 Calls Tryz.prog 48 #[.agg #[.bool s,.string (bs l)],.int .i64 e] w fun ex w'=>ex = .returned (numV D) /\ Below w.heap.size w w':=by
 have Hl0 : Hid (l.length <= 1099511627776):=by show _ <= _;omega
 have Hl1 : Hid (l.length <= 68719476736):=by show _ <= _;omega
 by_cases h0 : iv s l = 0
 . have h1:=dval_zero s l e h0
   rw [hD] at h1;subst h1;clear hD
   have h2 : sgnI (iv s l) = 0:=by rw [h0];rfl
   have H2:=lid h2;clear h2
   have Hv : Hid (numV 0 = .agg #[.bool false,.string (bs []),.int .i64 0]):=rfl
   go_enter Tryz.func48,Tryz.ntmps48
   have Hb : Hid (Below w.heap.size w w):=Below.refl _ _
   go_wp2_with fail
   obtain ⟨R,hR⟩ : ∃ R : World -> Prop,(fun W=>Blk W (w.heap.size) 34 [.bool s,.string (bs l)] /\ Blk W (w.heap.size + 1) 36 [.bool false,.string (bs []),.int .i64 0] /\ Below w.heap.size w W) = R:=⟨_,rfl⟩
   first | refine wp_world R ?hR ?_ | refine calls_world R ?hR ?_
   case hR=>subst hR;exact ⟨((Blk.newAt w _ _ (b:=w.heap.size) rfl).alloc _),(Blk.newAt (w.alloc _) _ _ (b:=w.heap.size + 1) (by simp)),(((Below.refl _ _).alloc (Nat.le_refl _) _).alloc (by simp<;>omega) _)⟩
   subst hR
   rintro W ⟨qx,qr,hbn⟩
   have Hx:=lid qx;clear qx
   have Hr:=lid qr;clear qr
   obtain ⟨x0,x1⟩:=Hx.out.c2
   obtain ⟨r0,fr0,r1,fr1,r2,fr2⟩:=Hr.out.g3
   replace Hb:=bnx Hb hbn;clear hbn
   go_wp2_with fail
   refine (wSign_any s l _ Hl0.out).mono ?_
   rintro e w1 ⟨rfl,hbn⟩
   clear x0 x1
   clear r0 fr0 r1 fr1 r2 fr2
   replace Hx:=kB Hx hbn
   replace Hr:=kB Hr hbn
   obtain ⟨x0,x1⟩:=Hx.out.c2
   obtain ⟨r0,fr0,r1,fr1,r2,fr2⟩:=Hr.out.g3
   replace Hb:=bnx Hb hbn;clear hbn
   rw [H2.out]
   go_wp2
   refine bodyPost_ret (v:=.agg #[.bool false,.string (bs []),.int .i64 0]) (by simp [results,Tryz.results48,go_sem,r0,r1,r2,bs_nil]) rfl ⟨by rw [Hv.out],?_⟩
   (repeat first | exact Hb.out | (refine Below.setCell ?_ (by have:=Hb.out.size;first | (dsimp only;omega) | (show _ <= _;omega) | (simp<;>omega)) _) | (refine Below.alloc ?_ (by have:=Hb.out.size;simp<;>omega) _) | refine Below.drew ?_)
 . obtain ⟨h1,h2⟩:=dval_parts s l e h0
   rw [hD] at h1 h2;clear hD
   have hg0 : sgnI (iv s l) ≠ 0:=by unfold sgnI;split<;>(try split)<;>omega
   have Hg : Hid (∃ g,sgnI (iv s l) = g /\ g ≠ 0):=⟨_,rfl,hg0⟩
   obtain ⟨g,hg,hg0⟩:=Hg.out
   have Hg:=lid hg;clear hg
   have hn : tz (nv l) <= 549755813888:=Nat.le_trans (tz_le (nv l) (8 * l.length) (by have:=nv_lt l;rwa [show (256 : Nat) = 2 ^ 8 by rfl,<- Nat.pow_mul] at this)) (by omega)
   obtain ⟨n,hn0⟩ : ∃ n,tz (nv l) = n:=⟨_,rfl⟩
   rw [hn0] at h1 h2 hn
   have Hn0:=lid hn0;clear hn0
   obtain ⟨Z,hZ⟩ : ∃ Z,dN D = Z:=⟨_,rfl⟩
   obtain ⟨E,hE⟩ : ∃ E,dE D = E:=⟨_,rfl⟩
   rw [hZ] at h1;rw [hE] at h2
   have HZ:=lid hZ;have HE:=lid hE;clear hZ hE
   have H1:=lid h1.symm;clear h1
   have hwn : IntKind.i64.wrap (-(n : Int)) = -(n : Int):=by rw [IntKind.wrap_i64];omega
   have hwe : IntKind.i64.wrap (e + (n : Int)) = E:=by rw [IntKind.wrap_i64];omega
   clear h0 h2
   go_enter Tryz.func48,Tryz.ntmps48
   have Hb : Hid (Below w.heap.size w w):=Below.refl _ _
   go_wp2_with fail
   obtain ⟨R,hR⟩ : ∃ R : World -> Prop,(fun W=>Blk W (w.heap.size) 34 [.bool s,.string (bs l)] /\ Blk W (w.heap.size + 1) 36 [.bool false,.string (bs []),.int .i64 0] /\ Below w.heap.size w W) = R:=⟨_,rfl⟩
   first | refine wp_world R ?hR ?_ | refine calls_world R ?hR ?_
   case hR=>subst hR;exact ⟨((Blk.newAt w _ _ (b:=w.heap.size) rfl).alloc _),(Blk.newAt (w.alloc _) _ _ (b:=w.heap.size + 1) (by simp)),(((Below.refl _ _).alloc (Nat.le_refl _) _).alloc (by simp<;>omega) _)⟩
   subst hR
   rintro W ⟨qx,qr,hbn⟩
   have Hx:=lid qx;clear qx
   have Hr:=lid qr;clear qr
   obtain ⟨x0,x1⟩:=Hx.out.c2
   obtain ⟨r0,fr0,r1,fr1,r2,fr2⟩:=Hr.out.g3
   replace Hb:=bnx Hb hbn;clear hbn
   go_wp2_with fail
   refine (wSign_any s l _ Hl0.out).mono ?_
   rintro e w1 ⟨rfl,hbn⟩
   clear x0 x1
   clear r0 fr0 r1 fr1 r2 fr2
   replace Hx:=kB Hx hbn
   replace Hr:=kB Hr hbn
   obtain ⟨x0,x1⟩:=Hx.out.c2
   obtain ⟨r0,fr0,r1,fr1,r2,fr2⟩:=Hr.out.g3
   replace Hb:=bnx Hb hbn;clear hbn
   rw [Hg.out]
   have HT:=lid (hT.below Hb.out)
   go_wp2_with fail
   refine (natZeros_any l _ Hl1.out HT.out).mono ?_
   rintro e w2 ⟨rfl,hbn⟩
   clear x0 x1
   clear r0 fr0 r1 fr1 r2 fr2
   replace Hx:=kB Hx hbn
   replace Hr:=kB Hr hbn
   obtain ⟨x0,x1⟩:=Hx.out.c2
   obtain ⟨r0,fr0,r1,fr1,r2,fr2⟩:=Hr.out.g3
   replace Hb:=bnx Hb hbn;clear hbn
   rw [Hn0.out]
   replace HT:=lid (hT.below Hb.out)
   go_wp2_with fail
   refine (shr_as s l n Z H1.out _ hl hn HT.out).mono ?_
   rintro e w3 ⟨rfl,hbn⟩
   clear x0 x1
   clear r0 fr0 r1 fr1 r2 fr2
   replace Hx:=kB Hx hbn
   replace Hr:=kB Hr hbn
   obtain ⟨x0,x1⟩:=Hx.out.c2
   obtain ⟨r0,fr0,r1,fr1,r2,fr2⟩:=Hr.out.g3
   replace Hb:=bnx Hb hbn;clear hbn
   go_wp2
   refine bodyPost_ret (v:=.agg #[.bool (sgnB Z),.string (bs (nt Z.natAbs)),.int .i64 E]) (by simp [results,Tryz.results48,go_sem,r0,r1,r2]) rfl ⟨by rw [<- HZ.out,<- HE.out],?_⟩
   (repeat first | exact Hb.out | (refine Below.setCell ?_ (by have:=Hb.out.size;first | (dsimp only;omega) | (show _ <= _;omega) | (simp<;>omega)) _) | (refine Below.alloc ?_ (by have:=Hb.out.size;simp<;>omega) _) | refine Below.drew ?_)
theorem Ok.len {s : Bool} {l : List UInt8} {e : Int} (h : Ok (s,l,e)) : l.length <= 268435456:=h.1
theorem Ok.exp {s : Bool} {l : List UInt8} {e : Int} (h : Ok (s,l,e)) : -268435456 <= e /\ e <= 268435456:=h.2
theorem form_any (s : Bool) (l : List UInt8) (e : Int) (D : Dyadic) (hD : dval (s,l,e) = D) (w : World) (hx : Ok (s,l,e)) (hT : Tab w) :
 Calls Tryz.prog 27 #[.agg #[.bool s,.string (bs l),.int .i64 e]] w fun ex w'=>ex = .returned (numV D) /\ Below w.heap.size w w':=by
 have HD:=lid hD;clear hD
 have h1:=hx.len;have h2:=hx.exp;clear hx
 have Hl : Hid (l.length <= 34359738368):=by show _ <= _;omega
 have He : Hid (-1099511627776 <= e /\ e <= 1099511627776):=by show _ /\ _;omega
 go_enter Tryz.func27,Tryz.ntmps27
 have Hb : Hid (Below w.heap.size w w):=Below.refl _ _
 go_wp2_with fail
 obtain ⟨R,hR⟩ : ∃ R : World -> Prop,(fun W=>Blk W (w.heap.size) 36 [.bool s,.string (bs l),.int .i64 e] /\ Blk W (w.heap.size + 1) 36 [.bool false,.string (bs []),.int .i64 0] /\ Below w.heap.size w W) = R:=⟨_,rfl⟩
 first | refine wp_world R ?hR ?_ | refine calls_world R ?hR ?_
 case hR=>subst hR;exact ⟨((Blk.newAt w _ _ (b:=w.heap.size) rfl).alloc _),(Blk.newAt (w.alloc _) _ _ (b:=w.heap.size + 1) (by simp)),(((Below.refl _ _).alloc (Nat.le_refl _) _).alloc (by simp<;>omega) _)⟩
 subst hR
 rintro W ⟨qx,qr,hbn⟩
 have Hx:=lid qx;clear qx
 have Hr:=lid qr;clear qr
 obtain ⟨x0,x1,x2⟩:=Hx.out.c3
 obtain ⟨r0,fr0,r1,fr1,r2,fr2⟩:=Hr.out.g3
 replace Hb:=bnx Hb hbn;clear hbn
 have HT:=lid (hT.below Hb.out)
 go_wp2_with fail
 refine (make_any s l e D HD.out _ Hl.out He.out HT.out).mono ?_
 rintro e w1 ⟨rfl,hbn⟩
 clear x0 x1 x2
 clear r0 fr0 r1 fr1 r2 fr2
 replace Hx:=kB Hx hbn
 replace Hr:=kB Hr hbn
 obtain ⟨x0,x1,x2⟩:=Hx.out.c3
 obtain ⟨r0,fr0,r1,fr1,r2,fr2⟩:=Hr.out.g3
 replace Hb:=bnx Hb hbn;clear hbn
 go_wp2
 refine bodyPost_ret (v:=numV D) (by simp [results,Tryz.results27,go_sem,r0,r1,r2]) rfl ⟨rfl,?_⟩
 (repeat first | exact Hb.out | (refine Below.setCell ?_ (by have:=Hb.out.size;first | (dsimp only;omega) | (show _ <= _;omega) | (simp<;>omega)) _) | (refine Below.alloc ?_ (by have:=Hb.out.size;simp<;>omega) _) | refine Below.drew ?_)
theorem shift_any (s : Bool) (l : List UInt8) (e n : Int) (D : Dyadic) (hD : dval (s,l,e + n) = D) (w : World) (hx : Ok (s,l,e)) (hn : -268435456 <= n /\ n <= 268435456) (hT : Tab w) :
 Calls Tryz.prog 37 #[.agg #[.bool s,.string (bs l),.int .i64 e],.int .i64 n] w fun ex w'=>ex = .returned (numV D) /\ Below w.heap.size w w':=by
 have h1:=hx.len;have h2:=hx.exp;clear hx
 obtain ⟨z,hz⟩ : ∃ z,e + n = z:=⟨_,rfl⟩
 have hwe : IntKind.i64.wrap (e + n) = z:=by rw [IntKind.wrap_i64];omega
 rw [hz] at hD
 have HD:=lid hD;clear hD
 have Hl : Hid (l.length <= 34359738368):=by show _ <= _;omega
 have He : Hid (-1099511627776 <= z /\ z <= 1099511627776):=by show _ /\ _;omega
 clear hz
 go_enter Tryz.func37,Tryz.ntmps37
 have Hb : Hid (Below w.heap.size w w):=Below.refl _ _
 go_wp2_with fail
 obtain ⟨R,hR⟩ : ∃ R : World -> Prop,(fun W=>Blk W (w.heap.size) 36 [.bool s,.string (bs l),.int .i64 e] /\ Blk W (w.heap.size + 1) 36 [.bool false,.string (bs []),.int .i64 0] /\ Below w.heap.size w W) = R:=⟨_,rfl⟩
 first | refine wp_world R ?hR ?_ | refine calls_world R ?hR ?_
 case hR=>subst hR;exact ⟨((Blk.newAt w _ _ (b:=w.heap.size) rfl).alloc _),(Blk.newAt (w.alloc _) _ _ (b:=w.heap.size + 1) (by simp)),(((Below.refl _ _).alloc (Nat.le_refl _) _).alloc (by simp<;>omega) _)⟩
 subst hR
 rintro W ⟨qx,qr,hbn⟩
 have Hx:=lid qx;clear qx
 have Hr:=lid qr;clear qr
 obtain ⟨x0,x1,x2⟩:=Hx.out.c3
 obtain ⟨r0,fr0,r1,fr1,r2,fr2⟩:=Hr.out.g3
 replace Hb:=bnx Hb hbn;clear hbn
 have HT:=lid (hT.below Hb.out)
 go_wp2_with fail
 refine (make_any s l z D HD.out _ Hl.out He.out HT.out).mono ?_
 rintro e w1 ⟨rfl,hbn⟩
 clear x0 x1 x2
 clear r0 fr0 r1 fr1 r2 fr2
 replace Hx:=kB Hx hbn
 replace Hr:=kB Hr hbn
 obtain ⟨x0,x1,x2⟩:=Hx.out.c3
 obtain ⟨r0,fr0,r1,fr1,r2,fr2⟩:=Hr.out.g3
 replace Hb:=bnx Hb hbn;clear hbn
 go_wp2
 refine bodyPost_ret (v:=numV D) (by simp [results,Tryz.results37,go_sem,r0,r1,r2]) rfl ⟨rfl,?_⟩
 (repeat first | exact Hb.out | (refine Below.setCell ?_ (by have:=Hb.out.size;first | (dsimp only;omega) | (show _ <= _;omega) | (simp<;>omega)) _) | (refine Below.alloc ?_ (by have:=Hb.out.size;simp<;>omega) _) | refine Below.drew ?_)
theorem sgnI_dN (s : Bool) (l : List UInt8) (e : Int) : sgnI (iv s l) = sgnI (dN (dval (s,l,e))):=by
 by_cases h0 : iv s l = 0
 . rw [dval_zero s l e h0,h0,dN_zero]
 . rw [(dval_parts s l e h0).1]
   obtain ⟨q,hq⟩ : (2 : Int) ^ tz (nv l) ∣ iv s l:=by
    rw [show tz (nv l) = (iv s l).trailingZeros by rw [<- iv_abs s l];exact tz_int _]
    exact Int.two_pow_trailingZeros_dvd h0
   have hp : (0 : Int) < 2 ^ tz (nv l):=by
    have : ((2 ^ tz (nv l) : Nat) : Int) > 0:=by have:=Nat.pow_pos (n:=tz (nv l)) (show 0 < 2 by decide);omega
    simpa [Int.natCast_pow] using this
   generalize (2 : Int) ^ tz (nv l) = p at *
   rw [hq,Int.mul_ediv_cancel_left _ (by omega)]
   unfold sgnI
   rcases Int.lt_trichotomy q 0 with h | h | h
   . have:=Int.mul_neg_of_pos_of_neg hp h;simp only [h,this,if_true]
   . subst h;simp
   . have:=Int.mul_pos hp h
     rw [if_neg (by omega),if_neg (by omega),if_neg (by omega),if_neg (by omega)]
abbrev dsg (d : Dyadic) : Int:=sgnI (dN d)
theorem dsign_any (s : Bool) (l : List UInt8) (e : Int) (g : Int) (hg : dsg (dval (s,l,e)) = g) (w : World) (hx : Ok (s,l,e)) :
 Calls Tryz.prog 52 #[.agg #[.bool s,.string (bs l),.int .i64 e]] w fun ex w'=>ex = .returned (.int .i64 g) /\ Below w.heap.size w w':=by
 have h1:=hx.len;clear hx
 have Hg : Hid (sgnI (iv s l) = g):=by show _ = _;rw [<- hg];exact sgnI_dN s l e
 have Hl : Hid (l.length <= 1099511627776):=by show _ <= _;omega
 clear hg
 go_enter Tryz.func52,Tryz.ntmps52
 have Hb : Hid (Below w.heap.size w w):=Below.refl _ _
 go_wp2_with fail
 obtain ⟨R,hR⟩ : ∃ R : World -> Prop,(fun W=>Blk W (w.heap.size) 36 [.bool s,.string (bs l),.int .i64 e] /\ Below w.heap.size w W) = R:=⟨_,rfl⟩
 first | refine wp_world R ?hR ?_ | refine calls_world R ?hR ?_
 case hR=>subst hR;exact ⟨(Blk.newAt w _ _ (b:=w.heap.size) rfl),((Below.refl _ _).alloc (Nat.le_refl _) _)⟩
 subst hR
 rintro W ⟨qx,hbn⟩
 have Hx:=lid qx;clear qx
 obtain ⟨x0,x1,x2⟩:=Hx.out.c3
 replace Hb:=bnx Hb hbn;clear hbn
 go_wp2_with fail
 refine (wSign_any s l _ Hl.out).mono ?_
 rintro e w1 ⟨rfl,hbn⟩
 clear x0 x1 x2
 replace Hx:=kB Hx hbn
 obtain ⟨x0,x1,x2⟩:=Hx.out.c3
 replace Hb:=bnx Hb hbn;clear hbn
 rw [Hg.out]
 go_wp2
 go_ret
 exact ⟨rfl,Hb.out⟩
theorem dval_int (n e : Int) : dval (sgnB n,nt n.natAbs,e) = Dyadic.ofIntWithPrec n (-e):=by
 unfold dval;simp only [iv_int]
theorem dOf_any (n : Int) (D : Dyadic) (hD : Dyadic.ofIntWithPrec n 0 = D) (w : World) (hn : -9223372036854775808 <= n /\ n <= 9223372036854775807) (hT : Tab w) :
 Calls Tryz.prog 46 #[.int .i64 n] w fun ex w'=>ex = .returned (numV D) /\ Below w.heap.size w w':=by
 obtain ⟨N,hN⟩ : ∃ N,n = N:=⟨_,rfl⟩
 have HD : Hid (dval (sgnB N,nt N.natAbs,0) = D):=by show _ = _;rw [dval_int,<- hN];exact hD
 have Hl : Hid ((nt N.natAbs).length <= 34359738368):=by
  show _ <= _
  exact Nat.le_trans (nt_length_le (k:=8) (by omega)) (by decide)
 have HN:=lid hN;clear hN hD
 go_enter Tryz.func46,Tryz.ntmps46
 have Hb : Hid (Below w.heap.size w w):=Below.refl _ _
 go_wp2_with fail
 obtain ⟨R,hR⟩ : ∃ R : World -> Prop,(fun W=>Blk W (w.heap.size) 36 [.bool false,.string (bs []),.int .i64 0] /\ Below w.heap.size w W) = R:=⟨_,rfl⟩
 first | refine wp_world R ?hR ?_ | refine calls_world R ?hR ?_
 case hR=>subst hR;exact ⟨(Blk.newAt w _ _ (b:=w.heap.size) rfl),((Below.refl _ _).alloc (Nat.le_refl _) _)⟩
 subst hR
 rintro W ⟨qr,hbn⟩
 have Hr:=lid qr;clear qr
 obtain ⟨r0,fr0,r1,fr1,r2,fr2⟩:=Hr.out.g3
 replace Hb:=bnx Hb hbn;clear hbn
 go_wp2_with fail
 refine (wOf_as n N HN.out _ hn.1 hn.2).mono ?_
 rintro e w1 ⟨rfl,hbn⟩
 clear r0 fr0 r1 fr1 r2 fr2
 replace Hr:=kB Hr hbn
 obtain ⟨r0,fr0,r1,fr1,r2,fr2⟩:=Hr.out.g3
 replace Hb:=bnx Hb hbn;clear hbn
 have HT:=lid (hT.below Hb.out)
 go_wp2_with fail
 refine (make_any (sgnB N) (nt N.natAbs) 0 D HD.out _ Hl.out (by omega) HT.out).mono ?_
 rintro e w2 ⟨rfl,hbn⟩
 clear r0 fr0 r1 fr1 r2 fr2
 replace Hr:=kB Hr hbn
 obtain ⟨r0,fr0,r1,fr1,r2,fr2⟩:=Hr.out.g3
 replace Hb:=bnx Hb hbn;clear hbn
 go_wp2
 refine bodyPost_ret (v:=numV D) (by simp [results,Tryz.results46,go_sem,r0,r1,r2]) rfl ⟨rfl,?_⟩
 (repeat first | exact Hb.out | (refine Below.setCell ?_ (by have:=Hb.out.size;first | (dsimp only;omega) | (show _ <= _;omega) | (simp<;>omega)) _) | (refine Below.alloc ?_ (by have:=Hb.out.size;simp<;>omega) _) | refine Below.drew ?_)
theorem dNeg_any (s : Bool) (l : List UInt8) (e : Int) (D : Dyadic) (hD : -dval (s,l,e) = D) (w : World) (hx : Ok (s,l,e)) (hT : Tab w) :
 Calls Tryz.prog 102 #[.agg #[.bool s,.string (bs l),.int .i64 e]] w fun ex w'=>ex = .returned (numV D) /\ Below w.heap.size w w':=by
 have h1:=hx.len;have h2:=hx.exp;clear hx
 obtain ⟨N,hN⟩ : ∃ N,-(iv s l) = N:=⟨_,rfl⟩
 have HD : Hid (dval (sgnB N,nt N.natAbs,e) = D):=by
  show _ = _
  rw [dval_int,<- hN,<- hD];unfold dval;rw [owp_neg]
 have Hl : Hid ((nt N.natAbs).length <= 34359738368):=by
  show _ <= _;rw [<- hN];exact neg_len s l _ (by omega)
 have Hl0 : Hid (l.length <= 1099511627776):=by show _ <= _;omega
 have He : Hid (-1099511627776 <= e /\ e <= 1099511627776):=by show _ /\ _;omega
 have HN:=lid hN;clear hN hD
 go_enter Tryz.func102,Tryz.ntmps102
 have Hb : Hid (Below w.heap.size w w):=Below.refl _ _
 go_wp2_with fail
 obtain ⟨R,hR⟩ : ∃ R : World -> Prop,(fun W=>Blk W (w.heap.size) 36 [.bool s,.string (bs l),.int .i64 e] /\ Blk W (w.heap.size + 1) 36 [.bool false,.string (bs []),.int .i64 0] /\ Below w.heap.size w W) = R:=⟨_,rfl⟩
 first | refine wp_world R ?hR ?_ | refine calls_world R ?hR ?_
 case hR=>subst hR;exact ⟨((Blk.newAt w _ _ (b:=w.heap.size) rfl).alloc _),(Blk.newAt (w.alloc _) _ _ (b:=w.heap.size + 1) (by simp)),(((Below.refl _ _).alloc (Nat.le_refl _) _).alloc (by simp<;>omega) _)⟩
 subst hR
 rintro W ⟨qx,qr,hbn⟩
 have Hx:=lid qx;clear qx
 have Hr:=lid qr;clear qr
 obtain ⟨x0,x1,x2⟩:=Hx.out.c3
 obtain ⟨r0,fr0,r1,fr1,r2,fr2⟩:=Hr.out.g3
 replace Hb:=bnx Hb hbn;clear hbn
 refine wp_region_plan (fun w'=>w'.cell? ⟨w.heap.size,0,none⟩ = some (.bool s) /\ w'.cell? ⟨w.heap.size,1,none⟩ = some (.string (bs l)) /\ w'.cell? ⟨w.heap.size,2,none⟩ = some (.int .i64 e)) (fun i=>Nat.blt i 6) [(0,true),(1,true),(3,true),(4,true),(2,false),(5,false),(6,false)] (by kernel_rfl) (by kernel_rfl) rfl (by kernel_rfl) (fun o c a v w=>by cases o.dst<;>exact id) ⟨x0,x1,x2⟩ ?_
 iterate 4 (refine planT rfl rfl (v:=?_) (fun w' hw'=>?_) ?_;rotate_left;(focus obtain ⟨q0,q1,q2⟩:=hw';go_simp;try with_reducible rfl);try simp only [Act.put,U1,U2,U3])
 refine planF rfl rfl (fun K hK=>?_)
 go_simp
 with_reducible refine (wNeg_as s l N HN.out _ Hl0.out).mono ?_
 rintro e w1 ⟨rfl,hq⟩
 have hbn : Below W.heap.size W w1:=by first | exact hq | exact bundrew hq
 clear x0 x1 x2
 clear r0 fr0 r1 fr1 r2 fr2
 replace Hx:=kB Hx hbn
 replace Hr:=kB Hr hbn
 obtain ⟨x0,x1,x2⟩:=Hx.out.c3
 obtain ⟨r0,fr0,r1,fr1,r2,fr2⟩:=Hr.out.g3
 replace Hb:=bnx Hb hbn;clear hbn
 refine hK _ _ (fun _=>⟨x0,x1,x2⟩) ?_;clear hK K
 try simp only [Act.put,U1,U2,U3]
 refine planF rfl rfl (fun K hK=>?_)
 go_simp
 with_reducible refine (make_any (sgnB N) (nt N.natAbs) e D HD.out _ Hl.out He.out (hT.below Hb.out)).mono ?_
 rintro e w2 ⟨rfl,hq⟩
 have hbn : Below w1.heap.size w1 w2:=by first | exact hq | exact bundrew hq
 clear x0 x1 x2
 clear r0 fr0 r1 fr1 r2 fr2
 replace Hx:=kB Hx hbn
 replace Hr:=kB Hr hbn
 obtain ⟨x0,x1,x2⟩:=Hx.out.c3
 obtain ⟨r0,fr0,r1,fr1,r2,fr2⟩:=Hr.out.g3
 replace Hb:=bnx Hb hbn;clear hbn
 refine hK _ _ (fun _=>⟨x0,x1,x2⟩) ?_;clear hK K
 try simp only [Act.put,U1,U2,U3]
 refine planF rfl rfl (fun K hK=>?_)
 go_simp
 refine hK _ _ (fun h=>absurd h (by decide)) ?_;clear hK K
 try simp only [Act.put,U1,U2,U3]
 clear x0 x1 x2
 clear r0 fr0 r1 fr1 r2 fr2
 refine plan_world (fun w3=>Blk w3 (w.heap.size) 36 [.bool s,.string (bs l),.int .i64 e] /\ Blk w3 (w.heap.size + 1) 36 [.bool (sgnB (dN D)),.string (bs (nt (dN D).natAbs)),.int .i64 (dE D)] /\ Below w.heap.size w w3) ⟨(((Hx.out.so (w.heap.size + 1) 0 (by omega) _).so (w.heap.size + 1) 1 (by omega) _).so (w.heap.size + 1) 2 (by omega) _),(((Hr.out.set 0 _).set 1 _).set 2 _),by first | exact (((Hb.out.sc (w.heap.size + 1) 0 (by have:=Hb.out.size;omega) _).sc (w.heap.size + 1) 1 (by have:=Hb.out.size;omega) _).sc (w.heap.size + 1) 2 (by have:=Hb.out.size;omega) _) | exact Below.drew (((Hb.out.sc (w.heap.size + 1) 0 (by have:=Hb.out.size;omega) _).sc (w.heap.size + 1) 1 (by have:=Hb.out.size;omega) _).sc (w.heap.size + 1) 2 (by have:=Hb.out.size;omega) _)⟩ ?_
 rintro w3 ⟨qx,qr,hbn⟩
 replace Hx:=lid qx;clear qx
 replace Hr:=lid qr;clear qr
 obtain ⟨x0,x1,x2⟩:=Hx.out.c3
 obtain ⟨r0,fr0,r1,fr1,r2,fr2⟩:=Hr.out.g3
 replace Hb:=lid hbn;clear hbn
 simp only [wpPlan]
 go_wp2
 refine bodyPost_ret (v:=numV D) (by simp [results,Tryz.results102,go_sem,r0,r1,r2]) rfl ⟨rfl,?_⟩
 (repeat first | exact Hb.out | (refine Below.setCell ?_ (by have:=Hb.out.size;first | (dsimp only;omega) | (show _ <= _;omega) | (simp<;>omega)) _) | (refine Below.alloc ?_ (by have:=Hb.out.size;simp<;>omega) _) | refine Below.drew ?_)
theorem Tab.drew {w : World} (h : Tab w) : Tab w.drew:=h
theorem Tab.alloc {w : World} (h : Tab w) (o : Obj) : Tab (w.alloc o):=fun j hj=>cell_new (h j hj)
def shz (v k : Int) : Int:=if 0 <= k then v * 2 ^ k.toNat else v / 2 ^ (-k).toNat
theorem wShift_as (s : Bool) (l : List UInt8) (k Z : Int) (hZ : shz (iv s l) k = Z) (w : World) (hl : l.length <= 34359738368) (hk : -549755813888 <= k /\ k <= 549755813888) (hT : Tab w) :
 Calls Tryz.prog 69 #[.agg #[.bool s,.string (bs l)],.int .i64 k] w fun e w'=>e = .returned (intV Z) /\ Below w.heap.size w w':=by
 subst hZ
 unfold shz
 split
 . rename_i h
   have:=wShl_any s l k.toNat w (by omega) (by omega)
   rw [Int.toNat_of_nonneg h] at this
   exact this
 . rename_i h
   have:=wShr_any s l (-k).toNat w hl (by omega) (by omega) hT
   rw [Int.toNat_of_nonneg (by omega),Int.neg_neg] at this
   exact this
theorem on_any (s : Bool) (l : List UInt8) (e g Z : Int) (hZ : shz (iv s l) (e - g) = Z) (w : World) (hl : l.length <= 34359738368) (hk : -549755813888 <= e - g /\ e - g <= 549755813888) (hT : Tab w) :
 Calls Tryz.prog 70 #[.int .i64 g,.agg #[.bool s,.string (bs l),.int .i64 e]] w fun e w'=>e = .returned (intV Z) /\ Below w.heap.size w w':=by
 obtain ⟨k,hk0⟩ : ∃ k,e - g = k:=⟨_,rfl⟩
 have hwe : IntKind.i64.wrap (e - g) = k:=by rw [IntKind.wrap_i64];omega
 rw [hk0] at hZ hk
 have HZ:=lid hZ;clear hZ hk0
 go_enter Tryz.func70,Tryz.ntmps70
 have Hb : Hid (Below w.heap.size w w):=Below.refl _ _
 go_wp2_with fail
 obtain ⟨R,hR⟩ : ∃ R : World -> Prop,(fun W=>Blk W (w.heap.size) 36 [.bool s,.string (bs l),.int .i64 e] /\ Blk W (w.heap.size + 1) 34 [.bool false,.string (bs [])] /\ Below w.heap.size w W) = R:=⟨_,rfl⟩
 first | refine wp_world R ?hR ?_ | refine calls_world R ?hR ?_
 case hR=>subst hR;exact ⟨((Blk.newAt w _ _ (b:=w.heap.size) rfl).alloc _),(Blk.newAt (w.alloc _) _ _ (b:=w.heap.size + 1) (by simp)),(((Below.refl _ _).alloc (Nat.le_refl _) _).alloc (by simp<;>omega) _)⟩
 subst hR
 rintro W ⟨qx,qr,hbn⟩
 have Hx:=lid qx;clear qx
 have Hr:=lid qr;clear qr
 obtain ⟨x0,x1,x2⟩:=Hx.out.c3
 obtain ⟨r0,fr0,r1,fr1⟩:=Hr.out.g2
 replace Hb:=bnx Hb hbn;clear hbn
 have HT:=lid (hT.below Hb.out)
 go_wp2_with fail
 refine (wShift_as s l k Z HZ.out _ hl hk HT.out).mono ?_
 rintro e w1 ⟨rfl,hbn⟩
 clear x0 x1 x2
 clear r0 fr0 r1 fr1
 replace Hx:=kB Hx hbn
 replace Hr:=kB Hr hbn
 obtain ⟨x0,x1,x2⟩:=Hx.out.c3
 obtain ⟨r0,fr0,r1,fr1⟩:=Hr.out.g2
 replace Hb:=bnx Hb hbn;clear hbn
 go_wp2
 refine bodyPost_ret (v:=intV Z) (by simp [results,Tryz.results70,go_sem,r0,r1]) rfl ⟨rfl,?_⟩
 (repeat first | exact Hb.out | (refine Below.setCell ?_ (by have:=Hb.out.size;first | (dsimp only;omega) | (show _ <= _;omega) | (simp<;>omega)) _) | (refine Below.alloc ?_ (by have:=Hb.out.size;simp<;>omega) _) | refine Below.drew ?_)
def lvG (A B : Dyadic) : Int:=if A = 0 then dE B else if B = 0 then dE A else min (dE A) (dE B)
theorem owp_parts (A : Dyadic) : A = Dyadic.ofIntWithPrec (dN A) (-(dE A)):=by
 have:=dval_canon A
 unfold dval canon at this
 simp only [iv_int] at this
 exact this.symm
theorem owp_on (A : Dyadic) (g : Int) (h : A = 0 \/ g <= dE A) : A = Dyadic.ofIntWithPrec (shz (dN A) (dE A - g)) (-g):=by
 rcases h with h | h
 . subst h
   have : shz (dN 0) (dE 0 - g) = 0:=by unfold shz;rw [dN_zero];split<;>simp
   rw [this,owp_zero]
 . unfold shz
   rw [if_pos (by omega)]
   have:=owp_shift (dN A) (dE A - g).toNat (-(dE A))
   rw [show -(dE A) + ((dE A - g).toNat : Int) = -g by omega] at this
   rw [this]
   exact owp_parts A
theorem lvG_le (A B : Dyadic) : (A = 0 \/ lvG A B <= dE A) /\ (B = 0 \/ lvG A B <= dE B):=by
 unfold lvG
 split
 . exact ⟨.inl ‹_›,.inr (by omega)⟩
 . split
   . exact ⟨.inr (by omega),.inl ‹_›⟩
   . exact ⟨.inr (by omega),.inr (by omega)⟩
theorem numV_eq {A : Dyadic} : A = 0 \/ ((nt (dN A).natAbs) ≠ [] /\ A ≠ 0):=by
 by_cases h : A = 0
 . exact .inl h
 . refine .inr ⟨?_,h⟩
   intro h2
   apply h
   have : (dN A).natAbs = 0:=by rw [<- nv_nt (dN A).natAbs,h2];rfl
   rw [owp_parts A,show dN A = 0 by omega,owp_zero]
theorem Ok.parts {x : Raw} (h : Ok x) : (nt (dN (dval x)).natAbs).length <= 1073741824 /\ -4294967296 <= dE (dval x) /\ dE (dval x) <= 4294967296:=by
 obtain ⟨B,hB,hs⟩ : ∃ B,B <= 4294967296 /\ Sm B (dval x):=⟨4294967296,Nat.le_refl _,h.sm⟩
 obtain ⟨h1,h2,h3⟩:=hs.parts
 exact ⟨len_of_bits h1 (by omega),by clear h1;omega,by clear h1;omega⟩
theorem level_any (s : Bool) (l : List UInt8) (e : Int) (t : Bool) (m : List UInt8) (f : Int) (A B : Dyadic) (hA : dval (s,l,e) = A) (hB : dval (t,m,f) = B) (g X Y : Int) (hg : lvG A B = g) (hX : shz (dN A) (dE A - g) = X) (hY : shz (dN B) (dE B - g) = Y)
 (w : World) (hx : Ok (s,l,e)) (hy : Ok (t,m,f)) (hT : Tab w) :
 Calls Tryz.prog 49 #[.agg #[.bool s,.string (bs l),.int .i64 e],.agg #[.bool t,.string (bs m),.int .i64 f]] w fun ex w'=>ex = .returned (.agg #[.int .i64 g,.bool (sgnB X),.string (bs (nt X.natAbs)),.bool (sgnB Y),.string (bs (nt Y.natAbs))]) /\ Below w.heap.size w w':=by
 have pA:=hx.parts;rw [hA] at pA
 have pB:=hy.parts;rw [hB] at pB
 have HA:=lid hA;have HB:=lid hB;clear hA hB
 obtain ⟨a,ha⟩ : ∃ a,nt (dN A).natAbs = a:=⟨_,rfl⟩
 obtain ⟨p,hp⟩ : ∃ p,sgnB (dN A) = p:=⟨_,rfl⟩
 obtain ⟨i,hi⟩ : ∃ i,dE A = i:=⟨_,rfl⟩
 obtain ⟨b,hb⟩ : ∃ b,nt (dN B).natAbs = b:=⟨_,rfl⟩
 obtain ⟨q,hq⟩ : ∃ q,sgnB (dN B) = q:=⟨_,rfl⟩
 obtain ⟨j,hj⟩ : ∃ j,dE B = j:=⟨_,rfl⟩
 have hX2 : shz (iv p a) (i - g) = X:=by rw [<- hp,<- ha,iv_int,<- hi];exact hX
 have hY2 : shz (iv q b) (j - g) = Y:=by rw [<- hq,<- hb,iv_int,<- hj];exact hY
 have Hform1 : Hid (∀ W,Tab W -> Calls Tryz.prog 27 #[.agg #[.bool s,.string (bs l),.int .i64 e]] W fun ex w'=>ex = .returned (.agg #[.bool p,.string (bs a),.int .i64 i]) /\ Below W.heap.size W w'):=by
  intro W hW;rw [<- hp,<- ha,<- hi];exact form_any s l e A HA.out W hx hW
 have Hform2 : Hid (∀ W,Tab W -> Calls Tryz.prog 27 #[.agg #[.bool t,.string (bs m),.int .i64 f]] W fun ex w'=>ex = .returned (.agg #[.bool q,.string (bs b),.int .i64 j]) /\ Below W.heap.size W w'):=by
  intro W hW;rw [<- hq,<- hb,<- hj];exact form_any t m f B HB.out W hy hW
 have hlv : (A = 0 /\ g = j) \/ (A ≠ 0 /\ B = 0 /\ g = i) \/ (A ≠ 0 /\ B ≠ 0 /\ g = min i j):=by
  rw [<- hg];unfold lvG
  by_cases h1 : A = 0
  . simp [h1,hj]
  . by_cases h2 : B = 0<;>simp [h1,h2,hi,hj]
 rw [ha,hi] at pA;rw [hb,hj] at pB
 have zA : A = 0 -> (p = false /\ a = [] /\ i = 0):=by rintro rfl;exact ⟨hp.symm,ha.symm,hi.symm⟩
 have zB : B = 0 -> (q = false /\ b = [] /\ j = 0):=by rintro rfl;exact ⟨hq.symm,hb.symm,hj.symm⟩
 have nA : A ≠ 0 -> a ≠ []:=by intro h;rw [<- ha];rcases numV_eq (A:=A) with h2 | h2;exact absurd h2 h;exact h2.1
 have nB : B ≠ 0 -> b ≠ []:=by intro h;rw [<- hb];rcases numV_eq (A:=B) with h2 | h2;exact absurd h2 h;exact h2.1
 have hgi : -549755813888 <= i - g /\ i - g <= 549755813888:=by rcases hlv with ⟨_,h⟩ | ⟨_,_,h⟩ | ⟨_,_,h⟩<;>omega
 have hgj : -549755813888 <= j - g /\ j - g <= 549755813888:=by rcases hlv with ⟨_,h⟩ | ⟨_,_,h⟩ | ⟨_,_,h⟩<;>omega
 have HX:=lid hX2;have HY:=lid hY2
 have La : Hid (a.length <= 34359738368):=by show _ <= _;omega
 have Lb : Hid (b.length <= 34359738368):=by show _ <= _;omega
 have Hgi:=lid hgi;have Hgj:=lid hgj
 clear hX2 hY2 hX hY hg ha hp hi hb hq hj hgi hgj HA HB hx hy
 go_enter Tryz.func49,Tryz.ntmps49
 have Hb : Hid (Below w.heap.size w w):=Below.refl _ _
 go_wp2_with fail
 obtain ⟨R,hR⟩ : ∃ R : World -> Prop,(fun W=>Blk W (w.heap.size) 36 [.bool s,.string (bs l),.int .i64 e] /\ Blk W (w.heap.size + 1) 36 [.bool t,.string (bs m),.int .i64 f] /\ Blk W (w.heap.size + 1 + 1) 99 [.int .i64 0,.bool false,.string (bs []),.bool false,.string (bs [])] /\ Below w.heap.size w W) = R:=⟨_,rfl⟩
 first | refine wp_world R ?hR ?_ | refine calls_world R ?hR ?_
 case hR=>subst hR;exact ⟨(((Blk.newAt w _ _ (b:=w.heap.size) rfl).alloc _).alloc _),((Blk.newAt (w.alloc _) _ _ (b:=w.heap.size + 1) (by simp)).alloc _),(Blk.newAt ((w.alloc _).alloc _) _ _ (b:=w.heap.size + 1 + 1) (by simp)),((((Below.refl _ _).alloc (Nat.le_refl _) _).alloc (by simp<;>omega) _).alloc (by simp<;>omega) _)⟩
 subst hR
 rintro W ⟨qx,qy,qr,hbn⟩
 have Hx:=lid qx;clear qx
 have Hy:=lid qy;clear qy
 have Hr:=lid qr;clear qr
 obtain ⟨x0,fx0,x1,fx1,x2,fx2⟩:=Hx.out.g3
 obtain ⟨y0,fy0,y1,fy1,y2,fy2⟩:=Hy.out.g3
 obtain ⟨r0,fr0,r1,fr1,r2,fr2,r3,fr3,r4,fr4⟩:=Hr.out.g5
 replace Hb:=bnx Hb hbn;clear hbn
 have HT:=lid (hT.below Hb.out)
 refine wp_region_plan (fun w'=>w'.cell? ⟨w.heap.size,0,none⟩ = some (.bool s) /\ w'.cell? ⟨w.heap.size,1,none⟩ = some (.string (bs l)) /\ w'.cell? ⟨w.heap.size,2,none⟩ = some (.int .i64 e) /\ w'.cell? ⟨w.heap.size + 1,0,none⟩ = some (.bool t) /\ w'.cell? ⟨w.heap.size + 1,1,none⟩ = some (.string (bs m)) /\ w'.cell? ⟨w.heap.size + 1,2,none⟩ = some (.int .i64 f)) (fun i=>Nat.blt i 4) [(0,true),(2,true),(1,false),(3,false),(4,false),(5,false)] (by kernel_rfl) (by kernel_rfl) rfl (by kernel_rfl) (fun o c a v w=>by cases o.dst<;>exact id) ⟨x0,x1,x2,y0,y1,y2⟩ ?_
 iterate 2 (refine planT rfl rfl (v:=?_) (fun w' hw'=>?_) ?_;rotate_left;(focus obtain ⟨q0,q1,q2,q3,q4,q5⟩:=hw';go_simp;try with_reducible rfl);try simp only [Act.put,U1,U2,U3])
 refine planF rfl rfl (fun K hK=>?_)
 go_simp
 with_reducible refine (Hform1.out _ (by first | exact HT.out | exact Tab.drew HT.out | exact Tab.alloc HT.out _ | exact Tab.drew (Tab.alloc HT.out _) | exact Tab.alloc (Tab.drew HT.out) _)).mono ?_
 rintro e w1 ⟨rfl,hq⟩
 have hbn : Below W.heap.size W w1:=by first | exact hq | exact bundrew hq
 clear x0 fx0 x1 fx1 x2 fx2
 clear y0 fy0 y1 fy1 y2 fy2
 clear r0 fr0 r1 fr1 r2 fr2 r3 fr3 r4 fr4
 replace Hx:=kB Hx hbn
 replace Hy:=kB Hy hbn
 replace Hr:=kB Hr hbn
 obtain ⟨x0,fx0,x1,fx1,x2,fx2⟩:=Hx.out.g3
 obtain ⟨y0,fy0,y1,fy1,y2,fy2⟩:=Hy.out.g3
 obtain ⟨r0,fr0,r1,fr1,r2,fr2,r3,fr3,r4,fr4⟩:=Hr.out.g5
 replace Hb:=bnx Hb hbn;clear hbn
 refine hK _ _ (fun _=>⟨x0,x1,x2,y0,y1,y2⟩) ?_;clear hK K
 try simp only [Act.put,U1,U2,U3]
 refine planF rfl rfl (fun K hK=>?_)
 go_simp
 with_reducible refine (Hform2.out _ (by first | exact (hT.below Hb.out) | exact Tab.drew (hT.below Hb.out) | exact Tab.alloc (hT.below Hb.out) _ | exact Tab.drew (Tab.alloc (hT.below Hb.out) _) | exact Tab.alloc (Tab.drew (hT.below Hb.out)) _)).mono ?_
 rintro e w2 ⟨rfl,hq⟩
 have hbn : Below w1.heap.size w1 w2:=by first | exact hq | exact bundrew hq
 clear x0 fx0 x1 fx1 x2 fx2
 clear y0 fy0 y1 fy1 y2 fy2
 clear r0 fr0 r1 fr1 r2 fr2 r3 fr3 r4 fr4
 replace Hx:=kB Hx hbn
 replace Hy:=kB Hy hbn
 replace Hr:=kB Hr hbn
 obtain ⟨x0,fx0,x1,fx1,x2,fx2⟩:=Hx.out.g3
 obtain ⟨y0,fy0,y1,fy1,y2,fy2⟩:=Hy.out.g3
 obtain ⟨r0,fr0,r1,fr1,r2,fr2,r3,fr3,r4,fr4⟩:=Hr.out.g5
 replace Hb:=bnx Hb hbn;clear hbn
 refine hK _ _ (fun _=>⟨x0,x1,x2,y0,y1,y2⟩) ?_;clear hK K
 try simp only [Act.put,U1,U2,U3]
 refine planF rfl rfl (fun K hK=>?_)
 go_simp
 refine hK _ _ (fun h=>absurd h (by decide)) ?_;clear hK K
 try simp only [Act.put,U1,U2,U3]
 clear x0 fx0 x1 fx1 x2 fx2
 clear y0 fy0 y1 fy1 y2 fy2
 clear r0 fr0 r1 fr1 r2 fr2 r3 fr3 r4 fr4
 refine plan_world (fun w3=>Blk w3 (w.heap.size) 36 [.bool p,.string (bs a),.int .i64 i] /\ Blk w3 (w.heap.size + 1) 36 [.bool t,.string (bs m),.int .i64 f] /\ Blk w3 (w.heap.size + 1 + 1) 99 [.int .i64 0,.bool false,.string (bs []),.bool false,.string (bs [])] /\ Below w.heap.size w w3) ⟨(((Hx.out.set 0 _).set 1 _).set 2 _),(((Hy.out.so (w.heap.size) 0 (by omega) _).so (w.heap.size) 1 (by omega) _).so (w.heap.size) 2 (by omega) _),(((Hr.out.so (w.heap.size) 0 (by omega) _).so (w.heap.size) 1 (by omega) _).so (w.heap.size) 2 (by omega) _),by first | exact (((Hb.out.sc (w.heap.size) 0 (by have:=Hb.out.size;omega) _).sc (w.heap.size) 1 (by have:=Hb.out.size;omega) _).sc (w.heap.size) 2 (by have:=Hb.out.size;omega) _) | exact Below.drew (((Hb.out.sc (w.heap.size) 0 (by have:=Hb.out.size;omega) _).sc (w.heap.size) 1 (by have:=Hb.out.size;omega) _).sc (w.heap.size) 2 (by have:=Hb.out.size;omega) _)⟩ ?_
 rintro w3 ⟨qx,qy,qr,hbn⟩
 replace Hx:=lid qx;clear qx
 replace Hy:=lid qy;clear qy
 replace Hr:=lid qr;clear qr
 obtain ⟨x0,fx0,x1,fx1,x2,fx2⟩:=Hx.out.g3
 obtain ⟨y0,fy0,y1,fy1,y2,fy2⟩:=Hy.out.g3
 obtain ⟨r0,fr0,r1,fr1,r2,fr2,r3,fr3,r4,fr4⟩:=Hr.out.g5
 replace Hb:=lid hbn;clear hbn
 refine planF rfl rfl (fun K hK=>?_)
 go_simp
 refine hK _ _ (fun h=>absurd h (by decide)) ?_;clear hK K
 try simp only [Act.put,U1,U2,U3]
 clear x0 fx0 x1 fx1 x2 fx2
 clear y0 fy0 y1 fy1 y2 fy2
 clear r0 fr0 r1 fr1 r2 fr2 r3 fr3 r4 fr4
 refine plan_world (fun w4=>Blk w4 (w.heap.size) 36 [.bool p,.string (bs a),.int .i64 i] /\ Blk w4 (w.heap.size + 1) 36 [.bool q,.string (bs b),.int .i64 j] /\ Blk w4 (w.heap.size + 1 + 1) 99 [.int .i64 0,.bool false,.string (bs []),.bool false,.string (bs [])] /\ Below w.heap.size w w4) ⟨(((Hx.out.so (w.heap.size + 1) 0 (by omega) _).so (w.heap.size + 1) 1 (by omega) _).so (w.heap.size + 1) 2 (by omega) _),(((Hy.out.set 0 _).set 1 _).set 2 _),(((Hr.out.so (w.heap.size + 1) 0 (by omega) _).so (w.heap.size + 1) 1 (by omega) _).so (w.heap.size + 1) 2 (by omega) _),by first | exact (((Hb.out.sc (w.heap.size + 1) 0 (by have:=Hb.out.size;omega) _).sc (w.heap.size + 1) 1 (by have:=Hb.out.size;omega) _).sc (w.heap.size + 1) 2 (by have:=Hb.out.size;omega) _) | exact Below.drew (((Hb.out.sc (w.heap.size + 1) 0 (by have:=Hb.out.size;omega) _).sc (w.heap.size + 1) 1 (by have:=Hb.out.size;omega) _).sc (w.heap.size + 1) 2 (by have:=Hb.out.size;omega) _)⟩ ?_
 rintro w4 ⟨qx,qy,qr,hbn⟩
 replace Hx:=lid qx;clear qx
 replace Hy:=lid qy;clear qy
 replace Hr:=lid qr;clear qr
 obtain ⟨x0,fx0,x1,fx1,x2,fx2⟩:=Hx.out.g3
 obtain ⟨y0,fy0,y1,fy1,y2,fy2⟩:=Hy.out.g3
 obtain ⟨r0,fr0,r1,fr1,r2,fr2,r3,fr3,r4,fr4⟩:=Hr.out.g5
 replace Hb:=lid hbn;clear hbn
 simp only [wpPlan]
 have Hr4:=Hr
 clear x0 x1 x2 fx0 fx1 fx2 y0 y1 y2 fy0 fy1 fy2 r0 r1 r2 r3 r4 fr0 fr1 fr2 fr3 fr4 HT Hform1 Hform2
 rcases hlv with ⟨h1,h2⟩ | ⟨h1,h3,h2⟩ | ⟨h1,h3,h2⟩
 . obtain ⟨rfl,rfl,rfl⟩:=zA h1
   subst h2
   have z1 : (bs []).toList = []:=bs_toList _
   clear zA zB nA nB pA pB
   obtain ⟨x0,fx0,x1,fx1,x2,fx2⟩:=Hx.out.g3
   obtain ⟨y0,fy0,y1,fy1,y2,fy2⟩:=Hy.out.g3
   obtain ⟨r0,fr0,r1,fr1,r2,fr2,r3,fr3,r4,fr4⟩:=Hr.out.g5
   have lz_x_W5:=Hx.out.lt
   have lz_y_W5:=Hy.out.lt
   have lz_r_W5:=Hr.out.lt
   go_wp2_with fail
   obtain ⟨R,hR⟩ : ∃ R : World -> Prop,(fun W5=>Blk W5 (w4.heap.size) 99 [.int .i64 g,.bool false,.string (bs []),.bool false,.string (bs [])] /\ Below w4.heap.size w4 W5) = R:=⟨_,rfl⟩
   first | refine wp_world R ?hR ?_ | refine calls_world R ?hR ?_
   case hR=>subst hR;exact ⟨(Blk.newAt w4 _ _ (b:=w4.heap.size) rfl),((Below.refl _ _).alloc (Nat.le_refl _) _)⟩
   subst hR
   rintro W5 ⟨qn,hbn⟩
   have Hn:=lid qn;clear qn
   clear x0 fx0 x1 fx1 x2 fx2
   replace Hx:=kB Hx hbn
   obtain ⟨x0,fx0,x1,fx1,x2,fx2⟩:=Hx.out.g3
   clear y0 fy0 y1 fy1 y2 fy2
   replace Hy:=kB Hy hbn
   obtain ⟨y0,fy0,y1,fy1,y2,fy2⟩:=Hy.out.g3
   clear r0 fr0 r1 fr1 r2 fr2 r3 fr3 r4 fr4
   replace Hr:=kB Hr hbn
   obtain ⟨r0,fr0,r1,fr1,r2,fr2,r3,fr3,r4,fr4⟩:=Hr.out.g5
   obtain ⟨n0,fn0,n1,fn1,n2,fn2,n3,fn3,n4,fn4⟩:=Hn.out.g5
   replace Hb:=bnx Hb hbn;clear hbn
   have hns : w.heap.size + 1 + 1 < w4.heap.size:=Hr4.out.lt
   refine wp_region_plan (fun w'=>w'.cell? ⟨w.heap.size,0,none⟩ = some (.bool false) /\ w'.cell? ⟨w.heap.size,1,none⟩ = some (.string (bs [])) /\ w'.cell? ⟨w.heap.size,2,none⟩ = some (.int .i64 0) /\ w'.cell? ⟨w.heap.size + 1,0,none⟩ = some (.bool q) /\ w'.cell? ⟨w.heap.size + 1,1,none⟩ = some (.string (bs b)) /\ w'.cell? ⟨w.heap.size + 1,2,none⟩ = some (.int .i64 g) /\ w'.cell? ⟨w4.heap.size,0,none⟩ = some (.int .i64 g)) (fun i=>Nat.blt i 11) [(0,true),(1,true),(2,true),(4,true),(5,true),(6,true),(3,false),(8,true),(7,false),(9,false),(10,true),(11,false)] (by kernel_rfl) (by kernel_rfl) rfl (by kernel_rfl) (fun o c a v w=>by cases o.dst<;>exact id) ⟨x0,x1,x2,y0,y1,y2,n0⟩ ?_
   iterate 6 (refine planT rfl rfl (v:=?_) (fun w' hw'=>?_) ?_;rotate_left;(focus obtain ⟨q0,q1,q2,q3,q4,q5,q6⟩:=hw';go_simp;try with_reducible rfl);try simp only [Act.put,U1,U2,U3])
   refine planF rfl rfl (fun K hK=>?_)
   go_simp
   with_reducible refine (on_any false [] 0 g X HX.out _ La.out Hgi.out (by first | exact (hT.below Hb.out) | exact Tab.drew (hT.below Hb.out) | exact Tab.alloc (hT.below Hb.out) _ | exact Tab.drew (Tab.alloc (hT.below Hb.out) _) | exact Tab.alloc (Tab.drew (hT.below Hb.out)) _)).mono ?_
   rintro e w6 ⟨rfl,hq⟩
   have hbn : Below W5.heap.size W5 w6:=by first | exact hq | exact bundrew hq
   clear x0 fx0 x1 fx1 x2 fx2
   clear y0 fy0 y1 fy1 y2 fy2
   clear r0 fr0 r1 fr1 r2 fr2 r3 fr3 r4 fr4
   clear n0 fn0 n1 fn1 n2 fn2 n3 fn3 n4 fn4
   replace Hx:=kB Hx hbn
   replace Hy:=kB Hy hbn
   replace Hr:=kB Hr hbn
   replace Hn:=kB Hn hbn
   obtain ⟨x0,fx0,x1,fx1,x2,fx2⟩:=Hx.out.g3
   obtain ⟨y0,fy0,y1,fy1,y2,fy2⟩:=Hy.out.g3
   obtain ⟨r0,fr0,r1,fr1,r2,fr2,r3,fr3,r4,fr4⟩:=Hr.out.g5
   obtain ⟨n0,fn0,n1,fn1,n2,fn2,n3,fn3,n4,fn4⟩:=Hn.out.g5
   replace Hb:=bnx Hb hbn;clear hbn
   refine hK _ _ (fun _=>⟨x0,x1,x2,y0,y1,y2,n0⟩) ?_;clear hK K
   try simp only [Act.put,U1,U2,U3]
   refine planT rfl rfl (v:=?_) (fun w' hw'=>?_) ?_;rotate_left;(focus go_simp;try with_reducible rfl);try simp only [Act.put,U1,U2,U3]
   refine planF rfl rfl (fun K hK=>?_)
   go_simp
   with_reducible refine (on_any q b g g Y HY.out _ Lb.out Hgj.out (by first | exact (hT.below Hb.out) | exact Tab.drew (hT.below Hb.out) | exact Tab.alloc (hT.below Hb.out) _ | exact Tab.drew (Tab.alloc (hT.below Hb.out) _) | exact Tab.alloc (Tab.drew (hT.below Hb.out)) _)).mono ?_
   rintro e w7 ⟨rfl,hq⟩
   have hbn : Below w6.heap.size w6 w7:=by first | exact hq | exact bundrew hq
   clear x0 fx0 x1 fx1 x2 fx2
   clear y0 fy0 y1 fy1 y2 fy2
   clear r0 fr0 r1 fr1 r2 fr2 r3 fr3 r4 fr4
   clear n0 fn0 n1 fn1 n2 fn2 n3 fn3 n4 fn4
   replace Hx:=kB Hx hbn
   replace Hy:=kB Hy hbn
   replace Hr:=kB Hr hbn
   replace Hn:=kB Hn hbn
   obtain ⟨x0,fx0,x1,fx1,x2,fx2⟩:=Hx.out.g3
   obtain ⟨y0,fy0,y1,fy1,y2,fy2⟩:=Hy.out.g3
   obtain ⟨r0,fr0,r1,fr1,r2,fr2,r3,fr3,r4,fr4⟩:=Hr.out.g5
   obtain ⟨n0,fn0,n1,fn1,n2,fn2,n3,fn3,n4,fn4⟩:=Hn.out.g5
   replace Hb:=bnx Hb hbn;clear hbn
   refine hK _ _ (fun _=>⟨x0,x1,x2,y0,y1,y2,n0⟩) ?_;clear hK K
   try simp only [Act.put,U1,U2,U3]
   refine planF rfl rfl (fun K hK=>?_)
   go_simp
   refine hK _ _ (fun _=>⟨(cell_set_at (by first | (dsimp only;omega) | (simp<;>omega)) (cell_set_at (by first | (dsimp only;omega) | (simp<;>omega)) x0)),(cell_set_at (by first | (dsimp only;omega) | (simp<;>omega)) (cell_set_at (by first | (dsimp only;omega) | (simp<;>omega)) x1)),(cell_set_at (by first | (dsimp only;omega) | (simp<;>omega)) (cell_set_at (by first | (dsimp only;omega) | (simp<;>omega)) x2)),(cell_set_at (by first | (dsimp only;omega) | (simp<;>omega)) (cell_set_at (by first | (dsimp only;omega) | (simp<;>omega)) y0)),(cell_set_at (by first | (dsimp only;omega) | (simp<;>omega)) (cell_set_at (by first | (dsimp only;omega) | (simp<;>omega)) y1)),(cell_set_at (by first | (dsimp only;omega) | (simp<;>omega)) (cell_set_at (by first | (dsimp only;omega) | (simp<;>omega)) y2)),(cell_set_at (by first | (dsimp only;omega) | (simp<;>omega)) (cell_set_at (by first | (dsimp only;omega) | (simp<;>omega)) n0))⟩) ?_;clear hK K
   try simp only [Act.put,U1,U2,U3]
   clear x0 fx0 x1 fx1 x2 fx2
   clear y0 fy0 y1 fy1 y2 fy2
   clear r0 fr0 r1 fr1 r2 fr2 r3 fr3 r4 fr4
   clear n0 fn0 n1 fn1 n2 fn2 n3 fn3 n4 fn4
   refine plan_world (fun w8=>Blk w8 (w.heap.size) 36 [.bool false,.string (bs []),.int .i64 0] /\ Blk w8 (w.heap.size + 1) 36 [.bool q,.string (bs b),.int .i64 g] /\ Blk w8 (w.heap.size + 1 + 1) 99 [.int .i64 0,.bool false,.string (bs []),.bool false,.string (bs [])] /\ Blk w8 (w4.heap.size) 99 [.int .i64 g,.bool (sgnB X),.string (bs (nt X.natAbs)),.bool false,.string (bs [])] /\ Below w.heap.size w w8) ⟨((Hx.out.so (w4.heap.size) 1 (by omega) _).so (w4.heap.size) 2 (by omega) _),((Hy.out.so (w4.heap.size) 1 (by omega) _).so (w4.heap.size) 2 (by omega) _),((Hr.out.so (w4.heap.size) 1 (by omega) _).so (w4.heap.size) 2 (by omega) _),((Hn.out.set 1 _).set 2 _),by first | exact ((Hb.out.sc (w4.heap.size) 1 (by have:=Hb.out.size;omega) _).sc (w4.heap.size) 2 (by have:=Hb.out.size;omega) _) | exact Below.drew ((Hb.out.sc (w4.heap.size) 1 (by have:=Hb.out.size;omega) _).sc (w4.heap.size) 2 (by have:=Hb.out.size;omega) _)⟩ ?_
   rintro w8 ⟨qx,qy,qr,qn,hbn⟩
   replace Hx:=lid qx;clear qx
   replace Hy:=lid qy;clear qy
   replace Hr:=lid qr;clear qr
   replace Hn:=lid qn;clear qn
   obtain ⟨x0,fx0,x1,fx1,x2,fx2⟩:=Hx.out.g3
   obtain ⟨y0,fy0,y1,fy1,y2,fy2⟩:=Hy.out.g3
   obtain ⟨r0,fr0,r1,fr1,r2,fr2,r3,fr3,r4,fr4⟩:=Hr.out.g5
   obtain ⟨n0,fn0,n1,fn1,n2,fn2,n3,fn3,n4,fn4⟩:=Hn.out.g5
   replace Hb:=lid hbn;clear hbn
   refine planT rfl rfl (v:=?_) (fun w' hw'=>?_) ?_;rotate_left;(focus go_simp;try with_reducible rfl);try simp only [Act.put,U1,U2,U3]
   refine planF rfl rfl (fun K hK=>?_)
   go_simp
   refine hK _ _ (fun h=>absurd h (by decide)) ?_;clear hK K
   try simp only [Act.put,U1,U2,U3]
   clear x0 fx0 x1 fx1 x2 fx2
   clear y0 fy0 y1 fy1 y2 fy2
   clear r0 fr0 r1 fr1 r2 fr2 r3 fr3 r4 fr4
   clear n0 fn0 n1 fn1 n2 fn2 n3 fn3 n4 fn4
   refine plan_world (fun w9=>Blk w9 (w.heap.size) 36 [.bool false,.string (bs []),.int .i64 0] /\ Blk w9 (w.heap.size + 1) 36 [.bool q,.string (bs b),.int .i64 g] /\ Blk w9 (w.heap.size + 1 + 1) 99 [.int .i64 0,.bool false,.string (bs []),.bool false,.string (bs [])] /\ Blk w9 (w4.heap.size) 99 [.int .i64 g,.bool (sgnB X),.string (bs (nt X.natAbs)),.bool (sgnB Y),.string (bs (nt Y.natAbs))] /\ Below w.heap.size w w9) ⟨((Hx.out.so (w4.heap.size) 3 (by omega) _).so (w4.heap.size) 4 (by omega) _),((Hy.out.so (w4.heap.size) 3 (by omega) _).so (w4.heap.size) 4 (by omega) _),((Hr.out.so (w4.heap.size) 3 (by omega) _).so (w4.heap.size) 4 (by omega) _),((Hn.out.set 3 _).set 4 _),by first | exact ((Hb.out.sc (w4.heap.size) 3 (by have:=Hb.out.size;omega) _).sc (w4.heap.size) 4 (by have:=Hb.out.size;omega) _) | exact Below.drew ((Hb.out.sc (w4.heap.size) 3 (by have:=Hb.out.size;omega) _).sc (w4.heap.size) 4 (by have:=Hb.out.size;omega) _)⟩ ?_
   rintro w9 ⟨qx,qy,qr,qn,hbn⟩
   replace Hx:=lid qx;clear qx
   replace Hy:=lid qy;clear qy
   replace Hr:=lid qr;clear qr
   replace Hn:=lid qn;clear qn
   obtain ⟨x0,fx0,x1,fx1,x2,fx2⟩:=Hx.out.g3
   obtain ⟨y0,fy0,y1,fy1,y2,fy2⟩:=Hy.out.g3
   obtain ⟨r0,fr0,r1,fr1,r2,fr2,r3,fr3,r4,fr4⟩:=Hr.out.g5
   obtain ⟨n0,fn0,n1,fn1,n2,fn2,n3,fn3,n4,fn4⟩:=Hn.out.g5
   replace Hb:=lid hbn;clear hbn
   simp only [wpPlan]
   go_wp2
   refine bodyPost_ret (v:=.agg #[.int .i64 g,.bool (sgnB X),.string (bs (nt X.natAbs)),.bool (sgnB Y),.string (bs (nt Y.natAbs))]) (by simp [results,Tryz.results49,go_sem,r0,r1,r2,r3,r4]) rfl ⟨rfl,?_⟩
   (repeat first | exact Hb.out | (refine Below.setCell ?_ (by have:=Hb.out.size;first | (dsimp only;omega) | (show _ <= _;omega) | (simp<;>omega)) _) | (refine Below.alloc ?_ (by have:=Hb.out.size;simp<;>omega) _) | refine Below.drew ?_)
 . obtain ⟨rfl,rfl,rfl⟩:=zB h3
   subst h2
   have z1 : (bs []).toList = []:=bs_toList _
   have z2 : ¬ (bs a).toList = []:=by rw [bs_toList];exact nA h1
   clear zA zB nA nB pA pB
   obtain ⟨x0,fx0,x1,fx1,x2,fx2⟩:=Hx.out.g3
   obtain ⟨y0,fy0,y1,fy1,y2,fy2⟩:=Hy.out.g3
   obtain ⟨r0,fr0,r1,fr1,r2,fr2,r3,fr3,r4,fr4⟩:=Hr.out.g5
   have lz_x_W5:=Hx.out.lt
   have lz_y_W5:=Hy.out.lt
   have lz_r_W5:=Hr.out.lt
   go_wp2_with fail
   obtain ⟨R,hR⟩ : ∃ R : World -> Prop,(fun W5=>Blk W5 (w4.heap.size) 99 [.int .i64 g,.bool false,.string (bs []),.bool false,.string (bs [])] /\ Below w4.heap.size w4 W5) = R:=⟨_,rfl⟩
   first | refine wp_world R ?hR ?_ | refine calls_world R ?hR ?_
   case hR=>subst hR;exact ⟨(Blk.newAt w4 _ _ (b:=w4.heap.size) rfl),((Below.refl _ _).alloc (Nat.le_refl _) _)⟩
   subst hR
   rintro W5 ⟨qn,hbn⟩
   have Hn:=lid qn;clear qn
   clear x0 fx0 x1 fx1 x2 fx2
   replace Hx:=kB Hx hbn
   obtain ⟨x0,fx0,x1,fx1,x2,fx2⟩:=Hx.out.g3
   clear y0 fy0 y1 fy1 y2 fy2
   replace Hy:=kB Hy hbn
   obtain ⟨y0,fy0,y1,fy1,y2,fy2⟩:=Hy.out.g3
   clear r0 fr0 r1 fr1 r2 fr2 r3 fr3 r4 fr4
   replace Hr:=kB Hr hbn
   obtain ⟨r0,fr0,r1,fr1,r2,fr2,r3,fr3,r4,fr4⟩:=Hr.out.g5
   obtain ⟨n0,fn0,n1,fn1,n2,fn2,n3,fn3,n4,fn4⟩:=Hn.out.g5
   replace Hb:=bnx Hb hbn;clear hbn
   have hns : w.heap.size + 1 + 1 < w4.heap.size:=Hr4.out.lt
   refine wp_region_plan (fun w'=>w'.cell? ⟨w.heap.size,0,none⟩ = some (.bool p) /\ w'.cell? ⟨w.heap.size,1,none⟩ = some (.string (bs a)) /\ w'.cell? ⟨w.heap.size,2,none⟩ = some (.int .i64 g) /\ w'.cell? ⟨w.heap.size + 1,0,none⟩ = some (.bool false) /\ w'.cell? ⟨w.heap.size + 1,1,none⟩ = some (.string (bs [])) /\ w'.cell? ⟨w.heap.size + 1,2,none⟩ = some (.int .i64 0) /\ w'.cell? ⟨w4.heap.size,0,none⟩ = some (.int .i64 g)) (fun i=>Nat.blt i 11) [(0,true),(1,true),(2,true),(4,true),(5,true),(6,true),(3,false),(8,true),(7,false),(9,false),(10,true),(11,false)] (by kernel_rfl) (by kernel_rfl) rfl (by kernel_rfl) (fun o c a v w=>by cases o.dst<;>exact id) ⟨x0,x1,x2,y0,y1,y2,n0⟩ ?_
   iterate 6 (refine planT rfl rfl (v:=?_) (fun w' hw'=>?_) ?_;rotate_left;(focus obtain ⟨q0,q1,q2,q3,q4,q5,q6⟩:=hw';go_simp;try with_reducible rfl);try simp only [Act.put,U1,U2,U3])
   refine planF rfl rfl (fun K hK=>?_)
   go_simp
   with_reducible refine (on_any p a g g X HX.out _ La.out Hgi.out (by first | exact (hT.below Hb.out) | exact Tab.drew (hT.below Hb.out) | exact Tab.alloc (hT.below Hb.out) _ | exact Tab.drew (Tab.alloc (hT.below Hb.out) _) | exact Tab.alloc (Tab.drew (hT.below Hb.out)) _)).mono ?_
   rintro e w6 ⟨rfl,hq⟩
   have hbn : Below W5.heap.size W5 w6:=by first | exact hq | exact bundrew hq
   clear x0 fx0 x1 fx1 x2 fx2
   clear y0 fy0 y1 fy1 y2 fy2
   clear r0 fr0 r1 fr1 r2 fr2 r3 fr3 r4 fr4
   clear n0 fn0 n1 fn1 n2 fn2 n3 fn3 n4 fn4
   replace Hx:=kB Hx hbn
   replace Hy:=kB Hy hbn
   replace Hr:=kB Hr hbn
   replace Hn:=kB Hn hbn
   obtain ⟨x0,fx0,x1,fx1,x2,fx2⟩:=Hx.out.g3
   obtain ⟨y0,fy0,y1,fy1,y2,fy2⟩:=Hy.out.g3
   obtain ⟨r0,fr0,r1,fr1,r2,fr2,r3,fr3,r4,fr4⟩:=Hr.out.g5
   obtain ⟨n0,fn0,n1,fn1,n2,fn2,n3,fn3,n4,fn4⟩:=Hn.out.g5
   replace Hb:=bnx Hb hbn;clear hbn
   refine hK _ _ (fun _=>⟨x0,x1,x2,y0,y1,y2,n0⟩) ?_;clear hK K
   try simp only [Act.put,U1,U2,U3]
   refine planT rfl rfl (v:=?_) (fun w' hw'=>?_) ?_;rotate_left;(focus go_simp;try with_reducible rfl);try simp only [Act.put,U1,U2,U3]
   refine planF rfl rfl (fun K hK=>?_)
   go_simp
   with_reducible refine (on_any false [] 0 g Y HY.out _ Lb.out Hgj.out (by first | exact (hT.below Hb.out) | exact Tab.drew (hT.below Hb.out) | exact Tab.alloc (hT.below Hb.out) _ | exact Tab.drew (Tab.alloc (hT.below Hb.out) _) | exact Tab.alloc (Tab.drew (hT.below Hb.out)) _)).mono ?_
   rintro e w7 ⟨rfl,hq⟩
   have hbn : Below w6.heap.size w6 w7:=by first | exact hq | exact bundrew hq
   clear x0 fx0 x1 fx1 x2 fx2
   clear y0 fy0 y1 fy1 y2 fy2
   clear r0 fr0 r1 fr1 r2 fr2 r3 fr3 r4 fr4
   clear n0 fn0 n1 fn1 n2 fn2 n3 fn3 n4 fn4
   replace Hx:=kB Hx hbn
   replace Hy:=kB Hy hbn
   replace Hr:=kB Hr hbn
   replace Hn:=kB Hn hbn
   obtain ⟨x0,fx0,x1,fx1,x2,fx2⟩:=Hx.out.g3
   obtain ⟨y0,fy0,y1,fy1,y2,fy2⟩:=Hy.out.g3
   obtain ⟨r0,fr0,r1,fr1,r2,fr2,r3,fr3,r4,fr4⟩:=Hr.out.g5
   obtain ⟨n0,fn0,n1,fn1,n2,fn2,n3,fn3,n4,fn4⟩:=Hn.out.g5
   replace Hb:=bnx Hb hbn;clear hbn
   refine hK _ _ (fun _=>⟨x0,x1,x2,y0,y1,y2,n0⟩) ?_;clear hK K
   try simp only [Act.put,U1,U2,U3]
   refine planF rfl rfl (fun K hK=>?_)
   go_simp
   refine hK _ _ (fun _=>⟨(cell_set_at (by first | (dsimp only;omega) | (simp<;>omega)) (cell_set_at (by first | (dsimp only;omega) | (simp<;>omega)) x0)),(cell_set_at (by first | (dsimp only;omega) | (simp<;>omega)) (cell_set_at (by first | (dsimp only;omega) | (simp<;>omega)) x1)),(cell_set_at (by first | (dsimp only;omega) | (simp<;>omega)) (cell_set_at (by first | (dsimp only;omega) | (simp<;>omega)) x2)),(cell_set_at (by first | (dsimp only;omega) | (simp<;>omega)) (cell_set_at (by first | (dsimp only;omega) | (simp<;>omega)) y0)),(cell_set_at (by first | (dsimp only;omega) | (simp<;>omega)) (cell_set_at (by first | (dsimp only;omega) | (simp<;>omega)) y1)),(cell_set_at (by first | (dsimp only;omega) | (simp<;>omega)) (cell_set_at (by first | (dsimp only;omega) | (simp<;>omega)) y2)),(cell_set_at (by first | (dsimp only;omega) | (simp<;>omega)) (cell_set_at (by first | (dsimp only;omega) | (simp<;>omega)) n0))⟩) ?_;clear hK K
   try simp only [Act.put,U1,U2,U3]
   clear x0 fx0 x1 fx1 x2 fx2
   clear y0 fy0 y1 fy1 y2 fy2
   clear r0 fr0 r1 fr1 r2 fr2 r3 fr3 r4 fr4
   clear n0 fn0 n1 fn1 n2 fn2 n3 fn3 n4 fn4
   refine plan_world (fun w8=>Blk w8 (w.heap.size) 36 [.bool p,.string (bs a),.int .i64 g] /\ Blk w8 (w.heap.size + 1) 36 [.bool false,.string (bs []),.int .i64 0] /\ Blk w8 (w.heap.size + 1 + 1) 99 [.int .i64 0,.bool false,.string (bs []),.bool false,.string (bs [])] /\ Blk w8 (w4.heap.size) 99 [.int .i64 g,.bool (sgnB X),.string (bs (nt X.natAbs)),.bool false,.string (bs [])] /\ Below w.heap.size w w8) ⟨((Hx.out.so (w4.heap.size) 1 (by omega) _).so (w4.heap.size) 2 (by omega) _),((Hy.out.so (w4.heap.size) 1 (by omega) _).so (w4.heap.size) 2 (by omega) _),((Hr.out.so (w4.heap.size) 1 (by omega) _).so (w4.heap.size) 2 (by omega) _),((Hn.out.set 1 _).set 2 _),by first | exact ((Hb.out.sc (w4.heap.size) 1 (by have:=Hb.out.size;omega) _).sc (w4.heap.size) 2 (by have:=Hb.out.size;omega) _) | exact Below.drew ((Hb.out.sc (w4.heap.size) 1 (by have:=Hb.out.size;omega) _).sc (w4.heap.size) 2 (by have:=Hb.out.size;omega) _)⟩ ?_
   rintro w8 ⟨qx,qy,qr,qn,hbn⟩
   replace Hx:=lid qx;clear qx
   replace Hy:=lid qy;clear qy
   replace Hr:=lid qr;clear qr
   replace Hn:=lid qn;clear qn
   obtain ⟨x0,fx0,x1,fx1,x2,fx2⟩:=Hx.out.g3
   obtain ⟨y0,fy0,y1,fy1,y2,fy2⟩:=Hy.out.g3
   obtain ⟨r0,fr0,r1,fr1,r2,fr2,r3,fr3,r4,fr4⟩:=Hr.out.g5
   obtain ⟨n0,fn0,n1,fn1,n2,fn2,n3,fn3,n4,fn4⟩:=Hn.out.g5
   replace Hb:=lid hbn;clear hbn
   refine planT rfl rfl (v:=?_) (fun w' hw'=>?_) ?_;rotate_left;(focus go_simp;try with_reducible rfl);try simp only [Act.put,U1,U2,U3]
   refine planF rfl rfl (fun K hK=>?_)
   go_simp
   refine hK _ _ (fun h=>absurd h (by decide)) ?_;clear hK K
   try simp only [Act.put,U1,U2,U3]
   clear x0 fx0 x1 fx1 x2 fx2
   clear y0 fy0 y1 fy1 y2 fy2
   clear r0 fr0 r1 fr1 r2 fr2 r3 fr3 r4 fr4
   clear n0 fn0 n1 fn1 n2 fn2 n3 fn3 n4 fn4
   refine plan_world (fun w9=>Blk w9 (w.heap.size) 36 [.bool p,.string (bs a),.int .i64 g] /\ Blk w9 (w.heap.size + 1) 36 [.bool false,.string (bs []),.int .i64 0] /\ Blk w9 (w.heap.size + 1 + 1) 99 [.int .i64 0,.bool false,.string (bs []),.bool false,.string (bs [])] /\ Blk w9 (w4.heap.size) 99 [.int .i64 g,.bool (sgnB X),.string (bs (nt X.natAbs)),.bool (sgnB Y),.string (bs (nt Y.natAbs))] /\ Below w.heap.size w w9) ⟨((Hx.out.so (w4.heap.size) 3 (by omega) _).so (w4.heap.size) 4 (by omega) _),((Hy.out.so (w4.heap.size) 3 (by omega) _).so (w4.heap.size) 4 (by omega) _),((Hr.out.so (w4.heap.size) 3 (by omega) _).so (w4.heap.size) 4 (by omega) _),((Hn.out.set 3 _).set 4 _),by first | exact ((Hb.out.sc (w4.heap.size) 3 (by have:=Hb.out.size;omega) _).sc (w4.heap.size) 4 (by have:=Hb.out.size;omega) _) | exact Below.drew ((Hb.out.sc (w4.heap.size) 3 (by have:=Hb.out.size;omega) _).sc (w4.heap.size) 4 (by have:=Hb.out.size;omega) _)⟩ ?_
   rintro w9 ⟨qx,qy,qr,qn,hbn⟩
   replace Hx:=lid qx;clear qx
   replace Hy:=lid qy;clear qy
   replace Hr:=lid qr;clear qr
   replace Hn:=lid qn;clear qn
   obtain ⟨x0,fx0,x1,fx1,x2,fx2⟩:=Hx.out.g3
   obtain ⟨y0,fy0,y1,fy1,y2,fy2⟩:=Hy.out.g3
   obtain ⟨r0,fr0,r1,fr1,r2,fr2,r3,fr3,r4,fr4⟩:=Hr.out.g5
   obtain ⟨n0,fn0,n1,fn1,n2,fn2,n3,fn3,n4,fn4⟩:=Hn.out.g5
   replace Hb:=lid hbn;clear hbn
   simp only [wpPlan]
   go_wp2
   refine bodyPost_ret (v:=.agg #[.int .i64 g,.bool (sgnB X),.string (bs (nt X.natAbs)),.bool (sgnB Y),.string (bs (nt Y.natAbs))]) (by simp [results,Tryz.results49,go_sem,r0,r1,r2,r3,r4]) rfl ⟨rfl,?_⟩
   (repeat first | exact Hb.out | (refine Below.setCell ?_ (by have:=Hb.out.size;first | (dsimp only;omega) | (show _ <= _;omega) | (simp<;>omega)) _) | (refine Below.alloc ?_ (by have:=Hb.out.size;simp<;>omega) _) | refine Below.drew ?_)
 . have z1 : ¬ (bs b).toList = []:=by rw [bs_toList];exact nB h3
   have z2 : ¬ (bs a).toList = []:=by rw [bs_toList];exact nA h1
   have z3 : min i j = g:=h2.symm
   clear zA zB nA nB pA pB h2
   obtain ⟨x0,fx0,x1,fx1,x2,fx2⟩:=Hx.out.g3
   obtain ⟨y0,fy0,y1,fy1,y2,fy2⟩:=Hy.out.g3
   obtain ⟨r0,fr0,r1,fr1,r2,fr2,r3,fr3,r4,fr4⟩:=Hr.out.g5
   have lz_x_W5:=Hx.out.lt
   have lz_y_W5:=Hy.out.lt
   have lz_r_W5:=Hr.out.lt
   go_wp2_with fail
   obtain ⟨R,hR⟩ : ∃ R : World -> Prop,(fun W5=>Blk W5 (w4.heap.size) 99 [.int .i64 g,.bool false,.string (bs []),.bool false,.string (bs [])] /\ Below w4.heap.size w4 W5) = R:=⟨_,rfl⟩
   first | refine wp_world R ?hR ?_ | refine calls_world R ?hR ?_
   case hR=>subst hR;exact ⟨(Blk.newAt w4 _ _ (b:=w4.heap.size) rfl),((Below.refl _ _).alloc (Nat.le_refl _) _)⟩
   subst hR
   rintro W5 ⟨qn,hbn⟩
   have Hn:=lid qn;clear qn
   clear x0 fx0 x1 fx1 x2 fx2
   replace Hx:=kB Hx hbn
   obtain ⟨x0,fx0,x1,fx1,x2,fx2⟩:=Hx.out.g3
   clear y0 fy0 y1 fy1 y2 fy2
   replace Hy:=kB Hy hbn
   obtain ⟨y0,fy0,y1,fy1,y2,fy2⟩:=Hy.out.g3
   clear r0 fr0 r1 fr1 r2 fr2 r3 fr3 r4 fr4
   replace Hr:=kB Hr hbn
   obtain ⟨r0,fr0,r1,fr1,r2,fr2,r3,fr3,r4,fr4⟩:=Hr.out.g5
   obtain ⟨n0,fn0,n1,fn1,n2,fn2,n3,fn3,n4,fn4⟩:=Hn.out.g5
   replace Hb:=bnx Hb hbn;clear hbn
   have hns : w.heap.size + 1 + 1 < w4.heap.size:=Hr4.out.lt
   refine wp_region_plan (fun w'=>w'.cell? ⟨w.heap.size,0,none⟩ = some (.bool p) /\ w'.cell? ⟨w.heap.size,1,none⟩ = some (.string (bs a)) /\ w'.cell? ⟨w.heap.size,2,none⟩ = some (.int .i64 i) /\ w'.cell? ⟨w.heap.size + 1,0,none⟩ = some (.bool q) /\ w'.cell? ⟨w.heap.size + 1,1,none⟩ = some (.string (bs b)) /\ w'.cell? ⟨w.heap.size + 1,2,none⟩ = some (.int .i64 j) /\ w'.cell? ⟨w4.heap.size,0,none⟩ = some (.int .i64 g)) (fun i=>Nat.blt i 11) [(0,true),(1,true),(2,true),(4,true),(5,true),(6,true),(3,false),(8,true),(7,false),(9,false),(10,true),(11,false)] (by kernel_rfl) (by kernel_rfl) rfl (by kernel_rfl) (fun o c a v w=>by cases o.dst<;>exact id) ⟨x0,x1,x2,y0,y1,y2,n0⟩ ?_
   iterate 6 (refine planT rfl rfl (v:=?_) (fun w' hw'=>?_) ?_;rotate_left;(focus obtain ⟨q0,q1,q2,q3,q4,q5,q6⟩:=hw';go_simp;try with_reducible rfl);try simp only [Act.put,U1,U2,U3])
   refine planF rfl rfl (fun K hK=>?_)
   go_simp
   with_reducible refine (on_any p a i g X HX.out _ La.out Hgi.out (by first | exact (hT.below Hb.out) | exact Tab.drew (hT.below Hb.out) | exact Tab.alloc (hT.below Hb.out) _ | exact Tab.drew (Tab.alloc (hT.below Hb.out) _) | exact Tab.alloc (Tab.drew (hT.below Hb.out)) _)).mono ?_
   rintro e w6 ⟨rfl,hq⟩
   have hbn : Below W5.heap.size W5 w6:=by first | exact hq | exact bundrew hq
   clear x0 fx0 x1 fx1 x2 fx2
   clear y0 fy0 y1 fy1 y2 fy2
   clear r0 fr0 r1 fr1 r2 fr2 r3 fr3 r4 fr4
   clear n0 fn0 n1 fn1 n2 fn2 n3 fn3 n4 fn4
   replace Hx:=kB Hx hbn
   replace Hy:=kB Hy hbn
   replace Hr:=kB Hr hbn
   replace Hn:=kB Hn hbn
   obtain ⟨x0,fx0,x1,fx1,x2,fx2⟩:=Hx.out.g3
   obtain ⟨y0,fy0,y1,fy1,y2,fy2⟩:=Hy.out.g3
   obtain ⟨r0,fr0,r1,fr1,r2,fr2,r3,fr3,r4,fr4⟩:=Hr.out.g5
   obtain ⟨n0,fn0,n1,fn1,n2,fn2,n3,fn3,n4,fn4⟩:=Hn.out.g5
   replace Hb:=bnx Hb hbn;clear hbn
   refine hK _ _ (fun _=>⟨x0,x1,x2,y0,y1,y2,n0⟩) ?_;clear hK K
   try simp only [Act.put,U1,U2,U3]
   refine planT rfl rfl (v:=?_) (fun w' hw'=>?_) ?_;rotate_left;(focus go_simp;try with_reducible rfl);try simp only [Act.put,U1,U2,U3]
   refine planF rfl rfl (fun K hK=>?_)
   go_simp
   with_reducible refine (on_any q b j g Y HY.out _ Lb.out Hgj.out (by first | exact (hT.below Hb.out) | exact Tab.drew (hT.below Hb.out) | exact Tab.alloc (hT.below Hb.out) _ | exact Tab.drew (Tab.alloc (hT.below Hb.out) _) | exact Tab.alloc (Tab.drew (hT.below Hb.out)) _)).mono ?_
   rintro e w7 ⟨rfl,hq⟩
   have hbn : Below w6.heap.size w6 w7:=by first | exact hq | exact bundrew hq
   clear x0 fx0 x1 fx1 x2 fx2
   clear y0 fy0 y1 fy1 y2 fy2
   clear r0 fr0 r1 fr1 r2 fr2 r3 fr3 r4 fr4
   clear n0 fn0 n1 fn1 n2 fn2 n3 fn3 n4 fn4
   replace Hx:=kB Hx hbn
   replace Hy:=kB Hy hbn
   replace Hr:=kB Hr hbn
   replace Hn:=kB Hn hbn
   obtain ⟨x0,fx0,x1,fx1,x2,fx2⟩:=Hx.out.g3
   obtain ⟨y0,fy0,y1,fy1,y2,fy2⟩:=Hy.out.g3
   obtain ⟨r0,fr0,r1,fr1,r2,fr2,r3,fr3,r4,fr4⟩:=Hr.out.g5
   obtain ⟨n0,fn0,n1,fn1,n2,fn2,n3,fn3,n4,fn4⟩:=Hn.out.g5
   replace Hb:=bnx Hb hbn;clear hbn
   refine hK _ _ (fun _=>⟨x0,x1,x2,y0,y1,y2,n0⟩) ?_;clear hK K
   try simp only [Act.put,U1,U2,U3]
   refine planF rfl rfl (fun K hK=>?_)
   go_simp
   refine hK _ _ (fun _=>⟨(cell_set_at (by first | (dsimp only;omega) | (simp<;>omega)) (cell_set_at (by first | (dsimp only;omega) | (simp<;>omega)) x0)),(cell_set_at (by first | (dsimp only;omega) | (simp<;>omega)) (cell_set_at (by first | (dsimp only;omega) | (simp<;>omega)) x1)),(cell_set_at (by first | (dsimp only;omega) | (simp<;>omega)) (cell_set_at (by first | (dsimp only;omega) | (simp<;>omega)) x2)),(cell_set_at (by first | (dsimp only;omega) | (simp<;>omega)) (cell_set_at (by first | (dsimp only;omega) | (simp<;>omega)) y0)),(cell_set_at (by first | (dsimp only;omega) | (simp<;>omega)) (cell_set_at (by first | (dsimp only;omega) | (simp<;>omega)) y1)),(cell_set_at (by first | (dsimp only;omega) | (simp<;>omega)) (cell_set_at (by first | (dsimp only;omega) | (simp<;>omega)) y2)),(cell_set_at (by first | (dsimp only;omega) | (simp<;>omega)) (cell_set_at (by first | (dsimp only;omega) | (simp<;>omega)) n0))⟩) ?_;clear hK K
   try simp only [Act.put,U1,U2,U3]
   clear x0 fx0 x1 fx1 x2 fx2
   clear y0 fy0 y1 fy1 y2 fy2
   clear r0 fr0 r1 fr1 r2 fr2 r3 fr3 r4 fr4
   clear n0 fn0 n1 fn1 n2 fn2 n3 fn3 n4 fn4
   refine plan_world (fun w8=>Blk w8 (w.heap.size) 36 [.bool p,.string (bs a),.int .i64 i] /\ Blk w8 (w.heap.size + 1) 36 [.bool q,.string (bs b),.int .i64 j] /\ Blk w8 (w.heap.size + 1 + 1) 99 [.int .i64 0,.bool false,.string (bs []),.bool false,.string (bs [])] /\ Blk w8 (w4.heap.size) 99 [.int .i64 g,.bool (sgnB X),.string (bs (nt X.natAbs)),.bool false,.string (bs [])] /\ Below w.heap.size w w8) ⟨((Hx.out.so (w4.heap.size) 1 (by omega) _).so (w4.heap.size) 2 (by omega) _),((Hy.out.so (w4.heap.size) 1 (by omega) _).so (w4.heap.size) 2 (by omega) _),((Hr.out.so (w4.heap.size) 1 (by omega) _).so (w4.heap.size) 2 (by omega) _),((Hn.out.set 1 _).set 2 _),by first | exact ((Hb.out.sc (w4.heap.size) 1 (by have:=Hb.out.size;omega) _).sc (w4.heap.size) 2 (by have:=Hb.out.size;omega) _) | exact Below.drew ((Hb.out.sc (w4.heap.size) 1 (by have:=Hb.out.size;omega) _).sc (w4.heap.size) 2 (by have:=Hb.out.size;omega) _)⟩ ?_
   rintro w8 ⟨qx,qy,qr,qn,hbn⟩
   replace Hx:=lid qx;clear qx
   replace Hy:=lid qy;clear qy
   replace Hr:=lid qr;clear qr
   replace Hn:=lid qn;clear qn
   obtain ⟨x0,fx0,x1,fx1,x2,fx2⟩:=Hx.out.g3
   obtain ⟨y0,fy0,y1,fy1,y2,fy2⟩:=Hy.out.g3
   obtain ⟨r0,fr0,r1,fr1,r2,fr2,r3,fr3,r4,fr4⟩:=Hr.out.g5
   obtain ⟨n0,fn0,n1,fn1,n2,fn2,n3,fn3,n4,fn4⟩:=Hn.out.g5
   replace Hb:=lid hbn;clear hbn
   refine planT rfl rfl (v:=?_) (fun w' hw'=>?_) ?_;rotate_left;(focus go_simp;try with_reducible rfl);try simp only [Act.put,U1,U2,U3]
   refine planF rfl rfl (fun K hK=>?_)
   go_simp
   refine hK _ _ (fun h=>absurd h (by decide)) ?_;clear hK K
   try simp only [Act.put,U1,U2,U3]
   clear x0 fx0 x1 fx1 x2 fx2
   clear y0 fy0 y1 fy1 y2 fy2
   clear r0 fr0 r1 fr1 r2 fr2 r3 fr3 r4 fr4
   clear n0 fn0 n1 fn1 n2 fn2 n3 fn3 n4 fn4
   refine plan_world (fun w9=>Blk w9 (w.heap.size) 36 [.bool p,.string (bs a),.int .i64 i] /\ Blk w9 (w.heap.size + 1) 36 [.bool q,.string (bs b),.int .i64 j] /\ Blk w9 (w.heap.size + 1 + 1) 99 [.int .i64 0,.bool false,.string (bs []),.bool false,.string (bs [])] /\ Blk w9 (w4.heap.size) 99 [.int .i64 g,.bool (sgnB X),.string (bs (nt X.natAbs)),.bool (sgnB Y),.string (bs (nt Y.natAbs))] /\ Below w.heap.size w w9) ⟨((Hx.out.so (w4.heap.size) 3 (by omega) _).so (w4.heap.size) 4 (by omega) _),((Hy.out.so (w4.heap.size) 3 (by omega) _).so (w4.heap.size) 4 (by omega) _),((Hr.out.so (w4.heap.size) 3 (by omega) _).so (w4.heap.size) 4 (by omega) _),((Hn.out.set 3 _).set 4 _),by first | exact ((Hb.out.sc (w4.heap.size) 3 (by have:=Hb.out.size;omega) _).sc (w4.heap.size) 4 (by have:=Hb.out.size;omega) _) | exact Below.drew ((Hb.out.sc (w4.heap.size) 3 (by have:=Hb.out.size;omega) _).sc (w4.heap.size) 4 (by have:=Hb.out.size;omega) _)⟩ ?_
   rintro w9 ⟨qx,qy,qr,qn,hbn⟩
   replace Hx:=lid qx;clear qx
   replace Hy:=lid qy;clear qy
   replace Hr:=lid qr;clear qr
   replace Hn:=lid qn;clear qn
   obtain ⟨x0,fx0,x1,fx1,x2,fx2⟩:=Hx.out.g3
   obtain ⟨y0,fy0,y1,fy1,y2,fy2⟩:=Hy.out.g3
   obtain ⟨r0,fr0,r1,fr1,r2,fr2,r3,fr3,r4,fr4⟩:=Hr.out.g5
   obtain ⟨n0,fn0,n1,fn1,n2,fn2,n3,fn3,n4,fn4⟩:=Hn.out.g5
   replace Hb:=lid hbn;clear hbn
   simp only [wpPlan]
   go_wp2
   refine bodyPost_ret (v:=.agg #[.int .i64 g,.bool (sgnB X),.string (bs (nt X.natAbs)),.bool (sgnB Y),.string (bs (nt Y.natAbs))]) (by simp [results,Tryz.results49,go_sem,r0,r1,r2,r3,r4]) rfl ⟨rfl,?_⟩
   (repeat first | exact Hb.out | (refine Below.setCell ?_ (by have:=Hb.out.size;first | (dsimp only;omega) | (show _ <= _;omega) | (simp<;>omega)) _) | (refine Below.alloc ?_ (by have:=Hb.out.size;simp<;>omega) _) | refine Below.drew ?_)
theorem add_len (X Y : Int) (n : Nat) (hX : (nt X.natAbs).length <= n) (hY : (nt Y.natAbs).length <= n) : (nt (X + Y).natAbs).length <= n + 1:=by
 have h1:=nv_lt (nt X.natAbs);have h2:=nv_lt (nt Y.natAbs)
 rw [nv_nt] at h1 h2
 have h3:=Nat.lt_of_lt_of_le h1 (Nat.pow_le_pow_right (show 0 < 256 by decide) hX)
 have h4:=Nat.lt_of_lt_of_le h2 (Nat.pow_le_pow_right (show 0 < 256 by decide) hY)
 refine nt_length_le ?_
 rw [Nat.pow_succ]
 omega
theorem mul_len (X Y : Int) (m n : Nat) (hX : (nt X.natAbs).length <= m) (hY : (nt Y.natAbs).length <= n) : (nt (X * Y).natAbs).length <= m + n:=by
 have h1:=nv_lt (nt X.natAbs);have h2:=nv_lt (nt Y.natAbs)
 rw [nv_nt] at h1 h2
 have h3:=Nat.lt_of_lt_of_le h1 (Nat.pow_le_pow_right (show 0 < 256 by decide) hX)
 have h4:=Nat.lt_of_lt_of_le h2 (Nat.pow_le_pow_right (show 0 < 256 by decide) hY)
 refine nt_length_le ?_
 rw [Int.natAbs_mul,Nat.pow_add]
 exact Nat.mul_lt_mul'' h3 h4
theorem shz_lt (v k : Int) (a b : Nat) (hv : v.natAbs < 2 ^ a) (hk : k <= b) : (shz v k).natAbs < 2 ^ (a + b):=by
 have h0 : v.natAbs < 2 ^ (a + b):=Nat.lt_of_lt_of_le hv (Nat.pow_le_pow_right (by decide) (by omega))
 unfold shz
 split
 . rw [Int.natAbs_mul,Int.natAbs_pow,Nat.pow_add]
   refine Nat.lt_of_le_of_lt (Nat.mul_le_mul_left _ (Nat.pow_le_pow_right (by decide) (show k.toNat <= b by omega))) ?_
   exact Nat.mul_lt_mul_of_pos_right hv (Nat.pow_pos (by decide))
 . have hp : (0 : Int) < 2 ^ (-k).toNat:=by
    have : ((2 ^ (-k).toNat : Nat) : Int) > 0:=by have:=Nat.pow_pos (n:=(-k).toNat) (show 0 < 2 by decide);omega
    simpa [Int.natCast_pow] using this
   generalize (2 : Int) ^ (-k).toNat = p at *
   have : (v / p).natAbs <= v.natAbs:=by
    rcases Int.le_total 0 v with h | h
    . have h1:=Int.ediv_nonneg h (by omega : (0 : Int) <= p)
      have h2:=Int.ediv_le_self p h
      omega
    . have h1 : v <= v / p:=by
       rw [Int.le_ediv_iff_mul_le hp]
       have:=Int.mul_le_mul_of_nonpos_left h (show (1 : Int) <= p by omega)
       omega
      have h2 : v / p <= 0:=by
       have:=Int.ediv_le_ediv hp h
       simpa using this
      omega
   omega
theorem lv_facts {x y : Raw} (hx : Ok x) (hy : Ok y) (A B : Dyadic) (hA : dval x = A) (hB : dval y = B) : ∃ g X Y,lvG A B = g /\ shz (dN A) (dE A - g) = X /\ shz (dN B) (dE B - g) = Y /\ A = Dyadic.ofIntWithPrec X (-g) /\ B = Dyadic.ofIntWithPrec Y (-g) /\
 (nt X.natAbs).length <= 17179869183 /\ (nt Y.natAbs).length <= 17179869183 /\ -1099511627776 <= g /\ g <= 1099511627776:=by
 subst hA hB
 obtain ⟨M,hM,sx,sy⟩ : ∃ M,M <= 4294967296 /\ Sm M (dval x) /\ Sm M (dval y):=⟨4294967296,Nat.le_refl _,hx.sm,hy.sm⟩
 obtain ⟨a1,a2,a3⟩:=sx.parts
 obtain ⟨b1,b2,b3⟩:=sy.parts
 generalize dval x = A at *
 generalize dval y = B at *
 obtain ⟨h1,h2⟩:=lvG_le A B
 have hg : -(M : Int) <= lvG A B /\ lvG A B <= M:=by
  clear a1 b1
  unfold lvG
  split
  . omega
  . split<;>omega
 refine ⟨lvG A B,_,_,rfl,rfl,rfl,owp_on A _ h1,owp_on B _ h2,?_,?_,?_,?_⟩
 . exact len_of_bits (shz_lt _ _ _ (2 * M) a1 (by clear a1 b1;omega)) (by omega)
 . exact len_of_bits (shz_lt _ _ _ (2 * M) b1 (by clear a1 b1;omega)) (by omega)
 . clear a1 b1;omega
 . clear a1 b1;omega
def numC (x : Raw) : List Value:=[.bool x.1,.string (bs x.2.1),.int .i64 x.2.2]
def dsum : List Raw -> Dyadic
 | []=>0
 | x :: xs=>dval x + dsum xs
theorem dsum_append (xs ys : List Raw) : dsum (xs ++ ys) = dsum xs + dsum ys:=by
 induction xs with
 | nil=>simp only [List.nil_append,dsum];grind
 | cons x xs ih=>simp only [List.cons_append,dsum,ih];grind
theorem dsum_take (xs : List Raw) (k : Nat) (hk : k < xs.length) : dsum (xs.take (k + 1)) = dsum (xs.take k) + dval xs[k]:=by
 rw [List.take_succ_eq_append_getElem hk,dsum_append]
 simp only [dsum];grind
def dprod : List Raw -> Dyadic
 | []=>1
 | x :: xs=>dval x * dprod xs
theorem dprod_append (xs ys : List Raw) : dprod (xs ++ ys) = dprod xs * dprod ys:=by
 induction xs with
 | nil=>simp only [List.nil_append,dprod];grind
 | cons x xs ih=>simp only [List.cons_append,dprod,ih];grind
theorem dprod_take (xs : List Raw) (k : Nat) (hk : k < xs.length) : dprod (xs.take (k + 1)) = dprod (xs.take k) * dval xs[k]:=by
 rw [List.take_succ_eq_append_getElem hk,dprod_append]
 simp only [dprod];grind
theorem wAdd_ints (X Y N : Int) (hN : X + Y = N) (b cap : Nat) (ty : TypeId) (w : World) (hl : (nt X.natAbs).length <= 34359738368) (hm : (nt Y.natAbs).length <= 34359738368)
 (ha : Blk w b ty [.bool (sgnB X),.string (bs (nt X.natAbs)),.bool (sgnB Y),.string (bs (nt Y.natAbs))]) :
 Calls Tryz.prog 50 #[.slice (some ⟨b,0,none⟩) 2 cap] w fun e w'=>e = .returned (intV N) /\ Below w.heap.size w w':=by
 have:=wAdd_two (sgnB X) (nt X.natAbs) (sgnB Y) (nt Y.natAbs) b cap ty w hl hm ha
 rw [iv_int,iv_int,hN] at this
 exact this
theorem wMul_two (s : Bool) (l : List UInt8) (t : Bool) (m : List UInt8) (N : Int) (hN : iv s l * iv t m = N) (b cap : Nat) (ty : TypeId) (w : World) (hl : l.length <= 17179869184) (hm : m.length <= 17179869184)
 (ha : Blk w b ty [.bool s,.string (bs l),.bool t,.string (bs m)]) :
 Calls Tryz.prog 64 #[.slice (some ⟨b,0,none⟩) 2 cap] w fun e w'=>e = .returned (intV N) /\ Below w.heap.size w w':=by
 have:=wMul_any [(s,l),(t,m)] (some ⟨b,0,none⟩) cap w (by simp [ilen];omega) (by simp) (At.of_blk ha)
 have e : iprod [(s,l),(t,m)] = N:=by rw [<- hN];simp [iprod]
 rw [e] at this
 exact this
theorem dAdd_any (xs : List Raw) (a : Option Addr) (cap : Nat) (w : World) (hl : ∀ x ∈ xs,Ok x) (hS : ∀ k,Ok (canon (dsum (xs.take k)))) (hx : xs.length <= 1048576)
 (ha : At w a (xs.flatMap numC)) (hT : Tab w) :
 Calls Tryz.prog 28 #[.slice a xs.length cap] w fun e w'=>e = .returned (numV (dsum xs)) /\ Below w.heap.size w w':=by
 have Hl:=lid hl;clear hl
 have HS:=lid hS;clear hS
 have Ha:=lid ha;clear ha
 have HT0:=lid hT;clear hT
 go_enter Tryz.func28,Tryz.ntmps28
 have Hb : Hid (Below w.heap.size w w):=Below.refl _ _
 go_wp2_with fail
 obtain ⟨R,hR⟩ : ∃ R : World -> Prop,(fun W=>Blk W (w.heap.size) 36 [.bool false,.string (bs []),.int .i64 0] /\ Blk W (w.heap.size + 1) 36 [.bool false,.string (bs []),.int .i64 0] /\ Below w.heap.size w W) = R:=⟨_,rfl⟩
 first | refine wp_world R ?hR ?_ | refine calls_world R ?hR ?_
 case hR=>subst hR;exact ⟨((Blk.newAt w _ _ (b:=w.heap.size) rfl).alloc _),(Blk.newAt (w.alloc _) _ _ (b:=w.heap.size + 1) (by simp)),(((Below.refl _ _).alloc (Nat.le_refl _) _).alloc (by simp<;>omega) _)⟩
 subst hR
 rintro W ⟨qr,qs,hbn⟩
 have Hr:=lid qr;clear qr
 have Hs:=lid qs;clear qs
 obtain ⟨r0,fr0,r1,fr1,r2,fr2⟩:=Hr.out.g3
 obtain ⟨s0,fs0,s1,fs1,s2,fs2⟩:=Hs.out.g3
 replace Hb:=bnx Hb hbn;clear hbn
 go_loopw [5,6,9] (fun _ _ i wr=>∃ (k : Nat),k <= xs.length /\ i = .int .i64 k /\ Blk wr w.heap.size 36 [.bool false,.string (bs []),.int .i64 0] /\
  Blk wr (w.heap.size + 1) 36 (numC (canon (dsum (xs.take k)))) /\ Below w.heap.size w wr) (fun _ _ i _=>xs.length - (intOf i).toNat)
 case atStart=>exact ⟨0,Nat.zero_le _,rfl,Hr.out,Hs.out,Hb.out⟩
 case round=>
  obtain ⟨k,hk,rfl,qr,qs,hb⟩:=hrel
  replace Hr:=lid qr;replace Hs:=lid qs;replace Hb:=lid hb;clear qr qs hb r0 r1 r2 fr0 fr1 fr2 s0 s1 s2 fs0 fs1 fs2
  by_cases hlt : k < xs.length
  . obtain ⟨b,o,hab,hcs⟩:=(Ha.out.below Hb.out).elem (f:=numC) (sz:=3) (fun _=>rfl) (by decide) k hlt
    have hc0 : wr.cell? ⟨b,o + k * 3,none⟩ = some (.bool xs[k].1):=hcs 0 (by decide)
    have hc1 : wr.cell? ⟨b,o + k * 3 + 1,none⟩ = some (.string (bs xs[k].2.1)):=hcs 1 (by decide)
    have hc2 : wr.cell? ⟨b,o + k * 3 + 2,none⟩ = some (.int .i64 xs[k].2.2):=hcs 2 (by decide)
    have hix:=i22x36 xs.length cap k (k : Int) hab hlt rfl
    have Hst:=lid (dsum_take xs k hlt)
    have HLx : Hid (Ok xs[k]):=Hl.out _ (List.getElem_mem hlt)
    have HL1:=lid (HS.out k)
    clear hcs hab
    generalize xs[k] = x at *
    obtain ⟨t1,l1,e1⟩:=x
    generalize hS : dsum (xs.take k) = S at *
    clear hS
    obtain ⟨g,X,Y,hg,hX,hY,eA,eB,lX,lY,hg1,hg2⟩:=lv_facts HL1.out HLx.out S (dval (t1,l1,e1)) (dval_canon S) rfl
    obtain ⟨N,hN⟩ : ∃ N,X + Y = N:=⟨_,rfl⟩
    obtain ⟨D,hD⟩ : ∃ D,S + dval (t1,l1,e1) = D:=⟨_,rfl⟩
    have HD : Hid (dval (sgnB N,nt N.natAbs,g) = D):=by
     show _ = _
     rw [dval_int,<- hD,<- hN,<- owp_add,<- eA,<- eB]
    have HlN : Hid ((nt N.natAbs).length <= 34359738368):=by
     show _ <= _;rw [<- hN];exact Nat.le_trans (add_len X Y _ lX lY) (by decide)
    rw [hD] at Hst
    have Hlv : Hid (∀ W,Tab W -> Calls Tryz.prog 49 #[numV S,.agg #[.bool t1,.string (bs l1),.int .i64 e1]] W fun ex w'=>ex = .returned (.agg #[.int .i64 g,.bool (sgnB X),.string (bs (nt X.natAbs)),.bool (sgnB Y),.string (bs (nt Y.natAbs))]) /\ Below W.heap.size W w'):=fun W hW=>
     level_any _ _ _ t1 l1 e1 S (dval (t1,l1,e1)) (dval_canon S) rfl g X Y hg hX hY W HL1.out HLx.out hW
    have LX : Hid ((nt X.natAbs).length <= 34359738368):=by show _ <= _;omega
    have LY : Hid ((nt Y.natAbs).length <= 34359738368):=by show _ <= _;omega
    have Hg : Hid (-1099511627776 <= g /\ g <= 1099511627776):=⟨hg1,hg2⟩
    have HN:=lid hN
    clear eA eB hg hX hY lX lY hN hD hg1 hg2 HL1 HLx
    unfold numC canon at Hs
    simp only at Hs
    obtain ⟨r0,fr0,r1,fr1,r2,fr2⟩:=Hr.out.g3
    obtain ⟨s0,fs0,s1,fs1,s2,fs2⟩:=Hs.out.g3
    have lz_r_W1:=Hr.out.lt
    have lz_s_W1:=Hs.out.lt
    go_wp2_with fail
    obtain ⟨R,hR⟩ : ∃ R : World -> Prop,(fun W1=>Blk W1 (wr.heap.size) 36 [.bool t1,.string (bs l1),.int .i64 e1] /\ Below wr.heap.size wr W1) = R:=⟨_,rfl⟩
    first | refine wp_world R ?hR ?_ | refine calls_world R ?hR ?_
    case hR=>subst hR;exact ⟨(Blk.newAt wr _ _ (b:=wr.heap.size) rfl),((Below.refl _ _).alloc (Nat.le_refl _) _)⟩
    subst hR
    rintro W1 ⟨qc,hbn⟩
    have Hc:=lid qc;clear qc
    clear r0 fr0 r1 fr1 r2 fr2
    replace Hr:=kB Hr hbn
    obtain ⟨r0,fr0,r1,fr1,r2,fr2⟩:=Hr.out.g3
    clear s0 fs0 s1 fs1 s2 fs2
    replace Hs:=kB Hs hbn
    obtain ⟨s0,fs0,s1,fs1,s2,fs2⟩:=Hs.out.g3
    obtain ⟨c0,c1,c2⟩:=Hc.out.c3
    replace Hb:=bnx Hb hbn;clear hbn
    have HT:=lid (HT0.out.below Hb.out)
    go_wp2_with fail
    refine (Hlv.out _ HT.out).mono ?_
    rintro e w1 ⟨rfl,hbn⟩
    clear r0 fr0 r1 fr1 r2 fr2
    clear s0 fs0 s1 fs1 s2 fs2
    clear c0 c1 c2
    replace Hr:=kB Hr hbn
    replace Hs:=kB Hs hbn
    replace Hc:=kB Hc hbn
    obtain ⟨r0,fr0,r1,fr1,r2,fr2⟩:=Hr.out.g3
    obtain ⟨s0,fs0,s1,fs1,s2,fs2⟩:=Hs.out.g3
    obtain ⟨c0,c1,c2⟩:=Hc.out.c3
    replace Hb:=bnx Hb hbn;clear hbn
    have lz_r_W2:=Hr.out.lt
    have lz_s_W2:=Hs.out.lt
    have lz_c_W2:=Hc.out.lt
    go_wp2_with fail
    obtain ⟨R,hR⟩ : ∃ R : World -> Prop,(fun W2=>Blk W2 (w1.heap.size) 99 [.int .i64 g,.bool (sgnB X),.string (bs (nt X.natAbs)),.bool (sgnB Y),.string (bs (nt Y.natAbs))] /\ Below w1.heap.size w1 W2) = R:=⟨_,rfl⟩
    first | refine wp_world R ?hR ?_ | refine calls_world R ?hR ?_
    case hR=>subst hR;exact ⟨(Blk.newAt w1 _ _ (b:=w1.heap.size) rfl),((Below.refl _ _).alloc (Nat.le_refl _) _)⟩
    subst hR
    rintro W2 ⟨qp,hbn⟩
    have Hp:=lid qp;clear qp
    clear r0 fr0 r1 fr1 r2 fr2
    replace Hr:=kB Hr hbn
    obtain ⟨r0,fr0,r1,fr1,r2,fr2⟩:=Hr.out.g3
    clear s0 fs0 s1 fs1 s2 fs2
    replace Hs:=kB Hs hbn
    obtain ⟨s0,fs0,s1,fs1,s2,fs2⟩:=Hs.out.g3
    clear c0 c1 c2
    replace Hc:=kB Hc hbn
    obtain ⟨c0,c1,c2⟩:=Hc.out.c3
    obtain ⟨p0,p1,p2,p3,p4⟩:=Hp.out.c5
    replace Hb:=bnx Hb hbn;clear hbn
    refine wp_region_plan (fun w'=>w'.cell? ⟨w1.heap.size,0,none⟩ = some (.int .i64 g) /\ w'.cell? ⟨w1.heap.size,1,none⟩ = some (.bool (sgnB X)) /\ w'.cell? ⟨w1.heap.size,2,none⟩ = some (.string (bs (nt X.natAbs))) /\ w'.cell? ⟨w1.heap.size,3,none⟩ = some (.bool (sgnB Y)) /\ w'.cell? ⟨w1.heap.size,4,none⟩ = some (.string (bs (nt Y.natAbs)))) (fun i=>Nat.blt i 9) [(0,true),(1,true),(2,true),(3,true),(6,true),(7,true),(4,false),(5,false),(8,false),(9,false)] (by kernel_rfl) (by kernel_rfl) rfl (by kernel_rfl) (fun o c a v w=>by cases o.dst<;>exact id) ⟨p0,p1,p2,p3,p4⟩ ?_
    iterate 6 (refine planT rfl rfl (v:=?_) (fun w' hw'=>?_) ?_;rotate_left;(focus obtain ⟨q0,q1,q2,q3,q4⟩:=hw';go_simp;try with_reducible rfl);try simp only [Act.put,U1,U2,U3])
    refine planF rfl rfl (fun K hK=>?_)
    go_simp
    refine hK _ _ (fun _=>⟨cell_new p0,cell_new p1,cell_new p2,cell_new p3,cell_new p4⟩) ?_;clear hK K
    try simp only [Act.put,U1,U2,U3]
    refine plan_world (fun W3=>Blk W3 (W2.heap.size) 34 [.bool (sgnB X),.string (bs (nt X.natAbs)),.bool (sgnB Y),.string (bs (nt Y.natAbs))] /\ Below W2.heap.size W2 W3) (by first | exact nw1 | exact nw2) ?_
    rintro W3 ⟨qv,hbn⟩
    clear r0 fr0 r1 fr1 r2 fr2
    clear s0 fs0 s1 fs1 s2 fs2
    clear c0 c1 c2
    clear p0 p1 p2 p3 p4
    have lz_r_W3:=Hr.out.lt
    have lz_s_W3:=Hs.out.lt
    have lz_c_W3:=Hc.out.lt
    have lz_p_W3:=Hp.out.lt
    replace Hr:=kB Hr hbn
    replace Hs:=kB Hs hbn
    replace Hc:=kB Hc hbn
    replace Hp:=kB Hp hbn
    have Hv:=lid qv;clear qv
    obtain ⟨r0,fr0,r1,fr1,r2,fr2⟩:=Hr.out.g3
    obtain ⟨s0,fs0,s1,fs1,s2,fs2⟩:=Hs.out.g3
    obtain ⟨c0,c1,c2⟩:=Hc.out.c3
    obtain ⟨p0,p1,p2,p3,p4⟩:=Hp.out.c5
    obtain ⟨v0,v1,v2,v3⟩:=Hv.out.c4
    replace Hb:=bnx Hb hbn;clear hbn
    refine planF rfl rfl (fun K hK=>?_)
    go_simp
    with_reducible refine (wAdd_ints X Y N HN.out W2.heap.size 2 34 _ LX.out LY.out Hv.out).mono ?_
    rintro e w3 ⟨rfl,hq⟩
    have hbn : Below W3.heap.size W3 w3:=by first | exact hq | exact bundrew hq
    clear r0 fr0 r1 fr1 r2 fr2
    clear s0 fs0 s1 fs1 s2 fs2
    clear c0 c1 c2
    clear p0 p1 p2 p3 p4
    clear v0 v1 v2 v3
    replace Hr:=kB Hr hbn
    replace Hs:=kB Hs hbn
    replace Hc:=kB Hc hbn
    replace Hp:=kB Hp hbn
    replace Hv:=kB Hv hbn
    obtain ⟨r0,fr0,r1,fr1,r2,fr2⟩:=Hr.out.g3
    obtain ⟨s0,fs0,s1,fs1,s2,fs2⟩:=Hs.out.g3
    obtain ⟨c0,c1,c2⟩:=Hc.out.c3
    obtain ⟨p0,p1,p2,p3,p4⟩:=Hp.out.c5
    obtain ⟨v0,v1,v2,v3⟩:=Hv.out.c4
    replace Hb:=bnx Hb hbn;clear hbn
    refine hK _ _ (fun _=>⟨p0,p1,p2,p3,p4⟩) ?_;clear hK K
    try simp only [Act.put,U1,U2,U3]
    refine planF rfl rfl (fun K hK=>?_)
    go_simp
    with_reducible refine (make_any (sgnB N) (nt N.natAbs) g D HD.out _ HlN.out Hg.out (by first | exact (HT0.out.below Hb.out) | exact Tab.drew (HT0.out.below Hb.out) | exact Tab.alloc (HT0.out.below Hb.out) _ | exact Tab.drew (Tab.alloc (HT0.out.below Hb.out) _) | exact Tab.alloc (Tab.drew (HT0.out.below Hb.out)) _)).mono ?_
    rintro e w4 ⟨rfl,hq⟩
    have hbn : Below w3.heap.size w3 w4:=by first | exact hq | exact bundrew hq
    clear r0 fr0 r1 fr1 r2 fr2
    clear s0 fs0 s1 fs1 s2 fs2
    clear c0 c1 c2
    clear p0 p1 p2 p3 p4
    clear v0 v1 v2 v3
    replace Hr:=kB Hr hbn
    replace Hs:=kB Hs hbn
    replace Hc:=kB Hc hbn
    replace Hp:=kB Hp hbn
    replace Hv:=kB Hv hbn
    obtain ⟨r0,fr0,r1,fr1,r2,fr2⟩:=Hr.out.g3
    obtain ⟨s0,fs0,s1,fs1,s2,fs2⟩:=Hs.out.g3
    obtain ⟨c0,c1,c2⟩:=Hc.out.c3
    obtain ⟨p0,p1,p2,p3,p4⟩:=Hp.out.c5
    obtain ⟨v0,v1,v2,v3⟩:=Hv.out.c4
    replace Hb:=bnx Hb hbn;clear hbn
    refine hK _ _ (fun _=>⟨p0,p1,p2,p3,p4⟩) ?_;clear hK K
    try simp only [Act.put,U1,U2,U3]
    refine planF rfl rfl (fun K hK=>?_)
    go_simp
    refine hK _ _ (fun h=>absurd h (by decide)) ?_;clear hK K
    try simp only [Act.put,U1,U2,U3]
    clear r0 fr0 r1 fr1 r2 fr2
    clear s0 fs0 s1 fs1 s2 fs2
    clear c0 c1 c2
    clear p0 p1 p2 p3 p4
    clear v0 v1 v2 v3
    refine plan_world (fun w5=>Blk w5 (w.heap.size) 36 [.bool false,.string (bs []),.int .i64 0] /\ Blk w5 (w.heap.size + 1) 36 [.bool (sgnB (dN D)),.string (bs (nt (dN D).natAbs)),.int .i64 (dE D)] /\ Blk w5 (wr.heap.size) 36 [.bool t1,.string (bs l1),.int .i64 e1] /\ Blk w5 (w1.heap.size) 99 [.int .i64 g,.bool (sgnB X),.string (bs (nt X.natAbs)),.bool (sgnB Y),.string (bs (nt Y.natAbs))] /\ Blk w5 (W2.heap.size) 34 [.bool (sgnB X),.string (bs (nt X.natAbs)),.bool (sgnB Y),.string (bs (nt Y.natAbs))] /\ Below w.heap.size w w5) ⟨(((Hr.out.so (w.heap.size + 1) 0 (by omega) _).so (w.heap.size + 1) 1 (by omega) _).so (w.heap.size + 1) 2 (by omega) _),(((Hs.out.set 0 _).set 1 _).set 2 _),(((Hc.out.so (w.heap.size + 1) 0 (by omega) _).so (w.heap.size + 1) 1 (by omega) _).so (w.heap.size + 1) 2 (by omega) _),(((Hp.out.so (w.heap.size + 1) 0 (by omega) _).so (w.heap.size + 1) 1 (by omega) _).so (w.heap.size + 1) 2 (by omega) _),(((Hv.out.so (w.heap.size + 1) 0 (by omega) _).so (w.heap.size + 1) 1 (by omega) _).so (w.heap.size + 1) 2 (by omega) _),by first | exact (((Hb.out.sc (w.heap.size + 1) 0 (by have:=Hb.out.size;omega) _).sc (w.heap.size + 1) 1 (by have:=Hb.out.size;omega) _).sc (w.heap.size + 1) 2 (by have:=Hb.out.size;omega) _) | exact Below.drew (((Hb.out.sc (w.heap.size + 1) 0 (by have:=Hb.out.size;omega) _).sc (w.heap.size + 1) 1 (by have:=Hb.out.size;omega) _).sc (w.heap.size + 1) 2 (by have:=Hb.out.size;omega) _)⟩ ?_
    rintro w5 ⟨qr,qs,qc,qp,qv,hbn⟩
    replace Hr:=lid qr;clear qr
    replace Hs:=lid qs;clear qs
    replace Hc:=lid qc;clear qc
    replace Hp:=lid qp;clear qp
    replace Hv:=lid qv;clear qv
    obtain ⟨r0,fr0,r1,fr1,r2,fr2⟩:=Hr.out.g3
    obtain ⟨s0,fs0,s1,fs1,s2,fs2⟩:=Hs.out.g3
    obtain ⟨c0,c1,c2⟩:=Hc.out.c3
    obtain ⟨p0,p1,p2,p3,p4⟩:=Hp.out.c5
    obtain ⟨v0,v1,v2,v3⟩:=Hv.out.c4
    replace Hb:=lid hbn;clear hbn
    simp only [wpPlan]
    go_wp2
    go_roundw
    case rel=>
     refine ⟨k + 1,by omega,by go_num,Hr.out,?_,Hb.out⟩
     rw [Hst.out];exact Hs.out
    case measure=>simp [intOf];omega
  . obtain rfl : k = xs.length:=by omega
    rw [List.take_length] at Hs
    unfold numC canon at Hs
    simp only at Hs
    obtain ⟨r0,fr0,r1,fr1,r2,fr2⟩:=Hr.out.g3
    obtain ⟨s0,fs0,s1,fs1,s2,fs2⟩:=Hs.out.g3
    go_wp2
    refine bodyPost_ret (v:=numV (dsum xs)) (by simp [results,Tryz.results28,go_sem,r0,r1,r2]) rfl ⟨rfl,?_⟩
    (repeat first | exact Hb.out | (refine Below.setCell ?_ (by have:=Hb.out.size;first | (dsimp only;omega) | (show _ <= _;omega) | (simp<;>omega)) _) | (refine Below.alloc ?_ (by have:=Hb.out.size;simp<;>omega) _) | refine Below.drew ?_)
theorem Sm.one : Sm 1 1:=⟨2,by rfl,by decide⟩
theorem dsum_sm {B : Nat} (xs : List Raw) (h : ∀ x ∈ xs,Sm B (dval x)) : Sm (B + xs.length) (dsum xs):=by
 induction xs with
 | nil=>exact Sm.zero _
 | cons x xs ih =>
   have h1:=h x (by simp)
   have h2:=ih (fun y hy=>h y (by simp [hy]))
   exact (Sm.add (h1.mono (by omega : B <= B + xs.length)) h2)
theorem dprod_sm {B : Nat} (xs : List Raw) (h : ∀ x ∈ xs,Sm B (dval x)) : Sm (B * xs.length + 1) (dprod xs):=by
 induction xs with
 | nil=>exact Sm.one
 | cons x xs ih =>
   have h1:=h x (by simp)
   have h2:=ih (fun y hy=>h y (by simp [hy]))
   have:=Sm.mul h1 h2
   rw [show B * (x :: xs).length + 1 = B + (B * xs.length + 1) by rw [List.length_cons,Nat.mul_add];omega]
   exact this
def Fit (B : Nat) (x : Raw) : Prop:=Ok x /\ Sm B (dval x)
theorem Fit.mono {A B : Nat} {x : Raw} (h : Fit A x) (hAB : A <= B) : Fit B x:=⟨h.1,h.2.mono hAB⟩
theorem Sm.fit {B : Nat} {d : Dyadic} (h : Sm B d) (hB : B <= 268435456) : Fit B (canon d):=⟨h.ok hB,by rw [dval_canon];exact h⟩
theorem dAdd_fit (xs : List Raw) (B : Nat) (S : Dyadic) (hS : dsum xs = S) (a : Option Addr) (cap : Nat) (w : World) (hl : ∀ x ∈ xs,Fit B x) (hB : B + xs.length <= 268435456) (hx : xs.length <= 1048576)
 (ha : At w a (xs.flatMap numC)) (hT : Tab w) :
 Calls Tryz.prog 28 #[.slice a xs.length cap] w fun e w'=>e = .returned (numV S) /\ Below w.heap.size w w':=by
 subst hS
 refine dAdd_any xs a cap w (fun x h=>(hl x h).1) (fun k=>?_) hx ha hT
 refine Sm.ok (B:=B + xs.length) (Sm.mono (dsum_sm (B:=B) _ (fun x h=>(hl x (List.mem_of_mem_take h)).2)) ?_) hB
 rw [List.length_take];omega
theorem dMul_any (xs : List Raw) (a : Option Addr) (cap : Nat) (w : World) (hl : ∀ x ∈ xs,Ok x) (hS : ∀ k,Ok (canon (dprod (xs.take k)))) (hx : xs.length <= 1048576)
 (ha : At w a (xs.flatMap numC)) (hT : Tab w) :
 Calls Tryz.prog 45 #[.slice a xs.length cap] w fun e w'=>e = .returned (numV (dprod xs)) /\ Below w.heap.size w w':=by
 have Hl:=lid hl;clear hl
 have HS:=lid hS;clear hS
 have Ha:=lid ha;clear ha
 have HT0:=lid hT;clear hT
 obtain ⟨I,hI⟩ : ∃ I : Dyadic,1 = I:=⟨_,rfl⟩
 have HI : Hid (Dyadic.ofIntWithPrec 1 0 = I):=by show _ = _;rw [<- hI];rfl
 have HI1:=lid hI;clear hI
 go_enter Tryz.func45,Tryz.ntmps45
 have Hb : Hid (Below w.heap.size w w):=Below.refl _ _
 go_wp2_with fail
 obtain ⟨R,hR⟩ : ∃ R : World -> Prop,(fun W=>Blk W (w.heap.size) 36 [.bool false,.string (bs []),.int .i64 0] /\ Below w.heap.size w W) = R:=⟨_,rfl⟩
 first | refine wp_world R ?hR ?_ | refine calls_world R ?hR ?_
 case hR=>subst hR;exact ⟨(Blk.newAt w _ _ (b:=w.heap.size) rfl),((Below.refl _ _).alloc (Nat.le_refl _) _)⟩
 subst hR
 rintro W ⟨qr,hbn⟩
 have Hr:=lid qr;clear qr
 obtain ⟨r0,fr0,r1,fr1,r2,fr2⟩:=Hr.out.g3
 replace Hb:=bnx Hb hbn;clear hbn
 have HT:=lid (HT0.out.below Hb.out)
 go_wp2_with fail
 refine (dOf_any 1 I HI.out _ (by omega) HT.out).mono ?_
 rintro e w2 ⟨rfl,hbn⟩
 clear r0 fr0 r1 fr1 r2 fr2
 replace Hr:=kB Hr hbn
 obtain ⟨r0,fr0,r1,fr1,r2,fr2⟩:=Hr.out.g3
 replace Hb:=bnx Hb hbn;clear hbn
 have lz_r_W2:=Hr.out.lt
 go_wp2_with fail
 obtain ⟨R,hR⟩ : ∃ R : World -> Prop,(fun W2=>Blk W2 (w2.heap.size) 36 [.bool (sgnB (dN I)),.string (bs (nt (dN I).natAbs)),.int .i64 (dE I)] /\ Below w2.heap.size w2 W2) = R:=⟨_,rfl⟩
 first | refine wp_world R ?hR ?_ | refine calls_world R ?hR ?_
 case hR=>subst hR;exact ⟨(Blk.newAt w2 _ _ (b:=w2.heap.size) rfl),((Below.refl _ _).alloc (Nat.le_refl _) _)⟩
 subst hR
 rintro W2 ⟨qs,hbn⟩
 have Hs:=lid qs;clear qs
 clear r0 fr0 r1 fr1 r2 fr2
 replace Hr:=kB Hr hbn
 obtain ⟨r0,fr0,r1,fr1,r2,fr2⟩:=Hr.out.g3
 obtain ⟨s0,fs0,s1,fs1,s2,fs2⟩:=Hs.out.g3
 replace Hb:=bnx Hb hbn;clear hbn
 go_loopw [5,9] (fun _ i wr=>∃ (k : Nat),k <= xs.length /\ i = .int .i64 k /\ Blk wr w.heap.size 36 [.bool false,.string (bs []),.int .i64 0] /\
  Blk wr w2.heap.size 36 (numC (canon (dprod (xs.take k)))) /\ Below w.heap.size w wr) (fun _ i _=>xs.length - (intOf i).toNat)
 case atStart=>
  refine ⟨0,Nat.zero_le _,rfl,Hr.out,?_,Hb.out⟩
  have e : dprod (xs.take 0) = I:=by rw [<- HI1.out];rfl
  rw [e];exact Hs.out
 case round=>
  obtain ⟨k,hk,rfl,qr,qs,hb⟩:=hrel
  replace Hr:=lid qr;replace Hs:=lid qs;replace Hb:=lid hb;clear qr qs hb r0 r1 r2 fr0 fr1 fr2 s0 s1 s2 fs0 fs1 fs2 HT
  by_cases hlt : k < xs.length
  . obtain ⟨b,o,hab,hcs⟩:=(Ha.out.below Hb.out).elem (f:=numC) (sz:=3) (fun _=>rfl) (by decide) k hlt
    have hc0 : wr.cell? ⟨b,o + k * 3,none⟩ = some (.bool xs[k].1):=hcs 0 (by decide)
    have hc1 : wr.cell? ⟨b,o + k * 3 + 1,none⟩ = some (.string (bs xs[k].2.1)):=hcs 1 (by decide)
    have hc2 : wr.cell? ⟨b,o + k * 3 + 2,none⟩ = some (.int .i64 xs[k].2.2):=hcs 2 (by decide)
    have hix:=i22x36 xs.length cap k (k : Int) hab hlt rfl
    have Hst:=lid (dprod_take xs k hlt)
    have HLx : Hid (Ok xs[k]):=Hl.out _ (List.getElem_mem hlt)
    have HL1:=lid (HS.out k)
    clear hcs hab
    generalize xs[k] = x at *
    obtain ⟨t1,l1,e1⟩:=x
    generalize hS : dprod (xs.take k) = S at *
    clear hS
    obtain ⟨N,hN⟩ : ∃ N,dN S * iv t1 l1 = N:=⟨_,rfl⟩
    obtain ⟨D,hD⟩ : ∃ D,S * dval (t1,l1,e1) = D:=⟨_,rfl⟩
    obtain ⟨g,hg⟩ : ∃ g,dE S + e1 = g:=⟨_,rfl⟩
    have HD : Hid (dval (sgnB N,nt N.natAbs,g) = D):=by
     show _ = _
     rw [dval_int,<- hD,<- hN]
     conv=>rhs;rw [owp_parts S]
     unfold dval
     rw [owp_mul]
     congr 1;simp only;omega
    have o1:=HL1.out.exp;have o2:=HLx.out.exp
    have o3:=HL1.out.len;have o4:=HLx.out.len
    have HlN : Hid ((nt N.natAbs).length <= 34359738368):=by
     show _ <= _
     have h2:=neg_len t1 l1 268435456 o4
     rw [Int.natAbs_neg] at h2
     rw [<- hN];exact Nat.le_trans (mul_len (dN S) (iv t1 l1) _ _ o3 h2) (by decide)
    rw [hD] at Hst
    have LX : Hid ((nt (dN S).natAbs).length <= 17179869184):=by show _ <= _;omega
    have LY : Hid (l1.length <= 17179869184):=by show _ <= _;omega
    have Hg : Hid (-1099511627776 <= g /\ g <= 1099511627776):=by show _ /\ _;omega
    have hwg : IntKind.i64.wrap (dE S + e1) = g:=by rw [IntKind.wrap_i64];omega
    have HN : Hid (iv (sgnB (dN S)) (nt (dN S).natAbs) * iv t1 l1 = N):=by show _ = _;rw [iv_int];exact hN
    clear hg hN hD HL1 HLx o1 o2 o3 o4
    unfold numC canon at Hs
    simp only at Hs
    have hrs : w.heap.size < w2.heap.size:=lz_r_W2
    obtain ⟨r0,fr0,r1,fr1,r2,fr2⟩:=Hr.out.g3
    obtain ⟨s0,fs0,s1,fs1,s2,fs2⟩:=Hs.out.g3
    have lz_r_W1:=Hr.out.lt
    have lz_s_W1:=Hs.out.lt
    go_wp2_with fail
    obtain ⟨R,hR⟩ : ∃ R : World -> Prop,(fun W1=>Blk W1 (wr.heap.size) 36 [.bool t1,.string (bs l1),.int .i64 e1] /\ Below wr.heap.size wr W1) = R:=⟨_,rfl⟩
    first | refine wp_world R ?hR ?_ | refine calls_world R ?hR ?_
    case hR=>subst hR;exact ⟨(Blk.newAt wr _ _ (b:=wr.heap.size) rfl),((Below.refl _ _).alloc (Nat.le_refl _) _)⟩
    subst hR
    rintro W1 ⟨qc,hbn⟩
    have Hc:=lid qc;clear qc
    clear r0 fr0 r1 fr1 r2 fr2
    replace Hr:=kB Hr hbn
    obtain ⟨r0,fr0,r1,fr1,r2,fr2⟩:=Hr.out.g3
    clear s0 fs0 s1 fs1 s2 fs2
    replace Hs:=kB Hs hbn
    obtain ⟨s0,fs0,s1,fs1,s2,fs2⟩:=Hs.out.g3
    obtain ⟨c0,c1,c2⟩:=Hc.out.c3
    replace Hb:=bnx Hb hbn;clear hbn
    refine wp_region_plan (fun w'=>w'.cell? ⟨wr.heap.size,0,none⟩ = some (.bool t1) /\ w'.cell? ⟨wr.heap.size,1,none⟩ = some (.string (bs l1)) /\ w'.cell? ⟨wr.heap.size,2,none⟩ = some (.int .i64 e1) /\ w'.cell? ⟨w2.heap.size,0,none⟩ = some (.bool (sgnB (dN S))) /\ w'.cell? ⟨w2.heap.size,1,none⟩ = some (.string (bs (nt (dN S).natAbs))) /\ w'.cell? ⟨w2.heap.size,2,none⟩ = some (.int .i64 (dE S))) (fun i=>Nat.blt i 12) [(0,true),(1,true),(2,true),(3,true),(6,true),(7,true),(8,true),(9,true),(10,true),(4,false),(5,false),(11,false),(12,false)] (by kernel_rfl) (by kernel_rfl) rfl (by kernel_rfl) (fun o c a v w=>by cases o.dst<;>exact id) ⟨c0,c1,c2,s0,s1,s2⟩ ?_
    iterate 9 (refine planT rfl rfl (v:=?_) (fun w' hw'=>?_) ?_;rotate_left;(focus obtain ⟨q0,q1,q2,q3,q4,q5⟩:=hw';go_simp;try with_reducible rfl);try simp only [Act.put,U1,U2,U3])
    refine planF rfl rfl (fun K hK=>?_)
    go_simp
    refine hK _ _ (fun _=>⟨cell_new c0,cell_new c1,cell_new c2,cell_new s0,cell_new s1,cell_new s2⟩) ?_;clear hK K
    try simp only [Act.put,U1,U2,U3]
    refine plan_world (fun W3=>Blk W3 (W1.heap.size) 34 [.bool (sgnB (dN S)),.string (bs (nt (dN S).natAbs)),.bool t1,.string (bs l1)] /\ Below W1.heap.size W1 W3) (by first | exact nw1 | exact nw2) ?_
    rintro W3 ⟨qv,hbn⟩
    clear r0 fr0 r1 fr1 r2 fr2
    clear s0 fs0 s1 fs1 s2 fs2
    clear c0 c1 c2
    have lz_r_W3:=Hr.out.lt
    have lz_s_W3:=Hs.out.lt
    have lz_c_W3:=Hc.out.lt
    replace Hr:=kB Hr hbn
    replace Hs:=kB Hs hbn
    replace Hc:=kB Hc hbn
    have Hv:=lid qv;clear qv
    obtain ⟨r0,fr0,r1,fr1,r2,fr2⟩:=Hr.out.g3
    obtain ⟨s0,fs0,s1,fs1,s2,fs2⟩:=Hs.out.g3
    obtain ⟨c0,c1,c2⟩:=Hc.out.c3
    obtain ⟨v0,v1,v2,v3⟩:=Hv.out.c4
    replace Hb:=bnx Hb hbn;clear hbn
    refine planF rfl rfl (fun K hK=>?_)
    go_simp
    with_reducible refine (wMul_two (sgnB (dN S)) (nt (dN S).natAbs) t1 l1 N HN.out W1.heap.size 2 34 _ LX.out LY.out Hv.out).mono ?_
    rintro e w3 ⟨rfl,hq⟩
    have hbn : Below W3.heap.size W3 w3:=by first | exact hq | exact bundrew hq
    clear r0 fr0 r1 fr1 r2 fr2
    clear s0 fs0 s1 fs1 s2 fs2
    clear c0 c1 c2
    clear v0 v1 v2 v3
    replace Hr:=kB Hr hbn
    replace Hs:=kB Hs hbn
    replace Hc:=kB Hc hbn
    replace Hv:=kB Hv hbn
    obtain ⟨r0,fr0,r1,fr1,r2,fr2⟩:=Hr.out.g3
    obtain ⟨s0,fs0,s1,fs1,s2,fs2⟩:=Hs.out.g3
    obtain ⟨c0,c1,c2⟩:=Hc.out.c3
    obtain ⟨v0,v1,v2,v3⟩:=Hv.out.c4
    replace Hb:=bnx Hb hbn;clear hbn
    refine hK _ _ (fun _=>⟨c0,c1,c2,s0,s1,s2⟩) ?_;clear hK K
    try simp only [Act.put,U1,U2,U3]
    refine planF rfl rfl (fun K hK=>?_)
    go_simp
    with_reducible refine (make_any (sgnB N) (nt N.natAbs) g D HD.out _ HlN.out Hg.out (by first | exact (HT0.out.below Hb.out) | exact Tab.drew (HT0.out.below Hb.out) | exact Tab.alloc (HT0.out.below Hb.out) _ | exact Tab.drew (Tab.alloc (HT0.out.below Hb.out) _) | exact Tab.alloc (Tab.drew (HT0.out.below Hb.out)) _)).mono ?_
    rintro e w4 ⟨rfl,hq⟩
    have hbn : Below w3.heap.size w3 w4:=by first | exact hq | exact bundrew hq
    clear r0 fr0 r1 fr1 r2 fr2
    clear s0 fs0 s1 fs1 s2 fs2
    clear c0 c1 c2
    clear v0 v1 v2 v3
    replace Hr:=kB Hr hbn
    replace Hs:=kB Hs hbn
    replace Hc:=kB Hc hbn
    replace Hv:=kB Hv hbn
    obtain ⟨r0,fr0,r1,fr1,r2,fr2⟩:=Hr.out.g3
    obtain ⟨s0,fs0,s1,fs1,s2,fs2⟩:=Hs.out.g3
    obtain ⟨c0,c1,c2⟩:=Hc.out.c3
    obtain ⟨v0,v1,v2,v3⟩:=Hv.out.c4
    replace Hb:=bnx Hb hbn;clear hbn
    refine hK _ _ (fun _=>⟨c0,c1,c2,s0,s1,s2⟩) ?_;clear hK K
    try simp only [Act.put,U1,U2,U3]
    refine planF rfl rfl (fun K hK=>?_)
    go_simp
    refine hK _ _ (fun h=>absurd h (by decide)) ?_;clear hK K
    try simp only [Act.put,U1,U2,U3]
    clear r0 fr0 r1 fr1 r2 fr2
    clear s0 fs0 s1 fs1 s2 fs2
    clear c0 c1 c2
    clear v0 v1 v2 v3
    refine plan_world (fun w5=>Blk w5 (w.heap.size) 36 [.bool false,.string (bs []),.int .i64 0] /\ Blk w5 (w2.heap.size) 36 [.bool (sgnB (dN D)),.string (bs (nt (dN D).natAbs)),.int .i64 (dE D)] /\ Blk w5 (wr.heap.size) 36 [.bool t1,.string (bs l1),.int .i64 e1] /\ Blk w5 (W1.heap.size) 34 [.bool (sgnB (dN S)),.string (bs (nt (dN S).natAbs)),.bool t1,.string (bs l1)] /\ Below w.heap.size w w5) ⟨(((Hr.out.so (w2.heap.size) 0 (by omega) _).so (w2.heap.size) 1 (by omega) _).so (w2.heap.size) 2 (by omega) _),(((Hs.out.set 0 _).set 1 _).set 2 _),(((Hc.out.so (w2.heap.size) 0 (by omega) _).so (w2.heap.size) 1 (by omega) _).so (w2.heap.size) 2 (by omega) _),(((Hv.out.so (w2.heap.size) 0 (by omega) _).so (w2.heap.size) 1 (by omega) _).so (w2.heap.size) 2 (by omega) _),by first | exact (((Hb.out.sc (w2.heap.size) 0 (by have:=Hb.out.size;omega) _).sc (w2.heap.size) 1 (by have:=Hb.out.size;omega) _).sc (w2.heap.size) 2 (by have:=Hb.out.size;omega) _) | exact Below.drew (((Hb.out.sc (w2.heap.size) 0 (by have:=Hb.out.size;omega) _).sc (w2.heap.size) 1 (by have:=Hb.out.size;omega) _).sc (w2.heap.size) 2 (by have:=Hb.out.size;omega) _)⟩ ?_
    rintro w5 ⟨qr,qs,qc,qv,hbn⟩
    replace Hr:=lid qr;clear qr
    replace Hs:=lid qs;clear qs
    replace Hc:=lid qc;clear qc
    replace Hv:=lid qv;clear qv
    obtain ⟨r0,fr0,r1,fr1,r2,fr2⟩:=Hr.out.g3
    obtain ⟨s0,fs0,s1,fs1,s2,fs2⟩:=Hs.out.g3
    obtain ⟨c0,c1,c2⟩:=Hc.out.c3
    obtain ⟨v0,v1,v2,v3⟩:=Hv.out.c4
    replace Hb:=lid hbn;clear hbn
    simp only [wpPlan]
    go_wp2
    go_roundw
    case rel=>
     refine ⟨k + 1,by omega,by go_num,Hr.out,?_,Hb.out⟩
     rw [Hst.out];exact Hs.out
    case measure=>simp [intOf];omega
  . obtain rfl : k = xs.length:=by omega
    rw [List.take_length] at Hs
    unfold numC canon at Hs
    simp only at Hs
    obtain ⟨r0,fr0,r1,fr1,r2,fr2⟩:=Hr.out.g3
    obtain ⟨s0,fs0,s1,fs1,s2,fs2⟩:=Hs.out.g3
    go_wp2
    refine bodyPost_ret (v:=numV (dprod xs)) (by simp [results,Tryz.results45,go_sem,r0,r1,r2]) rfl ⟨rfl,?_⟩
    (repeat first | exact Hb.out | (refine Below.setCell ?_ (by have:=Hb.out.size;first | (dsimp only;omega) | (show _ <= _;omega) | (simp<;>omega)) _) | (refine Below.alloc ?_ (by have:=Hb.out.size;simp<;>omega) _) | refine Below.drew ?_)
theorem dMul_fit (xs : List Raw) (B : Nat) (S : Dyadic) (hS : dprod xs = S) (a : Option Addr) (cap : Nat) (w : World) (hl : ∀ x ∈ xs,Fit B x) (hB : B * xs.length + 1 <= 268435456) (hx : xs.length <= 1048576)
 (ha : At w a (xs.flatMap numC)) (hT : Tab w) :
 Calls Tryz.prog 45 #[.slice a xs.length cap] w fun e w'=>e = .returned (numV S) /\ Below w.heap.size w w':=by
 subst hS
 refine dMul_any xs a cap w (fun x h=>(hl x h).1) (fun k=>?_) hx ha hT
 refine Sm.ok (B:=B * xs.length + 1) (Sm.mono (dprod_sm (B:=B) _ (fun x h=>(hl x (List.mem_of_mem_take h)).2)) ?_) hB
 rw [List.length_take]
 have : B * min k xs.length <= B * xs.length:=Nat.mul_le_mul_left _ (by omega)
 omega
theorem dAdd_two (s : Bool) (l : List UInt8) (e : Int) (t : Bool) (m : List UInt8) (f : Int) (S : Dyadic) (B : Nat) (hS : dval (s,l,e) + dval (t,m,f) = S) (b cap : Nat) (ty : TypeId) (w : World) (hx : Fit B (s,l,e)) (hy : Fit B (t,m,f)) (hB : B + 2 <= 268435456)
 (ha : Blk w b ty [.bool s,.string (bs l),.int .i64 e,.bool t,.string (bs m),.int .i64 f]) (hT : Tab w) :
 Calls Tryz.prog 28 #[.slice (some ⟨b,0,none⟩) 2 cap] w fun e w'=>e = .returned (numV S) /\ Below w.heap.size w w':=
 dAdd_fit [(s,l,e),(t,m,f)] B S (by rw [<- hS];simp only [dsum];grind) _ cap w (by intro x h;simp at h;rcases h with rfl | rfl;exact hx;exact hy) hB (by simp) (At.of_blk ha) hT
theorem dMul_two (s : Bool) (l : List UInt8) (e : Int) (t : Bool) (m : List UInt8) (f : Int) (S : Dyadic) (B : Nat) (hS : dval (s,l,e) * dval (t,m,f) = S) (b cap : Nat) (ty : TypeId) (w : World) (hx : Fit B (s,l,e)) (hy : Fit B (t,m,f)) (hB : 2 * B + 1 <= 268435456)
 (ha : Blk w b ty [.bool s,.string (bs l),.int .i64 e,.bool t,.string (bs m),.int .i64 f]) (hT : Tab w) :
 Calls Tryz.prog 45 #[.slice (some ⟨b,0,none⟩) 2 cap] w fun e w'=>e = .returned (numV S) /\ Below w.heap.size w w':=
 dMul_fit [(s,l,e),(t,m,f)] B S (by rw [<- hS];simp only [dprod];grind) _ cap w (by intro x h;simp at h;rcases h with rfl | rfl;exact hx;exact hy) (by simp;omega) (by simp) (At.of_blk ha) hT
theorem dSub_fit (s : Bool) (l : List UInt8) (e : Int) (t : Bool) (m : List UInt8) (f : Int) (S : Dyadic) (B : Nat) (hS : dval (s,l,e) - dval (t,m,f) = S) (w : World) (hx : Fit B (s,l,e)) (hy : Fit B (t,m,f)) (hB : B + 2 <= 268435456) (hT : Tab w) :
 Calls Tryz.prog 79 #[.agg #[.bool s,.string (bs l),.int .i64 e],.agg #[.bool t,.string (bs m),.int .i64 f]] w fun e w'=>e = .returned (numV S) /\ Below w.heap.size w w':=by
 obtain ⟨D,hD⟩ : ∃ D,-dval (t,m,f) = D:=⟨_,rfl⟩
 have Hn : Hid (Fit B (sgnB (dN D),nt (dN D).natAbs,dE D)):=by rw [<- hD];exact (hy.2.neg).fit (by omega)
 have HS : Hid (dval (s,l,e) + dval (sgnB (dN D),nt (dN D).natAbs,dE D) = S):=by show _ + dval (canon D) = _;rw [dval_canon,<- hD,<- hS];grind
 have Hyo:=lid hy.1
 have HD:=lid hD;have Hx0:=lid hx;have Hy0:=lid hy
 clear hD hx hy hS
 go_enter Tryz.func79,Tryz.ntmps79
 have Hb : Hid (Below w.heap.size w w):=Below.refl _ _
 go_wp2_with fail
 obtain ⟨R,hR⟩ : ∃ R : World -> Prop,(fun W=>Blk W (w.heap.size) 36 [.bool s,.string (bs l),.int .i64 e] /\ Blk W (w.heap.size + 1) 36 [.bool t,.string (bs m),.int .i64 f] /\ Blk W (w.heap.size + 1 + 1) 36 [.bool false,.string (bs []),.int .i64 0] /\ Below w.heap.size w W) = R:=⟨_,rfl⟩
 first | refine wp_world R ?hR ?_ | refine calls_world R ?hR ?_
 case hR=>subst hR;exact ⟨(((Blk.newAt w _ _ (b:=w.heap.size) rfl).alloc _).alloc _),((Blk.newAt (w.alloc _) _ _ (b:=w.heap.size + 1) (by simp)).alloc _),(Blk.newAt ((w.alloc _).alloc _) _ _ (b:=w.heap.size + 1 + 1) (by simp)),((((Below.refl _ _).alloc (Nat.le_refl _) _).alloc (by simp<;>omega) _).alloc (by simp<;>omega) _)⟩
 subst hR
 rintro W ⟨qx,qy,qr,hbn⟩
 have Hx:=lid qx;clear qx
 have Hy:=lid qy;clear qy
 have Hr:=lid qr;clear qr
 obtain ⟨x0,x1,x2⟩:=Hx.out.c3
 obtain ⟨y0,y1,y2⟩:=Hy.out.c3
 obtain ⟨r0,fr0,r1,fr1,r2,fr2⟩:=Hr.out.g3
 replace Hb:=bnx Hb hbn;clear hbn
 refine wp_region_plan (fun w'=>w'.cell? ⟨w.heap.size,0,none⟩ = some (.bool s) /\ w'.cell? ⟨w.heap.size,1,none⟩ = some (.string (bs l)) /\ w'.cell? ⟨w.heap.size,2,none⟩ = some (.int .i64 e) /\ w'.cell? ⟨w.heap.size + 1,0,none⟩ = some (.bool t) /\ w'.cell? ⟨w.heap.size + 1,1,none⟩ = some (.string (bs m)) /\ w'.cell? ⟨w.heap.size + 1,2,none⟩ = some (.int .i64 f)) (fun i=>Nat.blt i 5) [(0,true),(1,true),(2,false),(3,false),(4,false),(5,false)] (by kernel_rfl) (by kernel_rfl) rfl (by kernel_rfl) (fun o c a v w=>by cases o.dst<;>exact id) ⟨x0,x1,x2,y0,y1,y2⟩ ?_
 iterate 2 (refine planT rfl rfl (v:=?_) (fun w' hw'=>?_) ?_;rotate_left;(focus obtain ⟨q0,q1,q2,q3,q4,q5⟩:=hw';go_simp;try with_reducible rfl);try simp only [Act.put,U1,U2,U3])
 refine planF rfl rfl (fun K hK=>?_)
 go_simp
 with_reducible refine (dNeg_any t m f D HD.out _ Hyo.out (by first | exact (hT.below Hb.out) | exact Tab.drew (hT.below Hb.out) | exact Tab.alloc (hT.below Hb.out) _ | exact Tab.drew (Tab.alloc (hT.below Hb.out) _) | exact Tab.alloc (Tab.drew (hT.below Hb.out)) _)).mono ?_
 rintro e w1 ⟨rfl,hq⟩
 have hbn : Below W.heap.size W w1:=by first | exact hq | exact bundrew hq
 clear x0 x1 x2
 clear y0 y1 y2
 clear r0 fr0 r1 fr1 r2 fr2
 replace Hx:=kB Hx hbn
 replace Hy:=kB Hy hbn
 replace Hr:=kB Hr hbn
 obtain ⟨x0,x1,x2⟩:=Hx.out.c3
 obtain ⟨y0,y1,y2⟩:=Hy.out.c3
 obtain ⟨r0,fr0,r1,fr1,r2,fr2⟩:=Hr.out.g3
 replace Hb:=bnx Hb hbn;clear hbn
 refine hK _ _ (fun _=>⟨x0,x1,x2,y0,y1,y2⟩) ?_;clear hK K
 try simp only [Act.put,U1,U2,U3]
 refine planF rfl rfl (fun K hK=>?_)
 go_simp
 refine hK _ _ (fun _=>⟨cell_new x0,cell_new x1,cell_new x2,cell_new y0,cell_new y1,cell_new y2⟩) ?_;clear hK K
 try simp only [Act.put,U1,U2,U3]
 refine plan_world (fun W1=>Blk W1 (w1.heap.size) 36 [.bool s,.string (bs l),.int .i64 e,.bool (sgnB (dN D)),.string (bs (nt (dN D).natAbs)),.int .i64 (dE D)] /\ Below w1.heap.size w1 W1) (by first | exact nw1 | exact nw2) ?_
 rintro W1 ⟨qv,hbn⟩
 clear x0 x1 x2
 clear y0 y1 y2
 clear r0 fr0 r1 fr1 r2 fr2
 have lz_x_W1:=Hx.out.lt
 have lz_y_W1:=Hy.out.lt
 have lz_r_W1:=Hr.out.lt
 replace Hx:=kB Hx hbn
 replace Hy:=kB Hy hbn
 replace Hr:=kB Hr hbn
 have Hv:=lid qv;clear qv
 obtain ⟨x0,x1,x2⟩:=Hx.out.c3
 obtain ⟨y0,y1,y2⟩:=Hy.out.c3
 obtain ⟨r0,fr0,r1,fr1,r2,fr2⟩:=Hr.out.g3
 obtain ⟨v0,v1,v2,v3,v4,v5⟩:=Hv.out.c6
 replace Hb:=bnx Hb hbn;clear hbn
 refine planF rfl rfl (fun K hK=>?_)
 go_simp
 with_reducible refine (dAdd_two s l e (sgnB (dN D)) (nt (dN D).natAbs) (dE D) S B HS.out w1.heap.size 2 36 _ Hx0.out Hn.out hB Hv.out (by first | exact (hT.below Hb.out) | exact Tab.drew (hT.below Hb.out) | exact Tab.alloc (hT.below Hb.out) _ | exact Tab.drew (Tab.alloc (hT.below Hb.out) _) | exact Tab.alloc (Tab.drew (hT.below Hb.out)) _)).mono ?_
 rintro e w2 ⟨rfl,hq⟩
 have hbn : Below W1.heap.size W1 w2:=by first | exact hq | exact bundrew hq
 clear x0 x1 x2
 clear y0 y1 y2
 clear r0 fr0 r1 fr1 r2 fr2
 clear v0 v1 v2 v3 v4 v5
 replace Hx:=kB Hx hbn
 replace Hy:=kB Hy hbn
 replace Hr:=kB Hr hbn
 replace Hv:=kB Hv hbn
 obtain ⟨x0,x1,x2⟩:=Hx.out.c3
 obtain ⟨y0,y1,y2⟩:=Hy.out.c3
 obtain ⟨r0,fr0,r1,fr1,r2,fr2⟩:=Hr.out.g3
 obtain ⟨v0,v1,v2,v3,v4,v5⟩:=Hv.out.c6
 replace Hb:=bnx Hb hbn;clear hbn
 refine hK _ _ (fun _=>⟨x0,x1,x2,y0,y1,y2⟩) ?_;clear hK K
 try simp only [Act.put,U1,U2,U3]
 refine planF rfl rfl (fun K hK=>?_)
 go_simp
 refine hK _ _ (fun h=>absurd h (by decide)) ?_;clear hK K
 try simp only [Act.put,U1,U2,U3]
 clear x0 x1 x2
 clear y0 y1 y2
 clear r0 fr0 r1 fr1 r2 fr2
 clear v0 v1 v2 v3 v4 v5
 refine plan_world (fun w3=>Blk w3 (w.heap.size) 36 [.bool s,.string (bs l),.int .i64 e] /\ Blk w3 (w.heap.size + 1) 36 [.bool t,.string (bs m),.int .i64 f] /\ Blk w3 (w.heap.size + 1 + 1) 36 [.bool (sgnB (dN S)),.string (bs (nt (dN S).natAbs)),.int .i64 (dE S)] /\ Blk w3 (w1.heap.size) 36 [.bool s,.string (bs l),.int .i64 e,.bool (sgnB (dN D)),.string (bs (nt (dN D).natAbs)),.int .i64 (dE D)] /\ Below w.heap.size w w3) ⟨(((Hx.out.so (w.heap.size + 1 + 1) 0 (by omega) _).so (w.heap.size + 1 + 1) 1 (by omega) _).so (w.heap.size + 1 + 1) 2 (by omega) _),(((Hy.out.so (w.heap.size + 1 + 1) 0 (by omega) _).so (w.heap.size + 1 + 1) 1 (by omega) _).so (w.heap.size + 1 + 1) 2 (by omega) _),(((Hr.out.set 0 _).set 1 _).set 2 _),(((Hv.out.so (w.heap.size + 1 + 1) 0 (by omega) _).so (w.heap.size + 1 + 1) 1 (by omega) _).so (w.heap.size + 1 + 1) 2 (by omega) _),by first | exact (((Hb.out.sc (w.heap.size + 1 + 1) 0 (by have:=Hb.out.size;omega) _).sc (w.heap.size + 1 + 1) 1 (by have:=Hb.out.size;omega) _).sc (w.heap.size + 1 + 1) 2 (by have:=Hb.out.size;omega) _) | exact Below.drew (((Hb.out.sc (w.heap.size + 1 + 1) 0 (by have:=Hb.out.size;omega) _).sc (w.heap.size + 1 + 1) 1 (by have:=Hb.out.size;omega) _).sc (w.heap.size + 1 + 1) 2 (by have:=Hb.out.size;omega) _)⟩ ?_
 rintro w3 ⟨qx,qy,qr,qv,hbn⟩
 replace Hx:=lid qx;clear qx
 replace Hy:=lid qy;clear qy
 replace Hr:=lid qr;clear qr
 replace Hv:=lid qv;clear qv
 obtain ⟨x0,x1,x2⟩:=Hx.out.c3
 obtain ⟨y0,y1,y2⟩:=Hy.out.c3
 obtain ⟨r0,fr0,r1,fr1,r2,fr2⟩:=Hr.out.g3
 obtain ⟨v0,v1,v2,v3,v4,v5⟩:=Hv.out.c6
 replace Hb:=lid hbn;clear hbn
 simp only [wpPlan]
 go_wp2
 refine bodyPost_ret (v:=numV S) (by simp [results,Tryz.results79,go_sem,r0,r1,r2]) rfl ⟨rfl,?_⟩
 (repeat first | exact Hb.out | (refine Below.setCell ?_ (by have:=Hb.out.size;first | (dsimp only;omega) | (show _ <= _;omega) | (simp<;>omega)) _) | (refine Below.alloc ?_ (by have:=Hb.out.size;simp<;>omega) _) | refine Below.drew ?_)
theorem dsg_owp (n k : Int) : dsg (Dyadic.ofIntWithPrec n k) = sgnI n:=by
 have h:=sgnI_dN (sgnB n) (nt n.natAbs) (-k)
 rw [dval_int,iv_int,Int.neg_neg] at h
 exact h.symm
theorem dCmp_any (s : Bool) (l : List UInt8) (e : Int) (t : Bool) (m : List UInt8) (f : Int) (c : Int) (hc : dsg (dval (s,l,e) - dval (t,m,f)) = c) (w : World) (hx : Ok (s,l,e)) (hy : Ok (t,m,f)) (hT : Tab w) :
 Calls Tryz.prog 60 #[.agg #[.bool s,.string (bs l),.int .i64 e],.agg #[.bool t,.string (bs m),.int .i64 f]] w fun e w'=>e = .returned (.int .i64 c) /\ Below w.heap.size w w':=by
 obtain ⟨g,X,Y,hg,hX,hY,eA,eB,lX,lY,hg1,hg2⟩:=lv_facts hx hy _ _ rfl rfl
 have hcX : sgnI (X - Y) = c:=by
  rw [<- hc,eA,eB,show ∀ a b : Dyadic,a - b = a + -b from fun a b=>by grind,owp_neg,owp_add,dsg_owp];rfl
 obtain ⟨u,hu⟩ : ∃ u,dsg (dval (s,l,e)) = u:=⟨_,rfl⟩
 obtain ⟨v,hv⟩ : ∃ v,dsg (dval (t,m,f)) = v:=⟨_,rfl⟩
 have hu2 : sgnI X = u:=by rw [<- hu,eA,dsg_owp]
 have hv2 : sgnI Y = v:=by rw [<- hv,eB,dsg_owp]
 have ru : -1 <= u /\ u <= 1:=by rw [<- hu2];unfold sgnI;split<;>(try split)<;>omega
 have rv : -1 <= v /\ v <= 1:=by rw [<- hv2];unfold sgnI;split<;>(try split)<;>omega
 have Hlv : Hid (∀ W,Tab W -> Calls Tryz.prog 49 #[.agg #[.bool s,.string (bs l),.int .i64 e],.agg #[.bool t,.string (bs m),.int .i64 f]] W fun ex w'=>ex = .returned (.agg #[.int .i64 g,.bool (sgnB X),.string (bs (nt X.natAbs)),.bool (sgnB Y),.string (bs (nt Y.natAbs))]) /\ Below W.heap.size W w'):=fun W hW=>
  level_any s l e t m f _ _ rfl rfl g X Y hg hX hY W hx hy hW
 have Hcm : Hid (∀ W,Calls Tryz.prog 80 #[intV X,intV Y] W fun ex w'=>ex = .returned (.int .i64 c) /\ Below W.heap.size W w'):=fun W=>by
  have:=wCmp_any (sgnB X) (nt X.natAbs) (sgnB Y) (nt Y.natAbs) W (by omega) (by omega) (by
   rw [iv_int,iv_int,Int.sub_eq_add_neg];exact Nat.le_trans (add_len X (-Y) 17179869183 lX (by rw [Int.natAbs_neg];exact lY)) (by decide))
  rw [iv_int,iv_int,hcX] at this
  exact this
 have hcl : ¬ u = v -> max (-1) (min 1 (u - v)) = c:=by
  intro hne
  rw [<- hcX];rw [<- hu2,<- hv2] at hne ⊢
  unfold sgnI at *
  split<;>split<;>(try split)<;>(try split)<;>(try split)<;>omega
 have hwr : IntKind.i64.wrap (u - v) = u - v:=by rw [IntKind.wrap_i64];omega
 have Hu:=lid hu;have Hv:=lid hv;have Hx0:=lid hx;have Hy0:=lid hy
 clear hu hv hu2 hv2 hx hy hcX hc eA eB hX hY hg
 go_enter Tryz.func60,Tryz.ntmps60
 have Hb : Hid (Below w.heap.size w w):=Below.refl _ _
 go_wp2_with fail
 obtain ⟨R,hR⟩ : ∃ R : World -> Prop,(fun W=>Blk W (w.heap.size) 36 [.bool s,.string (bs l),.int .i64 e] /\ Blk W (w.heap.size + 1) 36 [.bool t,.string (bs m),.int .i64 f] /\ Below w.heap.size w W) = R:=⟨_,rfl⟩
 first | refine wp_world R ?hR ?_ | refine calls_world R ?hR ?_
 case hR=>subst hR;exact ⟨((Blk.newAt w _ _ (b:=w.heap.size) rfl).alloc _),(Blk.newAt (w.alloc _) _ _ (b:=w.heap.size + 1) (by simp)),(((Below.refl _ _).alloc (Nat.le_refl _) _).alloc (by simp<;>omega) _)⟩
 subst hR
 rintro W ⟨qx,qy,hbn⟩
 have Hx:=lid qx;clear qx
 have Hy:=lid qy;clear qy
 obtain ⟨x0,x1,x2⟩:=Hx.out.c3
 obtain ⟨y0,y1,y2⟩:=Hy.out.c3
 replace Hb:=bnx Hb hbn;clear hbn
 refine wp_region_plan (fun w'=>w'.cell? ⟨w.heap.size,0,none⟩ = some (.bool s) /\ w'.cell? ⟨w.heap.size,1,none⟩ = some (.string (bs l)) /\ w'.cell? ⟨w.heap.size,2,none⟩ = some (.int .i64 e) /\ w'.cell? ⟨w.heap.size + 1,0,none⟩ = some (.bool t) /\ w'.cell? ⟨w.heap.size + 1,1,none⟩ = some (.string (bs m)) /\ w'.cell? ⟨w.heap.size + 1,2,none⟩ = some (.int .i64 f)) (fun i=>Nat.blt i 100000) [(0,true),(2,true),(1,false),(3,false),(4,true),(5,true)] (by kernel_rfl) (by kernel_rfl) rfl (by kernel_rfl) (fun o c a v w=>by cases o.dst<;>exact id) ⟨x0,x1,x2,y0,y1,y2⟩ ?_
 iterate 2 (refine planT rfl rfl (v:=?_) (fun w' hw'=>?_) ?_;rotate_left;(focus obtain ⟨q0,q1,q2,q3,q4,q5⟩:=hw';go_simp;try with_reducible rfl);try simp only [Act.put,U1,U2,U3])
 refine planF rfl rfl (fun K hK=>?_)
 go_simp
 with_reducible refine (dsign_any s l e u Hu.out _ Hx0.out).mono ?_
 rintro e w1 ⟨rfl,hq⟩
 have hbn : Below W.heap.size W w1:=by first | exact hq | exact bundrew hq
 clear x0 x1 x2
 clear y0 y1 y2
 replace Hx:=kB Hx hbn
 replace Hy:=kB Hy hbn
 obtain ⟨x0,x1,x2⟩:=Hx.out.c3
 obtain ⟨y0,y1,y2⟩:=Hy.out.c3
 replace Hb:=bnx Hb hbn;clear hbn
 refine hK _ _ (fun _=>⟨x0,x1,x2,y0,y1,y2⟩) ?_;clear hK K
 try simp only [Act.put,U1,U2,U3]
 refine planF rfl rfl (fun K hK=>?_)
 go_simp
 with_reducible refine (dsign_any t m f v Hv.out _ Hy0.out).mono ?_
 rintro e w2 ⟨rfl,hq⟩
 have hbn : Below w1.heap.size w1 w2:=by first | exact hq | exact bundrew hq
 clear x0 x1 x2
 clear y0 y1 y2
 replace Hx:=kB Hx hbn
 replace Hy:=kB Hy hbn
 obtain ⟨x0,x1,x2⟩:=Hx.out.c3
 obtain ⟨y0,y1,y2⟩:=Hy.out.c3
 replace Hb:=bnx Hb hbn;clear hbn
 refine hK _ _ (fun _=>⟨x0,x1,x2,y0,y1,y2⟩) ?_;clear hK K
 try simp only [Act.put,U1,U2,U3]
 iterate 2 (refine planT rfl rfl (v:=?_) (fun w' hw'=>?_) ?_;rotate_left;(focus go_simp;try with_reducible rfl);try simp only [Act.put,U1,U2,U3])
 simp only [wpPlan]
 by_cases huv : u = v
 . subst huv
   clear hcl
   go_wp2_with fail
   have HT:=lid (hT.below Hb.out)
   go_wp2_with fail
   refine (Hlv.out _ HT.out).mono ?_
   rintro e w3 ⟨rfl,hbn⟩
   clear x0 x1 x2
   clear y0 y1 y2
   replace Hx:=kB Hx hbn
   replace Hy:=kB Hy hbn
   obtain ⟨x0,x1,x2⟩:=Hx.out.c3
   obtain ⟨y0,y1,y2⟩:=Hy.out.c3
   replace Hb:=bnx Hb hbn;clear hbn
   have lz_x_W4:=Hx.out.lt
   have lz_y_W4:=Hy.out.lt
   go_wp2_with fail
   obtain ⟨R,hR⟩ : ∃ R : World -> Prop,(fun W4=>Blk W4 (w3.heap.size) 99 [.int .i64 g,.bool (sgnB X),.string (bs (nt X.natAbs)),.bool (sgnB Y),.string (bs (nt Y.natAbs))] /\ Below w3.heap.size w3 W4) = R:=⟨_,rfl⟩
   first | refine wp_world R ?hR ?_ | refine calls_world R ?hR ?_
   case hR=>subst hR;exact ⟨(Blk.newAt w3 _ _ (b:=w3.heap.size) rfl),((Below.refl _ _).alloc (Nat.le_refl _) _)⟩
   subst hR
   rintro W4 ⟨qp,hbn⟩
   have Hp:=lid qp;clear qp
   clear x0 x1 x2
   replace Hx:=kB Hx hbn
   obtain ⟨x0,x1,x2⟩:=Hx.out.c3
   clear y0 y1 y2
   replace Hy:=kB Hy hbn
   obtain ⟨y0,y1,y2⟩:=Hy.out.c3
   obtain ⟨p0,p1,p2,p3,p4⟩:=Hp.out.c5
   replace Hb:=bnx Hb hbn;clear hbn
   go_wp2_with fail
   refine (Hcm.out _).mono ?_
   rintro e w5 ⟨rfl,hbn⟩
   clear x0 x1 x2
   clear y0 y1 y2
   clear p0 p1 p2 p3 p4
   replace Hx:=kB Hx hbn
   replace Hy:=kB Hy hbn
   replace Hp:=kB Hp hbn
   obtain ⟨x0,x1,x2⟩:=Hx.out.c3
   obtain ⟨y0,y1,y2⟩:=Hy.out.c3
   obtain ⟨p0,p1,p2,p3,p4⟩:=Hp.out.c5
   replace Hb:=bnx Hb hbn;clear hbn
   go_wp2
   go_ret
   exact ⟨rfl,Hb.out⟩
 . have hcl:=hcl huv
   have huv2 : (u != v) = true:=by simp [huv]
   go_wp2
   go_ret
   exact ⟨rfl,Hb.out⟩
def mayM (l : List UInt8) (v : Int) : Bool:=(l.all fun c=>decide (c.toNat <= 127)) && decide ((l.length : Int) = v)
theorem mmay_any (l : List UInt8) (v : Int) (w : World) (hl : l.length <= 9223372036854775807) :
 Calls Tryz.prog 54 #[.string (bs l),.int .i64 v] w fun e w'=>e = .returned (.bool (mayM l v)) /\ Below w.heap.size w w':=by
 obtain ⟨n,hn⟩ : ∃ n,l.length = n:=⟨_,rfl⟩
 have hsz : (bs l).size = n:=by rw [bs_size,hn]
 obtain ⟨M,hM⟩ : ∃ M,mayM l v = M:=⟨_,rfl⟩
 rw [hM]
 have HM:=lid hM;have Hn:=lid hn
 rw [hn] at hl
 clear hM hn
 go_enter Tryz.func54,Tryz.ntmps54
 have Hb : Hid (Below w.heap.size w w):=Below.refl _ _
 go_wp2_with fail
 go_loopw [8] (fun x wr=>∃ k : Nat,k <= n /\ x = .int .i64 (k : Int) /\ ((l.take k).all fun c=>decide (c.toNat <= 127)) = true /\ Below w.heap.size w wr) (fun x _=>n - (intOf x).toNat)
 case atStart=>exact ⟨0,Nat.zero_le _,rfl,rfl,Hb.out⟩
 case round=>
  clear Hb
  obtain ⟨k,hk,rfl,hall,pb⟩:=hrel
  have Hall:=lid hall;have Hb:=lid pb
  clear hall pb
  by_cases hlt : k < n
  . have hk2 : k < l.length:=by rw [Hn.out];exact hlt
    have ix:=idx_bs l (k : Int) k hk2 rfl
    obtain ⟨c,hc⟩ : ∃ c : Nat,(l[k]).toNat = c:=⟨_,rfl⟩
    rw [hc] at ix
    by_cases h1 : 127 < c
    . have h2 : (127 : Int) < (c : Int):=by omega
      have hmf : M = false:=by
       rw [<- HM.out]
       unfold mayM
       have : (l.all fun c=>decide (c.toNat <= 127)) = false:=by
        rw [List.all_eq_false]
        exact ⟨l[k],List.getElem_mem hk2,by simp;omega⟩
       rw [this];rfl
      subst hmf
      go_wp2
      refine bodyPost_ret (v:=.bool false) (by simp [results,Tryz.results54,go_sem]) rfl ⟨rfl,?_⟩
      (repeat first | exact Hb.out | (refine Below.setCell ?_ (by have:=Hb.out.size;first | (dsimp only;omega) | (show _ <= _;omega) | (simp<;>omega)) _) | (refine Below.alloc ?_ (by have:=Hb.out.size;simp<;>omega) _) | refine Below.drew ?_)
    . have h2 : ¬ (127 : Int) < (c : Int):=by omega
      have Hst : Hid (((l.take (k + 1)).all fun c=>decide (c.toNat <= 127)) = true):=by
       show _ = _
       rw [List.take_succ_eq_append_getElem hk2,List.all_append,Hall.out]
       simp;omega
      clear hc
      go_wp2
      go_roundw
      case rel=>exact ⟨k + 1,by omega,by go_num,Hst.out,Hb.out⟩
      case measure=>simp [intOf];omega
  . obtain rfl : k = n:=by omega
    have hme : M = decide ((k : Int) = v):=by
     rw [<- HM.out]
     have h:=Hall.out
     rw [List.take_of_length_le (by rw [Hn.out];exact Nat.le_refl _)] at h
     unfold mayM
     rw [h,Hn.out,Bool.true_and]
    have Hme:=lid hme
    clear hme
    go_wp2
    refine bodyPost_ret (results_tmp rfl _ _ _) rfl ⟨?_,Hb.out⟩
    rw [Hme.out]
    by_cases h : (k : Int) = v<;>simp [h]
theorem few_any (v : Int) (w : World) :
 Calls Tryz.prog 53 #[.int .i64 v] w fun e w'=>e = .returned (.bool (decide (0 <= v /\ v <= 12))) /\ Below w.heap.size w w':=by
 have Hb : Hid (Below w.heap.size w w):=Below.refl _ _
 go_enter Tryz.func53,Tryz.ntmps53
 by_cases h1 : 0 <= v
 . by_cases h2 : v <= 12
   . go_wp2
     refine bodyPost_ret (results_tmp rfl _ _ _) rfl ⟨?_,Hb.out⟩
     simp [h2];omega
   . go_wp2
     refine bodyPost_ret (results_tmp rfl _ _ _) rfl ⟨?_,Hb.out⟩
     simp [h2]
 . go_wp2
   refine bodyPost_ret (results_tmp rfl _ _ _) rfl ⟨?_,Hb.out⟩
   simp;omega
end Go.Proofs.YtidjljldhdckiaaGreatDoor
namespace Go.Proofs.YtidjljldhdckiaaGreatDoor
end Go.Proofs.YtidjljldhdckiaaGreatDoor
