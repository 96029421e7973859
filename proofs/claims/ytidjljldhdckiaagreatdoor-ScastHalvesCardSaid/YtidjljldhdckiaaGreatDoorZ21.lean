/- Package nat: Div,by any number above 0;package whole: Div,where it goes up. -/
import Derived.Test.YtidjljldhdckiaaGreatDoorZ7
import Derived.Test.YtidjljldhdckiaaGreatDoorZ8
set_option maxRecDepth 100000
set_option maxHeartbeats 16000000
namespace Go.Proofs.YtidjljldhdckiaaGreatDoor
open Go.RowKit
theorem natDiv_less (l m : List UInt8) (w : World) (hl : l.length <= 68719476736) (hm : m.length <= 68719476736) (hlt : nv l < nv m) :
 Calls Tryz.prog 139 #[.string (bs l),.string (bs m)] w fun e w'=>e = .returned (.tuple #[.string (bs []),.string (bs (nt (nv l))),.bool true]) /\ Below w.heap.size w w':=by
 have h1:=fun W=>of_any l W (by omega)
 have h2:=fun W=>of_any m W (by omega)
 have hly:=ln_pos (show 0 < nv m by omega)
 have hlxc:=ln_le (WWp_bytes l)
 have hlyc:=ln_le (WWp_bytes m)
 have hXl:=lt_ln (nv l)
 have hYl:=lt_ln (nv m)
 obtain ⟨X,hX⟩ : ∃ X,nv l = X:=⟨_,rfl⟩
 obtain ⟨Y,hY⟩ : ∃ Y,nv m = Y:=⟨_,rfl⟩
 rw [hX] at h1 hlt hlxc hXl ⊢
 rw [hY] at h2 hlt hlyc hYl hly
 obtain ⟨lx,hlxe⟩ : ∃ lx,ln X = lx:=⟨_,rfl⟩
 obtain ⟨ly,hlye⟩ : ∃ ly,ln Y = ly:=⟨_,rfl⟩
 obtain ⟨cx,hcx⟩ : ∃ cx,(l.length + 7) / 8 = cx:=⟨_,rfl⟩
 obtain ⟨cy,hcy⟩ : ∃ cy,(m.length + 7) / 8 = cy:=⟨_,rfl⟩
 rw [hlxe] at h1 hlxc hXl
 rw [hlye] at h2 hlyc hYl hly
 rw [hcx] at h1 hlxc
 rw [hcy] at h2 hlyc
 have hcx2 : cx <= 8589934593:=by omega
 have hcy2 : cy <= 8589934593:=by omega
 have hcmp : cmpI X Y = -1:=by unfold cmpI;rw [if_pos hlt]
 have H1:=lid h1;have H2:=lid h2;have HXl:=lid hXl;have HYl:=lid hYl
 clear h1 h2 hXl hYl hX hY hlxe hlye hcx hcy hlt
 have hly0 : ((ly : Int) == 0) = false:=by simp;omega
 go_enter Tryz.func139,Tryz.ntmps139
 go_wp2_with fail
 refine (H1.out w).mono ?_
 rintro e w1 ⟨rfl,hB1,hb1,hle1⟩
 have HB1:=lid hB1;have Hb1:=lid hb1;clear hB1 hb1
 go_wp2_with fail
 refine (H2.out w1).mono ?_
 rintro e w2 ⟨rfl,hB2,hb2,hle3⟩
 have HB2:=lid hB2;have Hb2:=lid (bnext Hb1.out hb2)
 replace HB1:=lid (HB1.out.below hb2)
 clear hB2 hb2
 go_wp2_with fail
 refine (lcmp_any w.heap.size 0 lx cx X w1.heap.size 0 ly cy Y w2 (by omega) hle1 (HB1.out.lim _ hle1) HXl.out (by omega) hle3 (HB2.out.lim _ hle3) HYl.out).mono ?_
 rintro e w3 ⟨rfl,hb3⟩
 replace HB1:=lid (HB1.out.below hb3)
 have Hb3:=lid (bnext Hb2.out hb3);clear hb3
 rw [hcmp]
 go_wp2_with fail
 refine (text_any w.heap.size 0 lx cx X w3 (by omega) hle1 (HB1.out.lim _ hle1) HXl.out).mono ?_
 rintro e w4 ⟨rfl,hb4⟩
 have Hb4:=lid (bnext Hb3.out hb4);clear hb4
 go_wp2
 refine bodyPost_ret (v:=.tuple #[.string (bs []),.string (bs (nt X)),.bool true]) (by simp [results,Tryz.results139,go_sem];rfl) rfl ⟨rfl,Hb4.out⟩
theorem natDiv_all (l m : List UInt8) (w : World) (hl : l.length <= 68719476736) (hm : m.length <= 68719476736) (hm0 : 0 < nv m) :
 Calls Tryz.prog 139 #[.string (bs l),.string (bs m)] w fun e w'=>e = .returned (.tuple #[.string (bs (nt (nv l / nv m))),.string (bs (nt (nv l % nv m))),.bool true]) /\ Below w.heap.size w w':=by
 rcases Nat.lt_or_ge (nv l) (nv m) with h | h
 . have:=natDiv_less l m w hl hm h
   rw [Nat.div_eq_of_lt h,Nat.mod_eq_of_lt h,nt_zero]
   exact this
 . exact natDiv_any l m w hl hm hm0 h
theorem ediv_exact (s t : Bool) (l m : List UInt8) (hm : 0 < nv m) (hd : nv l % nv m = 0) : iv s l / iv t m = if s = t then iv false (nt (nv l / nv m)) else -iv false (nt (nv l / nv m)):=by
 obtain ⟨q,hq⟩:=Nat.dvd_of_mod_eq_zero hd
 have e : nv l / nv m = q:=by rw [hq];exact Nat.mul_div_cancel_left _ hm
 have hm1 : (nv m : Int) ≠ 0:=by omega
 rw [e,iv_num]
 unfold iv
 rw [hq]
 simp only [Bool.false_eq_true,if_false,Int.natCast_mul]
 cases s<;>cases t<;>simp only [Bool.false_eq_true,if_false,if_true,reduceCtorEq]
 . exact Int.mul_ediv_cancel_left _ hm1
 . rw [Int.ediv_neg,Int.mul_ediv_cancel_left _ hm1]
 . rw [Int.neg_ediv_of_dvd ⟨_,rfl⟩,Int.mul_ediv_cancel_left _ hm1]
 . rw [Int.ediv_neg,Int.neg_ediv_of_dvd ⟨_,rfl⟩,Int.mul_ediv_cancel_left _ hm1,Int.neg_neg]
theorem wDiv_any (s t : Bool) (l m : List UInt8) (w : World) (hl : l.length <= 34359738368) (hm : m.length <= 34359738368) (hm0 : 0 < nv m) (hd : nv l % nv m = 0) :
 Calls Tryz.prog 126 #[.agg #[.bool s,.string (bs l)],.agg #[.bool t,.string (bs m)]] w fun e w'=>∃ r,e = .returned (.tuple #[intV (iv s l / iv t m),r,.bool true]) /\ Below w.heap.size w w':=by
 have h1:=fun W=>natDiv_all l m W (by omega) (by omega) hm0
 have hq:=ediv_exact s t l m hm0 hd
 have hlen : (nt (nv l / nv m)).length <= 34359738368:=by
  obtain ⟨B,hB⟩ : ∃ B,34359738368 = B:=⟨_,rfl⟩
  rw [hB] at hl ⊢
  exact nt_length_le (Nat.lt_of_le_of_lt (Nat.div_le_self _ _) (Nat.lt_of_lt_of_le (nv_lt l) (Nat.pow_le_pow_right (by decide) hl)))
 rw [hd,nt_zero] at h1
 obtain ⟨Q,hQ⟩ : ∃ Q,nt (nv l / nv m) = Q:=⟨_,rfl⟩
 rw [hQ] at h1 hq hlen
 obtain ⟨N,hN⟩ : ∃ N,iv s l / iv t m = N:=⟨_,rfl⟩
 rw [hN] at hq ⊢
 have H1:=lid h1;have HQ:=lid hq
 have hem : (bs []).toList.isEmpty = true:=by rw [bs_empty];rfl
 clear h1 hq hQ hN hd hm0
 cases s with
 | false =>
   cases t with
   | false =>
     have hN:=HQ.out
     rw [if_pos rfl] at hN
     have HN:=lid hN;clear hN
     obtain ⟨W,hW_W⟩ : ∃ W,((((w.alloc (.cells #[.bool false,.string (bs l)] 34)).alloc (.cells #[.bool false,.string (bs m)] 34)).alloc (.cells #[.bool false,.string ⟨#[]⟩] 34)).alloc (.cells #[.bool false,.string ⟨#[]⟩] 34)) = W:=⟨_,rfl⟩
     have Hb : Hid (Below w.heap.size w W):=by rw [<- hW_W];exact (((((Below.refl _ _).alloc (Nat.le_refl _) _).alloc (by simp<;>omega) _).alloc (by simp<;>omega) _).alloc (by simp<;>omega) _)
     have Ha : Hid (Blk W (w.heap.size) 34 [.bool false,.string (bs l)]):=by rw [<- hW_W];exact (((Blk.newAt _ _ _ (by simp)).alloc _).alloc _).alloc _
     have Hc : Hid (Blk W (w.heap.size + 1) 34 [.bool false,.string (bs m)]):=by rw [<- hW_W];exact ((Blk.newAt _ _ _ (by simp)).alloc _).alloc _
     have Hq : Hid (Blk W (w.heap.size + 1 + 1) 34 [.bool false,.string ⟨#[]⟩]):=by rw [<- hW_W];exact (Blk.newAt _ _ _ (by simp)).alloc _
     have Hr : Hid (Blk W (w.heap.size + 1 + 1 + 1) 34 [.bool false,.string ⟨#[]⟩]):=by rw [<- hW_W];exact Blk.newAt _ _ _ (by simp)
     obtain ⟨a0,a1⟩:=Ha.out.c2
     obtain ⟨c0,c1⟩:=Hc.out.c2
     obtain ⟨q0,fq0,q1,fq1⟩:=Hq.out.g2
     obtain ⟨r0,fr0,r1,fr1⟩:=Hr.out.g2
     go_enter Tryz.func126,Tryz.ntmps126
     go_wp2_with fail
     refine (H1.out _).mono ?_
     rintro e w1 ⟨rfl,hbn⟩
     clear a0 a1
     clear c0 c1
     clear q0 fq0 q1 fq1
     clear r0 fr0 r1 fr1
     replace Ha:=kB Ha hbn
     replace Hc:=kB Hc hbn
     replace Hq:=kB Hq hbn
     replace Hr:=kB Hr hbn
     obtain ⟨a0,a1⟩:=Ha.out.c2
     obtain ⟨c0,c1⟩:=Hc.out.c2
     obtain ⟨q0,fq0,q1,fq1⟩:=Hq.out.g2
     obtain ⟨r0,fr0,r1,fr1⟩:=Hr.out.g2
     replace Hb:=bnx Hb hbn;clear hbn
     go_wp2_with fail
     clear a0 a1
     clear c0 c1
     clear q0 fq0 q1 fq1
     clear r0 fr0 r1 fr1
     obtain ⟨R,hR⟩ : ∃ R : World -> Prop,(fun w2=>Blk w2 (w.heap.size) 34 [.bool false,.string (bs l)] /\ Blk w2 (w.heap.size + 1) 34 [.bool false,.string (bs m)] /\ Blk w2 (w.heap.size + 1 + 1) 34 [.bool false,.string (bs Q)] /\ Blk w2 (w.heap.size + 1 + 1 + 1) 34 [.bool false,.string (bs [])] /\ Below w.heap.size w w2) = R:=⟨_,rfl⟩
     first | refine wp_world R ?hR ?_ | refine calls_world R ?hR ?_
     case hR=>subst hR;exact ⟨((((Ha.out.so (w.heap.size + 1 + 1) 0 (by omega) _).so (w.heap.size + 1 + 1) 1 (by omega) _).so (w.heap.size + 1 + 1 + 1) 0 (by omega) _).so (w.heap.size + 1 + 1 + 1) 1 (by omega) _),((((Hc.out.so (w.heap.size + 1 + 1) 0 (by omega) _).so (w.heap.size + 1 + 1) 1 (by omega) _).so (w.heap.size + 1 + 1 + 1) 0 (by omega) _).so (w.heap.size + 1 + 1 + 1) 1 (by omega) _),((((Hq.out.set 0 _).set 1 _).so (w.heap.size + 1 + 1 + 1) 0 (by omega) _).so (w.heap.size + 1 + 1 + 1) 1 (by omega) _),((((Hr.out.so (w.heap.size + 1 + 1) 0 (by omega) _).so (w.heap.size + 1 + 1) 1 (by omega) _).set 0 _).set 1 _),((((Hb.out.sc (w.heap.size + 1 + 1) 0 (by have:=Hb.out.size;omega) _).sc (w.heap.size + 1 + 1) 1 (by have:=Hb.out.size;omega) _).sc (w.heap.size + 1 + 1 + 1) 0 (by have:=Hb.out.size;omega) _).sc (w.heap.size + 1 + 1 + 1) 1 (by have:=Hb.out.size;omega) _)⟩
     subst hR
     rintro w2 ⟨qa,qc,qq,qr,hbn⟩
     replace Ha:=lid qa;clear qa
     replace Hc:=lid qc;clear qc
     replace Hq:=lid qq;clear qq
     replace Hr:=lid qr;clear qr
     obtain ⟨a0,a1⟩:=Ha.out.c2
     obtain ⟨c0,c1⟩:=Hc.out.c2
     obtain ⟨q0,fq0,q1,fq1⟩:=Hq.out.g2
     obtain ⟨r0,fr0,r1,fr1⟩:=Hr.out.g2
     replace Hb:=lid hbn;clear hbn
     have hF:=fun W=>wForm_any false Q W (Nat.le_trans hlen (by decide))
     rw [<- HN.out] at hF
     have HF:=lid hF;clear hF
     refine wp_region_plan (fun w'=>w'.cell? ⟨w.heap.size + 1 + 1 + 1,0,none⟩ = some (.bool false) /\ w'.cell? ⟨w.heap.size + 1 + 1 + 1,1,none⟩ = some (.string (bs []))) (fun i=>Nat.blt i 4) [(2,true),(0,false),(1,false),(3,false),(4,false),(5,false)] (by kernel_rfl) (by kernel_rfl) rfl (by kernel_rfl) (fun o c a v w=>by cases o.dst<;>exact id) ⟨r0,r1⟩ ?_
     refine planT rfl rfl (v:=?_) (fun w' hw'=>?_) ?_;rotate_left;(focus obtain ⟨q0,q1⟩:=hw';go_simp;try with_reducible rfl);try simp only [Act.put,U1,U2,U3]
     refine planF rfl rfl (fun K hK=>?_)
     go_simp
     refine hK _ _ (fun _=>⟨r0,r1⟩) ?_;clear hK K
     try simp only [Act.put,U1,U2,U3]
     refine planF rfl rfl (fun K hK=>?_)
     go_simp
     with_reducible refine (HF.out _).mono ?_
     rintro e w5 ⟨rfl,hq⟩
     have hbn : Below w2.heap.size w2 w5:=by first | exact hq | exact bundrew hq
     clear a0 a1
     clear c0 c1
     clear q0 fq0 q1 fq1
     clear r0 fr0 r1 fr1
     replace Ha:=kB Ha hbn
     replace Hc:=kB Hc hbn
     replace Hq:=kB Hq hbn
     replace Hr:=kB Hr hbn
     obtain ⟨a0,a1⟩:=Ha.out.c2
     obtain ⟨c0,c1⟩:=Hc.out.c2
     obtain ⟨q0,fq0,q1,fq1⟩:=Hq.out.g2
     obtain ⟨r0,fr0,r1,fr1⟩:=Hr.out.g2
     replace Hb:=bnx Hb hbn;clear hbn
     refine hK _ _ (fun _=>⟨r0,r1⟩) ?_;clear hK K
     try simp only [Act.put,U1,U2,U3]
     refine planF rfl rfl (fun K hK=>?_)
     go_simp
     refine hK _ _ (fun _=>⟨(cell_set_at (by first | (dsimp only;omega) | (simp<;>omega)) (cell_set_at (by first | (dsimp only;omega) | (simp<;>omega)) r0)),(cell_set_at (by first | (dsimp only;omega) | (simp<;>omega)) (cell_set_at (by first | (dsimp only;omega) | (simp<;>omega)) r1))⟩) ?_;clear hK K
     try simp only [Act.put,U1,U2,U3]
     clear a0 a1
     clear c0 c1
     clear q0 fq0 q1 fq1
     clear r0 fr0 r1 fr1
     refine plan_world (fun w6=>Blk w6 (w.heap.size) 34 [.bool false,.string (bs l)] /\ Blk w6 (w.heap.size + 1) 34 [.bool false,.string (bs m)] /\ Blk w6 (w.heap.size + 1 + 1) 34 [.bool (sgnB N),.string (bs (nt N.natAbs))] /\ Blk w6 (w.heap.size + 1 + 1 + 1) 34 [.bool false,.string (bs [])] /\ Below w.heap.size w w6) ⟨((Ha.out.so (w.heap.size + 1 + 1) 0 (by omega) _).so (w.heap.size + 1 + 1) 1 (by omega) _),((Hc.out.so (w.heap.size + 1 + 1) 0 (by omega) _).so (w.heap.size + 1 + 1) 1 (by omega) _),((Hq.out.set 0 _).set 1 _),((Hr.out.so (w.heap.size + 1 + 1) 0 (by omega) _).so (w.heap.size + 1 + 1) 1 (by omega) _),by first | exact ((Hb.out.sc (w.heap.size + 1 + 1) 0 (by have:=Hb.out.size;omega) _).sc (w.heap.size + 1 + 1) 1 (by have:=Hb.out.size;omega) _) | exact Below.drew ((Hb.out.sc (w.heap.size + 1 + 1) 0 (by have:=Hb.out.size;omega) _).sc (w.heap.size + 1 + 1) 1 (by have:=Hb.out.size;omega) _)⟩ ?_
     rintro w6 ⟨qa,qc,qq,qr,hbn⟩
     replace Ha:=lid qa;clear qa
     replace Hc:=lid qc;clear qc
     replace Hq:=lid qq;clear qq
     replace Hr:=lid qr;clear qr
     obtain ⟨a0,a1⟩:=Ha.out.c2
     obtain ⟨c0,c1⟩:=Hc.out.c2
     obtain ⟨q0,fq0,q1,fq1⟩:=Hq.out.g2
     obtain ⟨r0,fr0,r1,fr1⟩:=Hr.out.g2
     replace Hb:=lid hbn;clear hbn
     refine planF rfl rfl (fun K hK=>?_)
     go_simp
     refine hK _ _ (fun h=>absurd h (by decide)) ?_;clear hK K
     try simp only [Act.put,U1,U2,U3]
     clear a0 a1
     clear c0 c1
     clear q0 fq0 q1 fq1
     clear r0 fr0 r1 fr1
     refine plan_world (fun w7=>Blk w7 (w.heap.size) 34 [.bool false,.string (bs l)] /\ Blk w7 (w.heap.size + 1) 34 [.bool false,.string (bs m)] /\ Blk w7 (w.heap.size + 1 + 1) 34 [.bool (sgnB N),.string (bs (nt N.natAbs))] /\ Blk w7 (w.heap.size + 1 + 1 + 1) 34 [.bool false,.string (bs [])] /\ Below w.heap.size w w7) ⟨((Ha.out.so (w.heap.size + 1 + 1 + 1) 0 (by omega) _).so (w.heap.size + 1 + 1 + 1) 1 (by omega) _),((Hc.out.so (w.heap.size + 1 + 1 + 1) 0 (by omega) _).so (w.heap.size + 1 + 1 + 1) 1 (by omega) _),((Hq.out.so (w.heap.size + 1 + 1 + 1) 0 (by omega) _).so (w.heap.size + 1 + 1 + 1) 1 (by omega) _),((Hr.out.set 0 _).set 1 _),by first | exact ((Hb.out.sc (w.heap.size + 1 + 1 + 1) 0 (by have:=Hb.out.size;omega) _).sc (w.heap.size + 1 + 1 + 1) 1 (by have:=Hb.out.size;omega) _) | exact Below.drew ((Hb.out.sc (w.heap.size + 1 + 1 + 1) 0 (by have:=Hb.out.size;omega) _).sc (w.heap.size + 1 + 1 + 1) 1 (by have:=Hb.out.size;omega) _)⟩ ?_
     rintro w7 ⟨qa,qc,qq,qr,hbn⟩
     replace Ha:=lid qa;clear qa
     replace Hc:=lid qc;clear qc
     replace Hq:=lid qq;clear qq
     replace Hr:=lid qr;clear qr
     obtain ⟨a0,a1⟩:=Ha.out.c2
     obtain ⟨c0,c1⟩:=Hc.out.c2
     obtain ⟨q0,fq0,q1,fq1⟩:=Hq.out.g2
     obtain ⟨r0,fr0,r1,fr1⟩:=Hr.out.g2
     replace Hb:=lid hbn;clear hbn
     refine planF rfl rfl (fun K hK=>?_)
     go_simp
     refine hK _ _ (fun h=>absurd h (by decide)) ?_;clear hK K
     try simp only [Act.put,U1,U2,U3]
     simp only [wpPlan]
     go_wp2
     refine bodyPost_ret (v:=.tuple #[intV N,.agg #[.bool false,.string (bs [])],.bool true]) (by simp [results,Tryz.results126,go_sem,q0,q1,r0,r1]) rfl ⟨_,rfl,Hb.out⟩
   | true =>
     have hN:=HQ.out
     rw [if_neg (by decide)] at hN
     have HN:=lid hN;clear hN
     obtain ⟨W,hW_W⟩ : ∃ W,((((w.alloc (.cells #[.bool false,.string (bs l)] 34)).alloc (.cells #[.bool true,.string (bs m)] 34)).alloc (.cells #[.bool false,.string ⟨#[]⟩] 34)).alloc (.cells #[.bool false,.string ⟨#[]⟩] 34)) = W:=⟨_,rfl⟩
     have Hb : Hid (Below w.heap.size w W):=by rw [<- hW_W];exact (((((Below.refl _ _).alloc (Nat.le_refl _) _).alloc (by simp<;>omega) _).alloc (by simp<;>omega) _).alloc (by simp<;>omega) _)
     have Ha : Hid (Blk W (w.heap.size) 34 [.bool false,.string (bs l)]):=by rw [<- hW_W];exact (((Blk.newAt _ _ _ (by simp)).alloc _).alloc _).alloc _
     have Hc : Hid (Blk W (w.heap.size + 1) 34 [.bool true,.string (bs m)]):=by rw [<- hW_W];exact ((Blk.newAt _ _ _ (by simp)).alloc _).alloc _
     have Hq : Hid (Blk W (w.heap.size + 1 + 1) 34 [.bool false,.string ⟨#[]⟩]):=by rw [<- hW_W];exact (Blk.newAt _ _ _ (by simp)).alloc _
     have Hr : Hid (Blk W (w.heap.size + 1 + 1 + 1) 34 [.bool false,.string ⟨#[]⟩]):=by rw [<- hW_W];exact Blk.newAt _ _ _ (by simp)
     obtain ⟨a0,a1⟩:=Ha.out.c2
     obtain ⟨c0,c1⟩:=Hc.out.c2
     obtain ⟨q0,fq0,q1,fq1⟩:=Hq.out.g2
     obtain ⟨r0,fr0,r1,fr1⟩:=Hr.out.g2
     go_enter Tryz.func126,Tryz.ntmps126
     go_wp2_with fail
     refine (H1.out _).mono ?_
     rintro e w1 ⟨rfl,hbn⟩
     clear a0 a1
     clear c0 c1
     clear q0 fq0 q1 fq1
     clear r0 fr0 r1 fr1
     replace Ha:=kB Ha hbn
     replace Hc:=kB Hc hbn
     replace Hq:=kB Hq hbn
     replace Hr:=kB Hr hbn
     obtain ⟨a0,a1⟩:=Ha.out.c2
     obtain ⟨c0,c1⟩:=Hc.out.c2
     obtain ⟨q0,fq0,q1,fq1⟩:=Hq.out.g2
     obtain ⟨r0,fr0,r1,fr1⟩:=Hr.out.g2
     replace Hb:=bnx Hb hbn;clear hbn
     go_wp2_with fail
     clear a0 a1
     clear c0 c1
     clear q0 fq0 q1 fq1
     clear r0 fr0 r1 fr1
     obtain ⟨R,hR⟩ : ∃ R : World -> Prop,(fun w2=>Blk w2 (w.heap.size) 34 [.bool false,.string (bs l)] /\ Blk w2 (w.heap.size + 1) 34 [.bool true,.string (bs m)] /\ Blk w2 (w.heap.size + 1 + 1) 34 [.bool false,.string (bs Q)] /\ Blk w2 (w.heap.size + 1 + 1 + 1) 34 [.bool false,.string (bs [])] /\ Below w.heap.size w w2) = R:=⟨_,rfl⟩
     first | refine wp_world R ?hR ?_ | refine calls_world R ?hR ?_
     case hR=>subst hR;exact ⟨((((Ha.out.so (w.heap.size + 1 + 1) 0 (by omega) _).so (w.heap.size + 1 + 1) 1 (by omega) _).so (w.heap.size + 1 + 1 + 1) 0 (by omega) _).so (w.heap.size + 1 + 1 + 1) 1 (by omega) _),((((Hc.out.so (w.heap.size + 1 + 1) 0 (by omega) _).so (w.heap.size + 1 + 1) 1 (by omega) _).so (w.heap.size + 1 + 1 + 1) 0 (by omega) _).so (w.heap.size + 1 + 1 + 1) 1 (by omega) _),((((Hq.out.set 0 _).set 1 _).so (w.heap.size + 1 + 1 + 1) 0 (by omega) _).so (w.heap.size + 1 + 1 + 1) 1 (by omega) _),((((Hr.out.so (w.heap.size + 1 + 1) 0 (by omega) _).so (w.heap.size + 1 + 1) 1 (by omega) _).set 0 _).set 1 _),((((Hb.out.sc (w.heap.size + 1 + 1) 0 (by have:=Hb.out.size;omega) _).sc (w.heap.size + 1 + 1) 1 (by have:=Hb.out.size;omega) _).sc (w.heap.size + 1 + 1 + 1) 0 (by have:=Hb.out.size;omega) _).sc (w.heap.size + 1 + 1 + 1) 1 (by have:=Hb.out.size;omega) _)⟩
     subst hR
     rintro w2 ⟨qa,qc,qq,qr,hbn⟩
     replace Ha:=lid qa;clear qa
     replace Hc:=lid qc;clear qc
     replace Hq:=lid qq;clear qq
     replace Hr:=lid qr;clear qr
     obtain ⟨a0,a1⟩:=Ha.out.c2
     obtain ⟨c0,c1⟩:=Hc.out.c2
     obtain ⟨q0,fq0,q1,fq1⟩:=Hq.out.g2
     obtain ⟨r0,fr0,r1,fr1⟩:=Hr.out.g2
     replace Hb:=lid hbn;clear hbn
     have hG:=fun W=>wNeg_as false Q N HN.out.symm W (Nat.le_trans hlen (by decide))
     have hF:=fun W=>wForm_any (sgnB N) (nt N.natAbs) W (by rw [HN.out];exact Nat.le_trans (neg_len false Q 34359738368 hlen) (by decide))
     have e : iv (sgnB N) (nt N.natAbs) = N:=iv_int N
     rw [e] at hF
     have HG:=lid hG;have HF:=lid hF;clear hG hF e
     go_wp2_with fail
     refine (HG.out _).mono ?_
     rintro e w3 ⟨rfl,hbn⟩
     clear a0 a1
     clear c0 c1
     clear q0 fq0 q1 fq1
     clear r0 fr0 r1 fr1
     replace Ha:=kB Ha hbn
     replace Hc:=kB Hc hbn
     replace Hq:=kB Hq hbn
     replace Hr:=kB Hr hbn
     obtain ⟨a0,a1⟩:=Ha.out.c2
     obtain ⟨c0,c1⟩:=Hc.out.c2
     obtain ⟨q0,fq0,q1,fq1⟩:=Hq.out.g2
     obtain ⟨r0,fr0,r1,fr1⟩:=Hr.out.g2
     replace Hb:=bnx Hb hbn;clear hbn
     go_wp2_with fail
     clear a0 a1
     clear c0 c1
     clear q0 fq0 q1 fq1
     clear r0 fr0 r1 fr1
     obtain ⟨R,hR⟩ : ∃ R : World -> Prop,(fun w4=>Blk w4 (w.heap.size) 34 [.bool false,.string (bs l)] /\ Blk w4 (w.heap.size + 1) 34 [.bool true,.string (bs m)] /\ Blk w4 (w.heap.size + 1 + 1) 34 [.bool (sgnB N),.string (bs (nt N.natAbs))] /\ Blk w4 (w.heap.size + 1 + 1 + 1) 34 [.bool false,.string (bs [])] /\ Below w.heap.size w w4) = R:=⟨_,rfl⟩
     first | refine wp_world R ?hR ?_ | refine calls_world R ?hR ?_
     case hR=>subst hR;exact ⟨((Ha.out.so (w.heap.size + 1 + 1) 0 (by omega) _).so (w.heap.size + 1 + 1) 1 (by omega) _),((Hc.out.so (w.heap.size + 1 + 1) 0 (by omega) _).so (w.heap.size + 1 + 1) 1 (by omega) _),((Hq.out.set 0 _).set 1 _),((Hr.out.so (w.heap.size + 1 + 1) 0 (by omega) _).so (w.heap.size + 1 + 1) 1 (by omega) _),((Hb.out.sc (w.heap.size + 1 + 1) 0 (by have:=Hb.out.size;omega) _).sc (w.heap.size + 1 + 1) 1 (by have:=Hb.out.size;omega) _)⟩
     subst hR
     rintro w4 ⟨qa,qc,qq,qr,hbn⟩
     replace Ha:=lid qa;clear qa
     replace Hc:=lid qc;clear qc
     replace Hq:=lid qq;clear qq
     replace Hr:=lid qr;clear qr
     obtain ⟨a0,a1⟩:=Ha.out.c2
     obtain ⟨c0,c1⟩:=Hc.out.c2
     obtain ⟨q0,fq0,q1,fq1⟩:=Hq.out.g2
     obtain ⟨r0,fr0,r1,fr1⟩:=Hr.out.g2
     replace Hb:=lid hbn;clear hbn
     refine wp_region_plan (fun w'=>w'.cell? ⟨w.heap.size + 1 + 1 + 1,0,none⟩ = some (.bool false) /\ w'.cell? ⟨w.heap.size + 1 + 1 + 1,1,none⟩ = some (.string (bs []))) (fun i=>Nat.blt i 4) [(2,true),(0,false),(1,false),(3,false),(4,false),(5,false)] (by kernel_rfl) (by kernel_rfl) rfl (by kernel_rfl) (fun o c a v w=>by cases o.dst<;>exact id) ⟨r0,r1⟩ ?_
     refine planT rfl rfl (v:=?_) (fun w' hw'=>?_) ?_;rotate_left;(focus obtain ⟨q0,q1⟩:=hw';go_simp;try with_reducible rfl);try simp only [Act.put,U1,U2,U3]
     refine planF rfl rfl (fun K hK=>?_)
     go_simp
     refine hK _ _ (fun _=>⟨r0,r1⟩) ?_;clear hK K
     try simp only [Act.put,U1,U2,U3]
     refine planF rfl rfl (fun K hK=>?_)
     go_simp
     with_reducible refine (HF.out _).mono ?_
     rintro e w5 ⟨rfl,hq⟩
     have hbn : Below w4.heap.size w4 w5:=by first | exact hq | exact bundrew hq
     clear a0 a1
     clear c0 c1
     clear q0 fq0 q1 fq1
     clear r0 fr0 r1 fr1
     replace Ha:=kB Ha hbn
     replace Hc:=kB Hc hbn
     replace Hq:=kB Hq hbn
     replace Hr:=kB Hr hbn
     obtain ⟨a0,a1⟩:=Ha.out.c2
     obtain ⟨c0,c1⟩:=Hc.out.c2
     obtain ⟨q0,fq0,q1,fq1⟩:=Hq.out.g2
     obtain ⟨r0,fr0,r1,fr1⟩:=Hr.out.g2
     replace Hb:=bnx Hb hbn;clear hbn
     refine hK _ _ (fun _=>⟨r0,r1⟩) ?_;clear hK K
     try simp only [Act.put,U1,U2,U3]
     refine planF rfl rfl (fun K hK=>?_)
     go_simp
     refine hK _ _ (fun _=>⟨(cell_set_at (by first | (dsimp only;omega) | (simp<;>omega)) (cell_set_at (by first | (dsimp only;omega) | (simp<;>omega)) r0)),(cell_set_at (by first | (dsimp only;omega) | (simp<;>omega)) (cell_set_at (by first | (dsimp only;omega) | (simp<;>omega)) r1))⟩) ?_;clear hK K
     try simp only [Act.put,U1,U2,U3]
     clear a0 a1
     clear c0 c1
     clear q0 fq0 q1 fq1
     clear r0 fr0 r1 fr1
     refine plan_world (fun w6=>Blk w6 (w.heap.size) 34 [.bool false,.string (bs l)] /\ Blk w6 (w.heap.size + 1) 34 [.bool true,.string (bs m)] /\ Blk w6 (w.heap.size + 1 + 1) 34 [.bool (sgnB N),.string (bs (nt N.natAbs))] /\ Blk w6 (w.heap.size + 1 + 1 + 1) 34 [.bool false,.string (bs [])] /\ Below w.heap.size w w6) ⟨((Ha.out.so (w.heap.size + 1 + 1) 0 (by omega) _).so (w.heap.size + 1 + 1) 1 (by omega) _),((Hc.out.so (w.heap.size + 1 + 1) 0 (by omega) _).so (w.heap.size + 1 + 1) 1 (by omega) _),((Hq.out.set 0 _).set 1 _),((Hr.out.so (w.heap.size + 1 + 1) 0 (by omega) _).so (w.heap.size + 1 + 1) 1 (by omega) _),by first | exact ((Hb.out.sc (w.heap.size + 1 + 1) 0 (by have:=Hb.out.size;omega) _).sc (w.heap.size + 1 + 1) 1 (by have:=Hb.out.size;omega) _) | exact Below.drew ((Hb.out.sc (w.heap.size + 1 + 1) 0 (by have:=Hb.out.size;omega) _).sc (w.heap.size + 1 + 1) 1 (by have:=Hb.out.size;omega) _)⟩ ?_
     rintro w6 ⟨qa,qc,qq,qr,hbn⟩
     replace Ha:=lid qa;clear qa
     replace Hc:=lid qc;clear qc
     replace Hq:=lid qq;clear qq
     replace Hr:=lid qr;clear qr
     obtain ⟨a0,a1⟩:=Ha.out.c2
     obtain ⟨c0,c1⟩:=Hc.out.c2
     obtain ⟨q0,fq0,q1,fq1⟩:=Hq.out.g2
     obtain ⟨r0,fr0,r1,fr1⟩:=Hr.out.g2
     replace Hb:=lid hbn;clear hbn
     refine planF rfl rfl (fun K hK=>?_)
     go_simp
     refine hK _ _ (fun h=>absurd h (by decide)) ?_;clear hK K
     try simp only [Act.put,U1,U2,U3]
     clear a0 a1
     clear c0 c1
     clear q0 fq0 q1 fq1
     clear r0 fr0 r1 fr1
     refine plan_world (fun w7=>Blk w7 (w.heap.size) 34 [.bool false,.string (bs l)] /\ Blk w7 (w.heap.size + 1) 34 [.bool true,.string (bs m)] /\ Blk w7 (w.heap.size + 1 + 1) 34 [.bool (sgnB N),.string (bs (nt N.natAbs))] /\ Blk w7 (w.heap.size + 1 + 1 + 1) 34 [.bool false,.string (bs [])] /\ Below w.heap.size w w7) ⟨((Ha.out.so (w.heap.size + 1 + 1 + 1) 0 (by omega) _).so (w.heap.size + 1 + 1 + 1) 1 (by omega) _),((Hc.out.so (w.heap.size + 1 + 1 + 1) 0 (by omega) _).so (w.heap.size + 1 + 1 + 1) 1 (by omega) _),((Hq.out.so (w.heap.size + 1 + 1 + 1) 0 (by omega) _).so (w.heap.size + 1 + 1 + 1) 1 (by omega) _),((Hr.out.set 0 _).set 1 _),by first | exact ((Hb.out.sc (w.heap.size + 1 + 1 + 1) 0 (by have:=Hb.out.size;omega) _).sc (w.heap.size + 1 + 1 + 1) 1 (by have:=Hb.out.size;omega) _) | exact Below.drew ((Hb.out.sc (w.heap.size + 1 + 1 + 1) 0 (by have:=Hb.out.size;omega) _).sc (w.heap.size + 1 + 1 + 1) 1 (by have:=Hb.out.size;omega) _)⟩ ?_
     rintro w7 ⟨qa,qc,qq,qr,hbn⟩
     replace Ha:=lid qa;clear qa
     replace Hc:=lid qc;clear qc
     replace Hq:=lid qq;clear qq
     replace Hr:=lid qr;clear qr
     obtain ⟨a0,a1⟩:=Ha.out.c2
     obtain ⟨c0,c1⟩:=Hc.out.c2
     obtain ⟨q0,fq0,q1,fq1⟩:=Hq.out.g2
     obtain ⟨r0,fr0,r1,fr1⟩:=Hr.out.g2
     replace Hb:=lid hbn;clear hbn
     refine planF rfl rfl (fun K hK=>?_)
     go_simp
     refine hK _ _ (fun h=>absurd h (by decide)) ?_;clear hK K
     try simp only [Act.put,U1,U2,U3]
     simp only [wpPlan]
     go_wp2
     refine bodyPost_ret (v:=.tuple #[intV N,.agg #[.bool false,.string (bs [])],.bool true]) (by simp [results,Tryz.results126,go_sem,q0,q1,r0,r1]) rfl ⟨_,rfl,Hb.out⟩
 | true =>
   cases t with
   | false =>
     have hN:=HQ.out
     rw [if_neg (by decide)] at hN
     have HN:=lid hN;clear hN
     obtain ⟨W,hW_W⟩ : ∃ W,((((w.alloc (.cells #[.bool true,.string (bs l)] 34)).alloc (.cells #[.bool false,.string (bs m)] 34)).alloc (.cells #[.bool false,.string ⟨#[]⟩] 34)).alloc (.cells #[.bool false,.string ⟨#[]⟩] 34)) = W:=⟨_,rfl⟩
     have Hb : Hid (Below w.heap.size w W):=by rw [<- hW_W];exact (((((Below.refl _ _).alloc (Nat.le_refl _) _).alloc (by simp<;>omega) _).alloc (by simp<;>omega) _).alloc (by simp<;>omega) _)
     have Ha : Hid (Blk W (w.heap.size) 34 [.bool true,.string (bs l)]):=by rw [<- hW_W];exact (((Blk.newAt _ _ _ (by simp)).alloc _).alloc _).alloc _
     have Hc : Hid (Blk W (w.heap.size + 1) 34 [.bool false,.string (bs m)]):=by rw [<- hW_W];exact ((Blk.newAt _ _ _ (by simp)).alloc _).alloc _
     have Hq : Hid (Blk W (w.heap.size + 1 + 1) 34 [.bool false,.string ⟨#[]⟩]):=by rw [<- hW_W];exact (Blk.newAt _ _ _ (by simp)).alloc _
     have Hr : Hid (Blk W (w.heap.size + 1 + 1 + 1) 34 [.bool false,.string ⟨#[]⟩]):=by rw [<- hW_W];exact Blk.newAt _ _ _ (by simp)
     obtain ⟨a0,a1⟩:=Ha.out.c2
     obtain ⟨c0,c1⟩:=Hc.out.c2
     obtain ⟨q0,fq0,q1,fq1⟩:=Hq.out.g2
     obtain ⟨r0,fr0,r1,fr1⟩:=Hr.out.g2
     go_enter Tryz.func126,Tryz.ntmps126
     go_wp2_with fail
     refine (H1.out _).mono ?_
     rintro e w1 ⟨rfl,hbn⟩
     clear a0 a1
     clear c0 c1
     clear q0 fq0 q1 fq1
     clear r0 fr0 r1 fr1
     replace Ha:=kB Ha hbn
     replace Hc:=kB Hc hbn
     replace Hq:=kB Hq hbn
     replace Hr:=kB Hr hbn
     obtain ⟨a0,a1⟩:=Ha.out.c2
     obtain ⟨c0,c1⟩:=Hc.out.c2
     obtain ⟨q0,fq0,q1,fq1⟩:=Hq.out.g2
     obtain ⟨r0,fr0,r1,fr1⟩:=Hr.out.g2
     replace Hb:=bnx Hb hbn;clear hbn
     go_wp2_with fail
     clear a0 a1
     clear c0 c1
     clear q0 fq0 q1 fq1
     clear r0 fr0 r1 fr1
     obtain ⟨R,hR⟩ : ∃ R : World -> Prop,(fun w2=>Blk w2 (w.heap.size) 34 [.bool true,.string (bs l)] /\ Blk w2 (w.heap.size + 1) 34 [.bool false,.string (bs m)] /\ Blk w2 (w.heap.size + 1 + 1) 34 [.bool false,.string (bs Q)] /\ Blk w2 (w.heap.size + 1 + 1 + 1) 34 [.bool false,.string (bs [])] /\ Below w.heap.size w w2) = R:=⟨_,rfl⟩
     first | refine wp_world R ?hR ?_ | refine calls_world R ?hR ?_
     case hR=>subst hR;exact ⟨((((Ha.out.so (w.heap.size + 1 + 1) 0 (by omega) _).so (w.heap.size + 1 + 1) 1 (by omega) _).so (w.heap.size + 1 + 1 + 1) 0 (by omega) _).so (w.heap.size + 1 + 1 + 1) 1 (by omega) _),((((Hc.out.so (w.heap.size + 1 + 1) 0 (by omega) _).so (w.heap.size + 1 + 1) 1 (by omega) _).so (w.heap.size + 1 + 1 + 1) 0 (by omega) _).so (w.heap.size + 1 + 1 + 1) 1 (by omega) _),((((Hq.out.set 0 _).set 1 _).so (w.heap.size + 1 + 1 + 1) 0 (by omega) _).so (w.heap.size + 1 + 1 + 1) 1 (by omega) _),((((Hr.out.so (w.heap.size + 1 + 1) 0 (by omega) _).so (w.heap.size + 1 + 1) 1 (by omega) _).set 0 _).set 1 _),((((Hb.out.sc (w.heap.size + 1 + 1) 0 (by have:=Hb.out.size;omega) _).sc (w.heap.size + 1 + 1) 1 (by have:=Hb.out.size;omega) _).sc (w.heap.size + 1 + 1 + 1) 0 (by have:=Hb.out.size;omega) _).sc (w.heap.size + 1 + 1 + 1) 1 (by have:=Hb.out.size;omega) _)⟩
     subst hR
     rintro w2 ⟨qa,qc,qq,qr,hbn⟩
     replace Ha:=lid qa;clear qa
     replace Hc:=lid qc;clear qc
     replace Hq:=lid qq;clear qq
     replace Hr:=lid qr;clear qr
     obtain ⟨a0,a1⟩:=Ha.out.c2
     obtain ⟨c0,c1⟩:=Hc.out.c2
     obtain ⟨q0,fq0,q1,fq1⟩:=Hq.out.g2
     obtain ⟨r0,fr0,r1,fr1⟩:=Hr.out.g2
     replace Hb:=lid hbn;clear hbn
     have hG:=fun W=>wNeg_as false Q N HN.out.symm W (Nat.le_trans hlen (by decide))
     have hF:=fun W=>wForm_any (sgnB N) (nt N.natAbs) W (by rw [HN.out];exact Nat.le_trans (neg_len false Q 34359738368 hlen) (by decide))
     have e : iv (sgnB N) (nt N.natAbs) = N:=iv_int N
     rw [e] at hF
     have HG:=lid hG;have HF:=lid hF;clear hG hF e
     go_wp2_with fail
     refine (HG.out _).mono ?_
     rintro e w3 ⟨rfl,hbn⟩
     clear a0 a1
     clear c0 c1
     clear q0 fq0 q1 fq1
     clear r0 fr0 r1 fr1
     replace Ha:=kB Ha hbn
     replace Hc:=kB Hc hbn
     replace Hq:=kB Hq hbn
     replace Hr:=kB Hr hbn
     obtain ⟨a0,a1⟩:=Ha.out.c2
     obtain ⟨c0,c1⟩:=Hc.out.c2
     obtain ⟨q0,fq0,q1,fq1⟩:=Hq.out.g2
     obtain ⟨r0,fr0,r1,fr1⟩:=Hr.out.g2
     replace Hb:=bnx Hb hbn;clear hbn
     go_wp2_with fail
     clear a0 a1
     clear c0 c1
     clear q0 fq0 q1 fq1
     clear r0 fr0 r1 fr1
     obtain ⟨R,hR⟩ : ∃ R : World -> Prop,(fun w4=>Blk w4 (w.heap.size) 34 [.bool true,.string (bs l)] /\ Blk w4 (w.heap.size + 1) 34 [.bool false,.string (bs m)] /\ Blk w4 (w.heap.size + 1 + 1) 34 [.bool (sgnB N),.string (bs (nt N.natAbs))] /\ Blk w4 (w.heap.size + 1 + 1 + 1) 34 [.bool false,.string (bs [])] /\ Below w.heap.size w w4) = R:=⟨_,rfl⟩
     first | refine wp_world R ?hR ?_ | refine calls_world R ?hR ?_
     case hR=>subst hR;exact ⟨((Ha.out.so (w.heap.size + 1 + 1) 0 (by omega) _).so (w.heap.size + 1 + 1) 1 (by omega) _),((Hc.out.so (w.heap.size + 1 + 1) 0 (by omega) _).so (w.heap.size + 1 + 1) 1 (by omega) _),((Hq.out.set 0 _).set 1 _),((Hr.out.so (w.heap.size + 1 + 1) 0 (by omega) _).so (w.heap.size + 1 + 1) 1 (by omega) _),((Hb.out.sc (w.heap.size + 1 + 1) 0 (by have:=Hb.out.size;omega) _).sc (w.heap.size + 1 + 1) 1 (by have:=Hb.out.size;omega) _)⟩
     subst hR
     rintro w4 ⟨qa,qc,qq,qr,hbn⟩
     replace Ha:=lid qa;clear qa
     replace Hc:=lid qc;clear qc
     replace Hq:=lid qq;clear qq
     replace Hr:=lid qr;clear qr
     obtain ⟨a0,a1⟩:=Ha.out.c2
     obtain ⟨c0,c1⟩:=Hc.out.c2
     obtain ⟨q0,fq0,q1,fq1⟩:=Hq.out.g2
     obtain ⟨r0,fr0,r1,fr1⟩:=Hr.out.g2
     replace Hb:=lid hbn;clear hbn
     refine wp_region_plan (fun w'=>w'.cell? ⟨w.heap.size + 1 + 1 + 1,0,none⟩ = some (.bool false) /\ w'.cell? ⟨w.heap.size + 1 + 1 + 1,1,none⟩ = some (.string (bs []))) (fun i=>Nat.blt i 4) [(2,true),(0,false),(1,false),(3,false),(4,false),(5,false)] (by kernel_rfl) (by kernel_rfl) rfl (by kernel_rfl) (fun o c a v w=>by cases o.dst<;>exact id) ⟨r0,r1⟩ ?_
     refine planT rfl rfl (v:=?_) (fun w' hw'=>?_) ?_;rotate_left;(focus obtain ⟨q0,q1⟩:=hw';go_simp;try with_reducible rfl);try simp only [Act.put,U1,U2,U3]
     refine planF rfl rfl (fun K hK=>?_)
     go_simp
     refine hK _ _ (fun _=>⟨r0,r1⟩) ?_;clear hK K
     try simp only [Act.put,U1,U2,U3]
     refine planF rfl rfl (fun K hK=>?_)
     go_simp
     with_reducible refine (HF.out _).mono ?_
     rintro e w5 ⟨rfl,hq⟩
     have hbn : Below w4.heap.size w4 w5:=by first | exact hq | exact bundrew hq
     clear a0 a1
     clear c0 c1
     clear q0 fq0 q1 fq1
     clear r0 fr0 r1 fr1
     replace Ha:=kB Ha hbn
     replace Hc:=kB Hc hbn
     replace Hq:=kB Hq hbn
     replace Hr:=kB Hr hbn
     obtain ⟨a0,a1⟩:=Ha.out.c2
     obtain ⟨c0,c1⟩:=Hc.out.c2
     obtain ⟨q0,fq0,q1,fq1⟩:=Hq.out.g2
     obtain ⟨r0,fr0,r1,fr1⟩:=Hr.out.g2
     replace Hb:=bnx Hb hbn;clear hbn
     refine hK _ _ (fun _=>⟨r0,r1⟩) ?_;clear hK K
     try simp only [Act.put,U1,U2,U3]
     refine planF rfl rfl (fun K hK=>?_)
     go_simp
     refine hK _ _ (fun _=>⟨(cell_set_at (by first | (dsimp only;omega) | (simp<;>omega)) (cell_set_at (by first | (dsimp only;omega) | (simp<;>omega)) r0)),(cell_set_at (by first | (dsimp only;omega) | (simp<;>omega)) (cell_set_at (by first | (dsimp only;omega) | (simp<;>omega)) r1))⟩) ?_;clear hK K
     try simp only [Act.put,U1,U2,U3]
     clear a0 a1
     clear c0 c1
     clear q0 fq0 q1 fq1
     clear r0 fr0 r1 fr1
     refine plan_world (fun w6=>Blk w6 (w.heap.size) 34 [.bool true,.string (bs l)] /\ Blk w6 (w.heap.size + 1) 34 [.bool false,.string (bs m)] /\ Blk w6 (w.heap.size + 1 + 1) 34 [.bool (sgnB N),.string (bs (nt N.natAbs))] /\ Blk w6 (w.heap.size + 1 + 1 + 1) 34 [.bool false,.string (bs [])] /\ Below w.heap.size w w6) ⟨((Ha.out.so (w.heap.size + 1 + 1) 0 (by omega) _).so (w.heap.size + 1 + 1) 1 (by omega) _),((Hc.out.so (w.heap.size + 1 + 1) 0 (by omega) _).so (w.heap.size + 1 + 1) 1 (by omega) _),((Hq.out.set 0 _).set 1 _),((Hr.out.so (w.heap.size + 1 + 1) 0 (by omega) _).so (w.heap.size + 1 + 1) 1 (by omega) _),by first | exact ((Hb.out.sc (w.heap.size + 1 + 1) 0 (by have:=Hb.out.size;omega) _).sc (w.heap.size + 1 + 1) 1 (by have:=Hb.out.size;omega) _) | exact Below.drew ((Hb.out.sc (w.heap.size + 1 + 1) 0 (by have:=Hb.out.size;omega) _).sc (w.heap.size + 1 + 1) 1 (by have:=Hb.out.size;omega) _)⟩ ?_
     rintro w6 ⟨qa,qc,qq,qr,hbn⟩
     replace Ha:=lid qa;clear qa
     replace Hc:=lid qc;clear qc
     replace Hq:=lid qq;clear qq
     replace Hr:=lid qr;clear qr
     obtain ⟨a0,a1⟩:=Ha.out.c2
     obtain ⟨c0,c1⟩:=Hc.out.c2
     obtain ⟨q0,fq0,q1,fq1⟩:=Hq.out.g2
     obtain ⟨r0,fr0,r1,fr1⟩:=Hr.out.g2
     replace Hb:=lid hbn;clear hbn
     refine planF rfl rfl (fun K hK=>?_)
     go_simp
     refine hK _ _ (fun h=>absurd h (by decide)) ?_;clear hK K
     try simp only [Act.put,U1,U2,U3]
     clear a0 a1
     clear c0 c1
     clear q0 fq0 q1 fq1
     clear r0 fr0 r1 fr1
     refine plan_world (fun w7=>Blk w7 (w.heap.size) 34 [.bool true,.string (bs l)] /\ Blk w7 (w.heap.size + 1) 34 [.bool false,.string (bs m)] /\ Blk w7 (w.heap.size + 1 + 1) 34 [.bool (sgnB N),.string (bs (nt N.natAbs))] /\ Blk w7 (w.heap.size + 1 + 1 + 1) 34 [.bool false,.string (bs [])] /\ Below w.heap.size w w7) ⟨((Ha.out.so (w.heap.size + 1 + 1 + 1) 0 (by omega) _).so (w.heap.size + 1 + 1 + 1) 1 (by omega) _),((Hc.out.so (w.heap.size + 1 + 1 + 1) 0 (by omega) _).so (w.heap.size + 1 + 1 + 1) 1 (by omega) _),((Hq.out.so (w.heap.size + 1 + 1 + 1) 0 (by omega) _).so (w.heap.size + 1 + 1 + 1) 1 (by omega) _),((Hr.out.set 0 _).set 1 _),by first | exact ((Hb.out.sc (w.heap.size + 1 + 1 + 1) 0 (by have:=Hb.out.size;omega) _).sc (w.heap.size + 1 + 1 + 1) 1 (by have:=Hb.out.size;omega) _) | exact Below.drew ((Hb.out.sc (w.heap.size + 1 + 1 + 1) 0 (by have:=Hb.out.size;omega) _).sc (w.heap.size + 1 + 1 + 1) 1 (by have:=Hb.out.size;omega) _)⟩ ?_
     rintro w7 ⟨qa,qc,qq,qr,hbn⟩
     replace Ha:=lid qa;clear qa
     replace Hc:=lid qc;clear qc
     replace Hq:=lid qq;clear qq
     replace Hr:=lid qr;clear qr
     obtain ⟨a0,a1⟩:=Ha.out.c2
     obtain ⟨c0,c1⟩:=Hc.out.c2
     obtain ⟨q0,fq0,q1,fq1⟩:=Hq.out.g2
     obtain ⟨r0,fr0,r1,fr1⟩:=Hr.out.g2
     replace Hb:=lid hbn;clear hbn
     refine planF rfl rfl (fun K hK=>?_)
     go_simp
     refine hK _ _ (fun h=>absurd h (by decide)) ?_;clear hK K
     try simp only [Act.put,U1,U2,U3]
     simp only [wpPlan]
     go_wp2
     refine bodyPost_ret (v:=.tuple #[intV N,.agg #[.bool false,.string (bs [])],.bool true]) (by simp [results,Tryz.results126,go_sem,q0,q1,r0,r1]) rfl ⟨_,rfl,Hb.out⟩
   | true =>
     have hN:=HQ.out
     rw [if_pos rfl] at hN
     have HN:=lid hN;clear hN
     obtain ⟨W,hW_W⟩ : ∃ W,((((w.alloc (.cells #[.bool true,.string (bs l)] 34)).alloc (.cells #[.bool true,.string (bs m)] 34)).alloc (.cells #[.bool false,.string ⟨#[]⟩] 34)).alloc (.cells #[.bool false,.string ⟨#[]⟩] 34)) = W:=⟨_,rfl⟩
     have Hb : Hid (Below w.heap.size w W):=by rw [<- hW_W];exact (((((Below.refl _ _).alloc (Nat.le_refl _) _).alloc (by simp<;>omega) _).alloc (by simp<;>omega) _).alloc (by simp<;>omega) _)
     have Ha : Hid (Blk W (w.heap.size) 34 [.bool true,.string (bs l)]):=by rw [<- hW_W];exact (((Blk.newAt _ _ _ (by simp)).alloc _).alloc _).alloc _
     have Hc : Hid (Blk W (w.heap.size + 1) 34 [.bool true,.string (bs m)]):=by rw [<- hW_W];exact ((Blk.newAt _ _ _ (by simp)).alloc _).alloc _
     have Hq : Hid (Blk W (w.heap.size + 1 + 1) 34 [.bool false,.string ⟨#[]⟩]):=by rw [<- hW_W];exact (Blk.newAt _ _ _ (by simp)).alloc _
     have Hr : Hid (Blk W (w.heap.size + 1 + 1 + 1) 34 [.bool false,.string ⟨#[]⟩]):=by rw [<- hW_W];exact Blk.newAt _ _ _ (by simp)
     obtain ⟨a0,a1⟩:=Ha.out.c2
     obtain ⟨c0,c1⟩:=Hc.out.c2
     obtain ⟨q0,fq0,q1,fq1⟩:=Hq.out.g2
     obtain ⟨r0,fr0,r1,fr1⟩:=Hr.out.g2
     go_enter Tryz.func126,Tryz.ntmps126
     go_wp2_with fail
     refine (H1.out _).mono ?_
     rintro e w1 ⟨rfl,hbn⟩
     clear a0 a1
     clear c0 c1
     clear q0 fq0 q1 fq1
     clear r0 fr0 r1 fr1
     replace Ha:=kB Ha hbn
     replace Hc:=kB Hc hbn
     replace Hq:=kB Hq hbn
     replace Hr:=kB Hr hbn
     obtain ⟨a0,a1⟩:=Ha.out.c2
     obtain ⟨c0,c1⟩:=Hc.out.c2
     obtain ⟨q0,fq0,q1,fq1⟩:=Hq.out.g2
     obtain ⟨r0,fr0,r1,fr1⟩:=Hr.out.g2
     replace Hb:=bnx Hb hbn;clear hbn
     go_wp2_with fail
     clear a0 a1
     clear c0 c1
     clear q0 fq0 q1 fq1
     clear r0 fr0 r1 fr1
     obtain ⟨R,hR⟩ : ∃ R : World -> Prop,(fun w2=>Blk w2 (w.heap.size) 34 [.bool true,.string (bs l)] /\ Blk w2 (w.heap.size + 1) 34 [.bool true,.string (bs m)] /\ Blk w2 (w.heap.size + 1 + 1) 34 [.bool false,.string (bs Q)] /\ Blk w2 (w.heap.size + 1 + 1 + 1) 34 [.bool false,.string (bs [])] /\ Below w.heap.size w w2) = R:=⟨_,rfl⟩
     first | refine wp_world R ?hR ?_ | refine calls_world R ?hR ?_
     case hR=>subst hR;exact ⟨((((Ha.out.so (w.heap.size + 1 + 1) 0 (by omega) _).so (w.heap.size + 1 + 1) 1 (by omega) _).so (w.heap.size + 1 + 1 + 1) 0 (by omega) _).so (w.heap.size + 1 + 1 + 1) 1 (by omega) _),((((Hc.out.so (w.heap.size + 1 + 1) 0 (by omega) _).so (w.heap.size + 1 + 1) 1 (by omega) _).so (w.heap.size + 1 + 1 + 1) 0 (by omega) _).so (w.heap.size + 1 + 1 + 1) 1 (by omega) _),((((Hq.out.set 0 _).set 1 _).so (w.heap.size + 1 + 1 + 1) 0 (by omega) _).so (w.heap.size + 1 + 1 + 1) 1 (by omega) _),((((Hr.out.so (w.heap.size + 1 + 1) 0 (by omega) _).so (w.heap.size + 1 + 1) 1 (by omega) _).set 0 _).set 1 _),((((Hb.out.sc (w.heap.size + 1 + 1) 0 (by have:=Hb.out.size;omega) _).sc (w.heap.size + 1 + 1) 1 (by have:=Hb.out.size;omega) _).sc (w.heap.size + 1 + 1 + 1) 0 (by have:=Hb.out.size;omega) _).sc (w.heap.size + 1 + 1 + 1) 1 (by have:=Hb.out.size;omega) _)⟩
     subst hR
     rintro w2 ⟨qa,qc,qq,qr,hbn⟩
     replace Ha:=lid qa;clear qa
     replace Hc:=lid qc;clear qc
     replace Hq:=lid qq;clear qq
     replace Hr:=lid qr;clear qr
     obtain ⟨a0,a1⟩:=Ha.out.c2
     obtain ⟨c0,c1⟩:=Hc.out.c2
     obtain ⟨q0,fq0,q1,fq1⟩:=Hq.out.g2
     obtain ⟨r0,fr0,r1,fr1⟩:=Hr.out.g2
     replace Hb:=lid hbn;clear hbn
     have hF:=fun W=>wForm_any false Q W (Nat.le_trans hlen (by decide))
     rw [<- HN.out] at hF
     have HF:=lid hF;clear hF
     refine wp_region_plan (fun w'=>w'.cell? ⟨w.heap.size + 1 + 1 + 1,0,none⟩ = some (.bool false) /\ w'.cell? ⟨w.heap.size + 1 + 1 + 1,1,none⟩ = some (.string (bs []))) (fun i=>Nat.blt i 4) [(2,true),(0,false),(1,false),(3,false),(4,false),(5,false)] (by kernel_rfl) (by kernel_rfl) rfl (by kernel_rfl) (fun o c a v w=>by cases o.dst<;>exact id) ⟨r0,r1⟩ ?_
     refine planT rfl rfl (v:=?_) (fun w' hw'=>?_) ?_;rotate_left;(focus obtain ⟨q0,q1⟩:=hw';go_simp;try with_reducible rfl);try simp only [Act.put,U1,U2,U3]
     refine planF rfl rfl (fun K hK=>?_)
     go_simp
     refine hK _ _ (fun _=>⟨r0,r1⟩) ?_;clear hK K
     try simp only [Act.put,U1,U2,U3]
     refine planF rfl rfl (fun K hK=>?_)
     go_simp
     with_reducible refine (HF.out _).mono ?_
     rintro e w5 ⟨rfl,hq⟩
     have hbn : Below w2.heap.size w2 w5:=by first | exact hq | exact bundrew hq
     clear a0 a1
     clear c0 c1
     clear q0 fq0 q1 fq1
     clear r0 fr0 r1 fr1
     replace Ha:=kB Ha hbn
     replace Hc:=kB Hc hbn
     replace Hq:=kB Hq hbn
     replace Hr:=kB Hr hbn
     obtain ⟨a0,a1⟩:=Ha.out.c2
     obtain ⟨c0,c1⟩:=Hc.out.c2
     obtain ⟨q0,fq0,q1,fq1⟩:=Hq.out.g2
     obtain ⟨r0,fr0,r1,fr1⟩:=Hr.out.g2
     replace Hb:=bnx Hb hbn;clear hbn
     refine hK _ _ (fun _=>⟨r0,r1⟩) ?_;clear hK K
     try simp only [Act.put,U1,U2,U3]
     refine planF rfl rfl (fun K hK=>?_)
     go_simp
     refine hK _ _ (fun _=>⟨(cell_set_at (by first | (dsimp only;omega) | (simp<;>omega)) (cell_set_at (by first | (dsimp only;omega) | (simp<;>omega)) r0)),(cell_set_at (by first | (dsimp only;omega) | (simp<;>omega)) (cell_set_at (by first | (dsimp only;omega) | (simp<;>omega)) r1))⟩) ?_;clear hK K
     try simp only [Act.put,U1,U2,U3]
     clear a0 a1
     clear c0 c1
     clear q0 fq0 q1 fq1
     clear r0 fr0 r1 fr1
     refine plan_world (fun w6=>Blk w6 (w.heap.size) 34 [.bool true,.string (bs l)] /\ Blk w6 (w.heap.size + 1) 34 [.bool true,.string (bs m)] /\ Blk w6 (w.heap.size + 1 + 1) 34 [.bool (sgnB N),.string (bs (nt N.natAbs))] /\ Blk w6 (w.heap.size + 1 + 1 + 1) 34 [.bool false,.string (bs [])] /\ Below w.heap.size w w6) ⟨((Ha.out.so (w.heap.size + 1 + 1) 0 (by omega) _).so (w.heap.size + 1 + 1) 1 (by omega) _),((Hc.out.so (w.heap.size + 1 + 1) 0 (by omega) _).so (w.heap.size + 1 + 1) 1 (by omega) _),((Hq.out.set 0 _).set 1 _),((Hr.out.so (w.heap.size + 1 + 1) 0 (by omega) _).so (w.heap.size + 1 + 1) 1 (by omega) _),by first | exact ((Hb.out.sc (w.heap.size + 1 + 1) 0 (by have:=Hb.out.size;omega) _).sc (w.heap.size + 1 + 1) 1 (by have:=Hb.out.size;omega) _) | exact Below.drew ((Hb.out.sc (w.heap.size + 1 + 1) 0 (by have:=Hb.out.size;omega) _).sc (w.heap.size + 1 + 1) 1 (by have:=Hb.out.size;omega) _)⟩ ?_
     rintro w6 ⟨qa,qc,qq,qr,hbn⟩
     replace Ha:=lid qa;clear qa
     replace Hc:=lid qc;clear qc
     replace Hq:=lid qq;clear qq
     replace Hr:=lid qr;clear qr
     obtain ⟨a0,a1⟩:=Ha.out.c2
     obtain ⟨c0,c1⟩:=Hc.out.c2
     obtain ⟨q0,fq0,q1,fq1⟩:=Hq.out.g2
     obtain ⟨r0,fr0,r1,fr1⟩:=Hr.out.g2
     replace Hb:=lid hbn;clear hbn
     refine planF rfl rfl (fun K hK=>?_)
     go_simp
     refine hK _ _ (fun h=>absurd h (by decide)) ?_;clear hK K
     try simp only [Act.put,U1,U2,U3]
     clear a0 a1
     clear c0 c1
     clear q0 fq0 q1 fq1
     clear r0 fr0 r1 fr1
     refine plan_world (fun w7=>Blk w7 (w.heap.size) 34 [.bool true,.string (bs l)] /\ Blk w7 (w.heap.size + 1) 34 [.bool true,.string (bs m)] /\ Blk w7 (w.heap.size + 1 + 1) 34 [.bool (sgnB N),.string (bs (nt N.natAbs))] /\ Blk w7 (w.heap.size + 1 + 1 + 1) 34 [.bool false,.string (bs [])] /\ Below w.heap.size w w7) ⟨((Ha.out.so (w.heap.size + 1 + 1 + 1) 0 (by omega) _).so (w.heap.size + 1 + 1 + 1) 1 (by omega) _),((Hc.out.so (w.heap.size + 1 + 1 + 1) 0 (by omega) _).so (w.heap.size + 1 + 1 + 1) 1 (by omega) _),((Hq.out.so (w.heap.size + 1 + 1 + 1) 0 (by omega) _).so (w.heap.size + 1 + 1 + 1) 1 (by omega) _),((Hr.out.set 0 _).set 1 _),by first | exact ((Hb.out.sc (w.heap.size + 1 + 1 + 1) 0 (by have:=Hb.out.size;omega) _).sc (w.heap.size + 1 + 1 + 1) 1 (by have:=Hb.out.size;omega) _) | exact Below.drew ((Hb.out.sc (w.heap.size + 1 + 1 + 1) 0 (by have:=Hb.out.size;omega) _).sc (w.heap.size + 1 + 1 + 1) 1 (by have:=Hb.out.size;omega) _)⟩ ?_
     rintro w7 ⟨qa,qc,qq,qr,hbn⟩
     replace Ha:=lid qa;clear qa
     replace Hc:=lid qc;clear qc
     replace Hq:=lid qq;clear qq
     replace Hr:=lid qr;clear qr
     obtain ⟨a0,a1⟩:=Ha.out.c2
     obtain ⟨c0,c1⟩:=Hc.out.c2
     obtain ⟨q0,fq0,q1,fq1⟩:=Hq.out.g2
     obtain ⟨r0,fr0,r1,fr1⟩:=Hr.out.g2
     replace Hb:=lid hbn;clear hbn
     refine planF rfl rfl (fun K hK=>?_)
     go_simp
     refine hK _ _ (fun h=>absurd h (by decide)) ?_;clear hK K
     try simp only [Act.put,U1,U2,U3]
     simp only [wpPlan]
     go_wp2
     refine bodyPost_ret (v:=.tuple #[intV N,.agg #[.bool false,.string (bs [])],.bool true]) (by simp [results,Tryz.results126,go_sem,q0,q1,r0,r1]) rfl ⟨_,rfl,Hb.out⟩
end Go.Proofs.YtidjljldhdckiaaGreatDoor
