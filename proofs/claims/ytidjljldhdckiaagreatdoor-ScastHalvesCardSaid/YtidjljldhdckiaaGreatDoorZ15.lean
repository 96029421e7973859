/- Package scast: Split. -/
import Derived.Test.YtidjljldhdckiaaGreatDoorZ11
import Derived.Test.YtidjljldhdckiaaGreatDoorZ14
import Derived.Test.YtidjljldhdckiaaGreatDoorZ12
import Derived.Test.YtidjljldhdckiaaGreatDoorZ1
set_option maxRecDepth 100000
set_option maxHeartbeats 16000000
namespace Go.Proofs.YtidjljldhdckiaaGreatDoor
open Go.RowKit
attribute [local go_sem ↓] Go.wp_at_zero Go.wp_at_succ
abbrev sf0 : Value:=.agg #[.int .i64 0,.int .i64 0,.slice none 0 0]
theorem split_arg (v d : Int) (a : Option Addr) (n cap : Nat) (i j : Int) (w : World) (hc : chk v d n = 0) (h0 : ¬ (0 <= i /\ i <= v /\ 0 <= j /\ j <= v /\ i ≠ j)) :
 Calls Tryz.prog 7 #[.agg #[.int .i64 v,.int .i64 d,.slice a n cap],.int .i64 i,.int .i64 j] w fun e w'=>e = .returned (.tuple #[sf0,sf0,.int .i64 1]) /\ Below w.heap.size w w':=by
 have Hc:=lid hc;clear hc
 have h1:=has_any v d a n cap i
 have h2:=has_any v d a n cap j
 by_cases e1 : 0 <= i /\ i <= v
 . rw [decide_eq_true e1] at h1
   by_cases e2 : 0 <= j /\ j <= v
   . rw [decide_eq_true e2] at h2
     have h3 : i = j:=by omega
     have h4 : (i == j) = true:=by simp [h3]
     have H1:=lid h1;have H2:=lid h2
     clear h1 h2 h3 e1 e2 h0
     obtain ⟨W,hW_W⟩ : ∃ W,(((w.alloc (.cells #[.int .i64 v,.int .i64 d,.slice a n cap] 24)).alloc (.cells #[.int .i64 0,.int .i64 0,.slice none 0 0] 24)).alloc (.cells #[.int .i64 0,.int .i64 0,.slice none 0 0] 24)) = W:=⟨_,rfl⟩
     have Hb : Hid (Below w.heap.size w W):=by rw [<- hW_W];exact ((((Below.refl _ _).alloc (Nat.le_refl _) _).alloc (by simp<;>omega) _).alloc (by simp<;>omega) _)
     have Hf : Hid (Blk W (w.heap.size) 24 [.int .i64 v,.int .i64 d,.slice a n cap]):=by rw [<- hW_W];exact ((Blk.newAt _ _ _ (by simp)).alloc _).alloc _
     have Hx : Hid (Blk W (w.heap.size + 1) 24 [.int .i64 0,.int .i64 0,.slice none 0 0]):=by rw [<- hW_W];exact (Blk.newAt _ _ _ (by simp)).alloc _
     have Hy : Hid (Blk W (w.heap.size + 1 + 1) 24 [.int .i64 0,.int .i64 0,.slice none 0 0]):=by rw [<- hW_W];exact Blk.newAt _ _ _ (by simp)
     obtain ⟨f0,f1,f2⟩:=Hf.out.c3
     obtain ⟨x0,fx0,x1,fx1,x2,fx2⟩:=Hx.out.g3
     obtain ⟨y0,fy0,y1,fy1,y2,fy2⟩:=Hy.out.g3
     go_enter Tryz.func7,Tryz.ntmps7
     go_wp2_with fail
     refine (check_any v d a n cap 0 Hc.out _).mono ?_
     rintro e w1 ⟨rfl,hbn⟩
     clear f0 f1 f2
     clear x0 fx0 x1 fx1 x2 fx2
     clear y0 fy0 y1 fy1 y2 fy2
     replace Hf:=kB Hf hbn
     replace Hx:=kB Hx hbn
     replace Hy:=kB Hy hbn
     obtain ⟨f0,f1,f2⟩:=Hf.out.c3
     obtain ⟨x0,fx0,x1,fx1,x2,fx2⟩:=Hx.out.g3
     obtain ⟨y0,fy0,y1,fy1,y2,fy2⟩:=Hy.out.g3
     replace Hb:=bnx Hb hbn;clear hbn
     go_wp2_with fail
     refine (H1.out _).mono ?_
     rintro e w2 ⟨rfl,hbn⟩
     clear f0 f1 f2
     clear x0 fx0 x1 fx1 x2 fx2
     clear y0 fy0 y1 fy1 y2 fy2
     replace Hf:=kB Hf hbn
     replace Hx:=kB Hx hbn
     replace Hy:=kB Hy hbn
     obtain ⟨f0,f1,f2⟩:=Hf.out.c3
     obtain ⟨x0,fx0,x1,fx1,x2,fx2⟩:=Hx.out.g3
     obtain ⟨y0,fy0,y1,fy1,y2,fy2⟩:=Hy.out.g3
     replace Hb:=bnx Hb hbn;clear hbn
     go_wp2_with fail
     refine (H2.out _).mono ?_
     rintro e w3 ⟨rfl,hbn⟩
     clear f0 f1 f2
     clear x0 fx0 x1 fx1 x2 fx2
     clear y0 fy0 y1 fy1 y2 fy2
     replace Hf:=kB Hf hbn
     replace Hx:=kB Hx hbn
     replace Hy:=kB Hy hbn
     obtain ⟨f0,f1,f2⟩:=Hf.out.c3
     obtain ⟨x0,fx0,x1,fx1,x2,fx2⟩:=Hx.out.g3
     obtain ⟨y0,fy0,y1,fy1,y2,fy2⟩:=Hy.out.g3
     replace Hb:=bnx Hb hbn;clear hbn
     go_wp2
     clear f0 f1 f2
     clear x0 fx0 x1 fx1 x2 fx2
     clear y0 fy0 y1 fy1 y2 fy2
     refine body_world (fun w9=>Blk w9 (w.heap.size) 24 [.int .i64 v,.int .i64 d,.slice a n cap] /\ Blk w9 (w.heap.size + 1) 24 [.int .i64 0,.int .i64 0,.slice none 0 0] /\ Blk w9 (w.heap.size + 1 + 1) 24 [.int .i64 0,.int .i64 0,.slice none 0 0] /\ Below w.heap.size w w9) ⟨((((((Hf.out.so (w.heap.size + 1) 0 (by omega) _).so (w.heap.size + 1) 1 (by omega) _).so (w.heap.size + 1) 2 (by omega) _).so (w.heap.size + 1 + 1) 0 (by omega) _).so (w.heap.size + 1 + 1) 1 (by omega) _).so (w.heap.size + 1 + 1) 2 (by omega) _),((((((Hx.out.set 0 _).set 1 _).set 2 _).so (w.heap.size + 1 + 1) 0 (by omega) _).so (w.heap.size + 1 + 1) 1 (by omega) _).so (w.heap.size + 1 + 1) 2 (by omega) _),((((((Hy.out.so (w.heap.size + 1) 0 (by omega) _).so (w.heap.size + 1) 1 (by omega) _).so (w.heap.size + 1) 2 (by omega) _).set 0 _).set 1 _).set 2 _),((((((Hb.out.sc (w.heap.size + 1) 0 (by have:=Hb.out.size;omega) _).sc (w.heap.size + 1) 1 (by have:=Hb.out.size;omega) _).sc (w.heap.size + 1) 2 (by have:=Hb.out.size;omega) _).sc (w.heap.size + 1 + 1) 0 (by have:=Hb.out.size;omega) _).sc (w.heap.size + 1 + 1) 1 (by have:=Hb.out.size;omega) _).sc (w.heap.size + 1 + 1) 2 (by have:=Hb.out.size;omega) _)⟩ ?_
     rintro w9 ⟨qf,qx,qy,hbn⟩
     replace Hf:=lid qf;clear qf
     replace Hx:=lid qx;clear qx
     replace Hy:=lid qy;clear qy
     obtain ⟨f0,f1,f2⟩:=Hf.out.c3
     obtain ⟨x0,fx0,x1,fx1,x2,fx2⟩:=Hx.out.g3
     obtain ⟨y0,fy0,y1,fy1,y2,fy2⟩:=Hy.out.g3
     replace Hb:=lid hbn;clear hbn
     refine bodyPost_ret (v:=.tuple #[sf0,sf0,.int .i64 1]) (by simp [results,Tryz.results7,go_sem,x0,x1,x2,y0,y1,y2]) rfl ⟨rfl,Hb.out⟩
   . rw [decide_eq_false e2] at h2
     have H1:=lid h1;have H2:=lid h2
     clear h1 h2 e1 e2 h0
     obtain ⟨W,hW_W⟩ : ∃ W,(((w.alloc (.cells #[.int .i64 v,.int .i64 d,.slice a n cap] 24)).alloc (.cells #[.int .i64 0,.int .i64 0,.slice none 0 0] 24)).alloc (.cells #[.int .i64 0,.int .i64 0,.slice none 0 0] 24)) = W:=⟨_,rfl⟩
     have Hb : Hid (Below w.heap.size w W):=by rw [<- hW_W];exact ((((Below.refl _ _).alloc (Nat.le_refl _) _).alloc (by simp<;>omega) _).alloc (by simp<;>omega) _)
     have Hf : Hid (Blk W (w.heap.size) 24 [.int .i64 v,.int .i64 d,.slice a n cap]):=by rw [<- hW_W];exact ((Blk.newAt _ _ _ (by simp)).alloc _).alloc _
     have Hx : Hid (Blk W (w.heap.size + 1) 24 [.int .i64 0,.int .i64 0,.slice none 0 0]):=by rw [<- hW_W];exact (Blk.newAt _ _ _ (by simp)).alloc _
     have Hy : Hid (Blk W (w.heap.size + 1 + 1) 24 [.int .i64 0,.int .i64 0,.slice none 0 0]):=by rw [<- hW_W];exact Blk.newAt _ _ _ (by simp)
     obtain ⟨f0,f1,f2⟩:=Hf.out.c3
     obtain ⟨x0,fx0,x1,fx1,x2,fx2⟩:=Hx.out.g3
     obtain ⟨y0,fy0,y1,fy1,y2,fy2⟩:=Hy.out.g3
     go_enter Tryz.func7,Tryz.ntmps7
     go_wp2_with fail
     refine (check_any v d a n cap 0 Hc.out _).mono ?_
     rintro e w1 ⟨rfl,hbn⟩
     clear f0 f1 f2
     clear x0 fx0 x1 fx1 x2 fx2
     clear y0 fy0 y1 fy1 y2 fy2
     replace Hf:=kB Hf hbn
     replace Hx:=kB Hx hbn
     replace Hy:=kB Hy hbn
     obtain ⟨f0,f1,f2⟩:=Hf.out.c3
     obtain ⟨x0,fx0,x1,fx1,x2,fx2⟩:=Hx.out.g3
     obtain ⟨y0,fy0,y1,fy1,y2,fy2⟩:=Hy.out.g3
     replace Hb:=bnx Hb hbn;clear hbn
     go_wp2_with fail
     refine (H1.out _).mono ?_
     rintro e w2 ⟨rfl,hbn⟩
     clear f0 f1 f2
     clear x0 fx0 x1 fx1 x2 fx2
     clear y0 fy0 y1 fy1 y2 fy2
     replace Hf:=kB Hf hbn
     replace Hx:=kB Hx hbn
     replace Hy:=kB Hy hbn
     obtain ⟨f0,f1,f2⟩:=Hf.out.c3
     obtain ⟨x0,fx0,x1,fx1,x2,fx2⟩:=Hx.out.g3
     obtain ⟨y0,fy0,y1,fy1,y2,fy2⟩:=Hy.out.g3
     replace Hb:=bnx Hb hbn;clear hbn
     go_wp2_with fail
     refine (H2.out _).mono ?_
     rintro e w3 ⟨rfl,hbn⟩
     clear f0 f1 f2
     clear x0 fx0 x1 fx1 x2 fx2
     clear y0 fy0 y1 fy1 y2 fy2
     replace Hf:=kB Hf hbn
     replace Hx:=kB Hx hbn
     replace Hy:=kB Hy hbn
     obtain ⟨f0,f1,f2⟩:=Hf.out.c3
     obtain ⟨x0,fx0,x1,fx1,x2,fx2⟩:=Hx.out.g3
     obtain ⟨y0,fy0,y1,fy1,y2,fy2⟩:=Hy.out.g3
     replace Hb:=bnx Hb hbn;clear hbn
     go_wp2
     clear f0 f1 f2
     clear x0 fx0 x1 fx1 x2 fx2
     clear y0 fy0 y1 fy1 y2 fy2
     refine body_world (fun w9=>Blk w9 (w.heap.size) 24 [.int .i64 v,.int .i64 d,.slice a n cap] /\ Blk w9 (w.heap.size + 1) 24 [.int .i64 0,.int .i64 0,.slice none 0 0] /\ Blk w9 (w.heap.size + 1 + 1) 24 [.int .i64 0,.int .i64 0,.slice none 0 0] /\ Below w.heap.size w w9) ⟨((((((Hf.out.so (w.heap.size + 1) 0 (by omega) _).so (w.heap.size + 1) 1 (by omega) _).so (w.heap.size + 1) 2 (by omega) _).so (w.heap.size + 1 + 1) 0 (by omega) _).so (w.heap.size + 1 + 1) 1 (by omega) _).so (w.heap.size + 1 + 1) 2 (by omega) _),((((((Hx.out.set 0 _).set 1 _).set 2 _).so (w.heap.size + 1 + 1) 0 (by omega) _).so (w.heap.size + 1 + 1) 1 (by omega) _).so (w.heap.size + 1 + 1) 2 (by omega) _),((((((Hy.out.so (w.heap.size + 1) 0 (by omega) _).so (w.heap.size + 1) 1 (by omega) _).so (w.heap.size + 1) 2 (by omega) _).set 0 _).set 1 _).set 2 _),((((((Hb.out.sc (w.heap.size + 1) 0 (by have:=Hb.out.size;omega) _).sc (w.heap.size + 1) 1 (by have:=Hb.out.size;omega) _).sc (w.heap.size + 1) 2 (by have:=Hb.out.size;omega) _).sc (w.heap.size + 1 + 1) 0 (by have:=Hb.out.size;omega) _).sc (w.heap.size + 1 + 1) 1 (by have:=Hb.out.size;omega) _).sc (w.heap.size + 1 + 1) 2 (by have:=Hb.out.size;omega) _)⟩ ?_
     rintro w9 ⟨qf,qx,qy,hbn⟩
     replace Hf:=lid qf;clear qf
     replace Hx:=lid qx;clear qx
     replace Hy:=lid qy;clear qy
     obtain ⟨f0,f1,f2⟩:=Hf.out.c3
     obtain ⟨x0,fx0,x1,fx1,x2,fx2⟩:=Hx.out.g3
     obtain ⟨y0,fy0,y1,fy1,y2,fy2⟩:=Hy.out.g3
     replace Hb:=lid hbn;clear hbn
     refine bodyPost_ret (v:=.tuple #[sf0,sf0,.int .i64 1]) (by simp [results,Tryz.results7,go_sem,x0,x1,x2,y0,y1,y2]) rfl ⟨rfl,Hb.out⟩
 . rw [decide_eq_false e1] at h1
   have H1:=lid h1
   clear h1 h2 e1 h0
   obtain ⟨W,hW_W⟩ : ∃ W,(((w.alloc (.cells #[.int .i64 v,.int .i64 d,.slice a n cap] 24)).alloc (.cells #[.int .i64 0,.int .i64 0,.slice none 0 0] 24)).alloc (.cells #[.int .i64 0,.int .i64 0,.slice none 0 0] 24)) = W:=⟨_,rfl⟩
   have Hb : Hid (Below w.heap.size w W):=by rw [<- hW_W];exact ((((Below.refl _ _).alloc (Nat.le_refl _) _).alloc (by simp<;>omega) _).alloc (by simp<;>omega) _)
   have Hf : Hid (Blk W (w.heap.size) 24 [.int .i64 v,.int .i64 d,.slice a n cap]):=by rw [<- hW_W];exact ((Blk.newAt _ _ _ (by simp)).alloc _).alloc _
   have Hx : Hid (Blk W (w.heap.size + 1) 24 [.int .i64 0,.int .i64 0,.slice none 0 0]):=by rw [<- hW_W];exact (Blk.newAt _ _ _ (by simp)).alloc _
   have Hy : Hid (Blk W (w.heap.size + 1 + 1) 24 [.int .i64 0,.int .i64 0,.slice none 0 0]):=by rw [<- hW_W];exact Blk.newAt _ _ _ (by simp)
   obtain ⟨f0,f1,f2⟩:=Hf.out.c3
   obtain ⟨x0,fx0,x1,fx1,x2,fx2⟩:=Hx.out.g3
   obtain ⟨y0,fy0,y1,fy1,y2,fy2⟩:=Hy.out.g3
   go_enter Tryz.func7,Tryz.ntmps7
   go_wp2_with fail
   refine (check_any v d a n cap 0 Hc.out _).mono ?_
   rintro e w1 ⟨rfl,hbn⟩
   clear f0 f1 f2
   clear x0 fx0 x1 fx1 x2 fx2
   clear y0 fy0 y1 fy1 y2 fy2
   replace Hf:=kB Hf hbn
   replace Hx:=kB Hx hbn
   replace Hy:=kB Hy hbn
   obtain ⟨f0,f1,f2⟩:=Hf.out.c3
   obtain ⟨x0,fx0,x1,fx1,x2,fx2⟩:=Hx.out.g3
   obtain ⟨y0,fy0,y1,fy1,y2,fy2⟩:=Hy.out.g3
   replace Hb:=bnx Hb hbn;clear hbn
   go_wp2_with fail
   refine (H1.out _).mono ?_
   rintro e w2 ⟨rfl,hbn⟩
   clear f0 f1 f2
   clear x0 fx0 x1 fx1 x2 fx2
   clear y0 fy0 y1 fy1 y2 fy2
   replace Hf:=kB Hf hbn
   replace Hx:=kB Hx hbn
   replace Hy:=kB Hy hbn
   obtain ⟨f0,f1,f2⟩:=Hf.out.c3
   obtain ⟨x0,fx0,x1,fx1,x2,fx2⟩:=Hx.out.g3
   obtain ⟨y0,fy0,y1,fy1,y2,fy2⟩:=Hy.out.g3
   replace Hb:=bnx Hb hbn;clear hbn
   go_wp2
   clear f0 f1 f2
   clear x0 fx0 x1 fx1 x2 fx2
   clear y0 fy0 y1 fy1 y2 fy2
   refine body_world (fun w9=>Blk w9 (w.heap.size) 24 [.int .i64 v,.int .i64 d,.slice a n cap] /\ Blk w9 (w.heap.size + 1) 24 [.int .i64 0,.int .i64 0,.slice none 0 0] /\ Blk w9 (w.heap.size + 1 + 1) 24 [.int .i64 0,.int .i64 0,.slice none 0 0] /\ Below w.heap.size w w9) ⟨((((((Hf.out.so (w.heap.size + 1) 0 (by omega) _).so (w.heap.size + 1) 1 (by omega) _).so (w.heap.size + 1) 2 (by omega) _).so (w.heap.size + 1 + 1) 0 (by omega) _).so (w.heap.size + 1 + 1) 1 (by omega) _).so (w.heap.size + 1 + 1) 2 (by omega) _),((((((Hx.out.set 0 _).set 1 _).set 2 _).so (w.heap.size + 1 + 1) 0 (by omega) _).so (w.heap.size + 1 + 1) 1 (by omega) _).so (w.heap.size + 1 + 1) 2 (by omega) _),((((((Hy.out.so (w.heap.size + 1) 0 (by omega) _).so (w.heap.size + 1) 1 (by omega) _).so (w.heap.size + 1) 2 (by omega) _).set 0 _).set 1 _).set 2 _),((((((Hb.out.sc (w.heap.size + 1) 0 (by have:=Hb.out.size;omega) _).sc (w.heap.size + 1) 1 (by have:=Hb.out.size;omega) _).sc (w.heap.size + 1) 2 (by have:=Hb.out.size;omega) _).sc (w.heap.size + 1 + 1) 0 (by have:=Hb.out.size;omega) _).sc (w.heap.size + 1 + 1) 1 (by have:=Hb.out.size;omega) _).sc (w.heap.size + 1 + 1) 2 (by have:=Hb.out.size;omega) _)⟩ ?_
   rintro w9 ⟨qf,qx,qy,hbn⟩
   replace Hf:=lid qf;clear qf
   replace Hx:=lid qx;clear qx
   replace Hy:=lid qy;clear qy
   obtain ⟨f0,f1,f2⟩:=Hf.out.c3
   obtain ⟨x0,fx0,x1,fx1,x2,fx2⟩:=Hx.out.g3
   obtain ⟨y0,fy0,y1,fy1,y2,fy2⟩:=Hy.out.g3
   replace Hb:=lid hbn;clear hbn
   refine bodyPost_ret (v:=.tuple #[sf0,sf0,.int .i64 1]) (by simp [results,Tryz.results7,go_sem,x0,x1,x2,y0,y1,y2]) rfl ⟨rfl,Hb.out⟩
def halfL (V D i j : Nat) (cs : List Dyadic) : List Dyadic:=colL (rowsL (V + 1) D) (halfP i j (rowsL (V + 1) D) cs)
theorem split_ok (V D : Nat) (a : Option Addr) (cap : Nat) (raws : List Raw) (i j B : Nat) (w : World) (hc : chk V D raws.length = 0) (hi : i <= V) (hj : j <= V) (hij : i ≠ j)
 (hfit : ∀ x ∈ raws,Fit B x) (hBB : B <= 1000000) (ha : At w a (raws.flatMap numC)) (hT : Tab w) :
 Calls Tryz.prog 7 #[.agg #[.int .i64 (V : Int),.int .i64 (D : Int),.slice a raws.length cap],.int .i64 (i : Int),.int .i64 (j : Int)] w fun e w'=>∃ r s,
  e = .returned (.tuple #[.agg #[.int .i64 (V : Int),.int .i64 (D : Int),.slice (some ⟨r,0,none⟩) raws.length raws.length],.agg #[.int .i64 (V : Int),.int .i64 (D : Int),.slice (some ⟨s,0,none⟩) raws.length raws.length],.int .i64 0]) /\
   Blk w' r 36 (dC (halfL V D i j (raws.map dval))) /\ Blk w' s 36 (dC (halfL V D j i (raws.map dval))) /\ w.heap.size <= r /\ w.heap.size <= s /\ Below w.heap.size w w':=by
 obtain ⟨c1,c2,c3,c4,c5,c6⟩:=chk_ok hc
 simp only [Int.toNat_natCast] at c5
 have Hc:=lid hc
 have Hh1:=lid (fun W hW hT=>half_any V D a cap raws i j B W (by omega) (by omega) (by omega) (by omega) c5 hi hj hij hfit hBB (ha.below hW) hT)
 have Hh2:=lid (fun W hW hT=>half_any V D a cap raws j i B W (by omega) (by omega) (by omega) (by omega) c5 hj hi (fun e=>hij e.symm) hfit hBB (ha.below hW) hT)
 have h1:=has_any V D a raws.length cap i
 have h2:=has_any V D a raws.length cap j
 rw [decide_eq_true (by omega)] at h1 h2
 have H1:=lid h1;have H2:=lid h2;have HT:=lid hT
 have h3 : ((i : Int) == (j : Int)) = false:=by simp;omega
 clear hc c5 hfit ha h1 h2 hT
 obtain ⟨W,hW_W⟩ : ∃ W,(((w.alloc (.cells #[.int .i64 (V : Int),.int .i64 (D : Int),.slice a raws.length cap] 24)).alloc (.cells #[.int .i64 0,.int .i64 0,.slice none 0 0] 24)).alloc (.cells #[.int .i64 0,.int .i64 0,.slice none 0 0] 24)) = W:=⟨_,rfl⟩
 have Hb : Hid (Below w.heap.size w W):=by rw [<- hW_W];exact ((((Below.refl _ _).alloc (Nat.le_refl _) _).alloc (by simp<;>omega) _).alloc (by simp<;>omega) _)
 have Hf : Hid (Blk W (w.heap.size) 24 [.int .i64 (V : Int),.int .i64 (D : Int),.slice a raws.length cap]):=by rw [<- hW_W];exact ((Blk.newAt _ _ _ (by simp)).alloc _).alloc _
 have Hx : Hid (Blk W (w.heap.size + 1) 24 [.int .i64 0,.int .i64 0,.slice none 0 0]):=by rw [<- hW_W];exact (Blk.newAt _ _ _ (by simp)).alloc _
 have Hy : Hid (Blk W (w.heap.size + 1 + 1) 24 [.int .i64 0,.int .i64 0,.slice none 0 0]):=by rw [<- hW_W];exact Blk.newAt _ _ _ (by simp)
 obtain ⟨f0,f1,f2⟩:=Hf.out.c3
 obtain ⟨x0,fx0,x1,fx1,x2,fx2⟩:=Hx.out.g3
 obtain ⟨y0,fy0,y1,fy1,y2,fy2⟩:=Hy.out.g3
 go_enter Tryz.func7,Tryz.ntmps7
 go_wp2_with fail
 refine (check_any V D a raws.length cap 0 Hc.out _).mono ?_
 rintro e w1 ⟨rfl,hbn⟩
 clear f0 f1 f2
 clear x0 fx0 x1 fx1 x2 fx2
 clear y0 fy0 y1 fy1 y2 fy2
 replace Hf:=kB Hf hbn
 replace Hx:=kB Hx hbn
 replace Hy:=kB Hy hbn
 obtain ⟨f0,f1,f2⟩:=Hf.out.c3
 obtain ⟨x0,fx0,x1,fx1,x2,fx2⟩:=Hx.out.g3
 obtain ⟨y0,fy0,y1,fy1,y2,fy2⟩:=Hy.out.g3
 replace Hb:=bnx Hb hbn;clear hbn
 go_wp2_with fail
 refine (H1.out _).mono ?_
 rintro e w2 ⟨rfl,hbn⟩
 clear f0 f1 f2
 clear x0 fx0 x1 fx1 x2 fx2
 clear y0 fy0 y1 fy1 y2 fy2
 replace Hf:=kB Hf hbn
 replace Hx:=kB Hx hbn
 replace Hy:=kB Hy hbn
 obtain ⟨f0,f1,f2⟩:=Hf.out.c3
 obtain ⟨x0,fx0,x1,fx1,x2,fx2⟩:=Hx.out.g3
 obtain ⟨y0,fy0,y1,fy1,y2,fy2⟩:=Hy.out.g3
 replace Hb:=bnx Hb hbn;clear hbn
 go_wp2_with fail
 refine (H2.out _).mono ?_
 rintro e w3 ⟨rfl,hbn⟩
 clear f0 f1 f2
 clear x0 fx0 x1 fx1 x2 fx2
 clear y0 fy0 y1 fy1 y2 fy2
 replace Hf:=kB Hf hbn
 replace Hx:=kB Hx hbn
 replace Hy:=kB Hy hbn
 obtain ⟨f0,f1,f2⟩:=Hf.out.c3
 obtain ⟨x0,fx0,x1,fx1,x2,fx2⟩:=Hx.out.g3
 obtain ⟨y0,fy0,y1,fy1,y2,fy2⟩:=Hy.out.g3
 replace Hb:=bnx Hb hbn;clear hbn
 go_wp2_with fail
 have lf:=Hf.out.lt;have lx:=Hx.out.lt;have ly:=Hy.out.lt
 have hdr : w3.drew.heap.size = w3.heap.size:=rfl
 refine wp_region_plan (fun w'=>w'.cell? ⟨w.heap.size,0,none⟩ = some (.int .i64 (V : Int)) /\ w'.cell? ⟨w.heap.size,1,none⟩ = some (.int .i64 (D : Int)) /\ w'.cell? ⟨w.heap.size,2,none⟩ = some (.slice a raws.length cap)) (fun i=>Nat.blt i 8) [(0,true),(1,true),(2,true),(4,true),(5,true),(6,true),(3,false),(7,false),(8,false),(9,false),(10,false)] (by kernel_rfl) (by kernel_rfl) rfl (by kernel_rfl) (fun o c a v w=>by cases o.dst<;>exact id) ⟨f0,f1,f2⟩ ?_
 iterate 6 (refine planT rfl rfl (v:=?_) (fun w' hw'=>?_) ?_;rotate_left;(focus obtain ⟨q0,q1,q2⟩:=hw';go_simp;try with_reducible rfl);try simp only [Act.put,U1,U2,U3])
 refine planF rfl rfl (fun K hK=>?_)
 go_simp
 with_reducible refine (Hh1.out _ (by first | exact Hb.out | exact Below.drew Hb.out) (by first | exact (HT.out.below Hb.out) | exact Tab.drew (HT.out.below Hb.out) | exact Tab.alloc (HT.out.below Hb.out) _ | exact Tab.drew (Tab.alloc (HT.out.below Hb.out) _) | exact Tab.alloc (Tab.drew (HT.out.below Hb.out)) _)).mono ?_
 rintro e w4 ⟨r,rfl,hr,lr,hq⟩
 have hbn : Below w3.heap.size w3 w4:=by first | exact hq | exact bundrew hq
 clear f0 f1 f2
 clear x0 fx0 x1 fx1 x2 fx2
 clear y0 fy0 y1 fy1 y2 fy2
 replace Hf:=kB Hf hbn
 replace Hx:=kB Hx hbn
 replace Hy:=kB Hy hbn
 obtain ⟨f0,f1,f2⟩:=Hf.out.c3
 obtain ⟨x0,fx0,x1,fx1,x2,fx2⟩:=Hx.out.g3
 obtain ⟨y0,fy0,y1,fy1,y2,fy2⟩:=Hy.out.g3
 replace Hb:=bnx Hb hbn;clear hbn
 have Hp:=lid hr;clear hr
 have lt_p_w4:=Hp.out.lt
 refine hK _ _ (fun _=>⟨f0,f1,f2⟩) ?_;clear hK K
 try simp only [Act.put,U1,U2,U3]
 refine planF rfl rfl (fun K hK=>?_)
 go_simp
 with_reducible refine (Hh2.out _ (by first | exact Hb.out | exact Below.drew Hb.out) (by first | exact (HT.out.below Hb.out) | exact Tab.drew (HT.out.below Hb.out) | exact Tab.alloc (HT.out.below Hb.out) _ | exact Tab.drew (Tab.alloc (HT.out.below Hb.out) _) | exact Tab.alloc (Tab.drew (HT.out.below Hb.out)) _)).mono ?_
 rintro e w5 ⟨s,rfl,hs,ls,hq⟩
 have hbn : Below w4.heap.size w4 w5:=by first | exact hq | exact bundrew hq
 clear f0 f1 f2
 clear x0 fx0 x1 fx1 x2 fx2
 clear y0 fy0 y1 fy1 y2 fy2
 replace Hf:=kB Hf hbn
 replace Hx:=kB Hx hbn
 replace Hy:=kB Hy hbn
 replace Hp:=kB Hp hbn
 obtain ⟨f0,f1,f2⟩:=Hf.out.c3
 obtain ⟨x0,fx0,x1,fx1,x2,fx2⟩:=Hx.out.g3
 obtain ⟨y0,fy0,y1,fy1,y2,fy2⟩:=Hy.out.g3
 replace Hb:=bnx Hb hbn;clear hbn
 have Hq:=lid hs;clear hs
 have lt_q_w5:=Hq.out.lt
 refine hK _ _ (fun _=>⟨f0,f1,f2⟩) ?_;clear hK K
 try simp only [Act.put,U1,U2,U3]
 refine planF rfl rfl (fun K hK=>?_)
 go_simp
 refine hK _ _ (fun h=>absurd h (by decide)) ?_;clear hK K
 try simp only [Act.put,U1,U2,U3]
 clear f0 f1 f2
 clear x0 fx0 x1 fx1 x2 fx2
 clear y0 fy0 y1 fy1 y2 fy2
 refine plan_world (fun w6=>Blk w6 (w.heap.size) 24 [.int .i64 (V : Int),.int .i64 (D : Int),.slice a raws.length cap] /\ Blk w6 (w.heap.size + 1) 24 [.int .i64 (V : Int),.int .i64 (D : Int),.slice (some ⟨r,0,none⟩) raws.length raws.length] /\ Blk w6 (w.heap.size + 1 + 1) 24 [.int .i64 0,.int .i64 0,.slice none 0 0] /\ Blk w6 (r) 36 (dC (colL (rowsL (V + 1) D) (halfP i j (rowsL (V + 1) D) (raws.map dval)))) /\ Blk w6 (s) 36 (dC (colL (rowsL (V + 1) D) (halfP j i (rowsL (V + 1) D) (raws.map dval)))) /\ Below w.heap.size w w6) ⟨(((Hf.out.so (w.heap.size + 1) 0 (by omega) _).so (w.heap.size + 1) 1 (by omega) _).so (w.heap.size + 1) 2 (by omega) _),(((Hx.out.set 0 _).set 1 _).set 2 _),(((Hy.out.so (w.heap.size + 1) 0 (by omega) _).so (w.heap.size + 1) 1 (by omega) _).so (w.heap.size + 1) 2 (by omega) _),(((Hp.out.so (w.heap.size + 1) 0 (by omega) _).so (w.heap.size + 1) 1 (by omega) _).so (w.heap.size + 1) 2 (by omega) _),(((Hq.out.so (w.heap.size + 1) 0 (by omega) _).so (w.heap.size + 1) 1 (by omega) _).so (w.heap.size + 1) 2 (by omega) _),by first | exact (((Hb.out.sc (w.heap.size + 1) 0 (by have:=Hb.out.size;omega) _).sc (w.heap.size + 1) 1 (by have:=Hb.out.size;omega) _).sc (w.heap.size + 1) 2 (by have:=Hb.out.size;omega) _) | exact Below.drew (((Hb.out.sc (w.heap.size + 1) 0 (by have:=Hb.out.size;omega) _).sc (w.heap.size + 1) 1 (by have:=Hb.out.size;omega) _).sc (w.heap.size + 1) 2 (by have:=Hb.out.size;omega) _)⟩ ?_
 rintro w6 ⟨qf,qx,qy,qp,qq,hbn⟩
 replace Hf:=lid qf;clear qf
 replace Hx:=lid qx;clear qx
 replace Hy:=lid qy;clear qy
 replace Hp:=lid qp;clear qp
 replace Hq:=lid qq;clear qq
 obtain ⟨f0,f1,f2⟩:=Hf.out.c3
 obtain ⟨x0,fx0,x1,fx1,x2,fx2⟩:=Hx.out.g3
 obtain ⟨y0,fy0,y1,fy1,y2,fy2⟩:=Hy.out.g3
 replace Hb:=lid hbn;clear hbn
 refine planF rfl rfl (fun K hK=>?_)
 go_simp
 refine hK _ _ (fun h=>absurd h (by decide)) ?_;clear hK K
 try simp only [Act.put,U1,U2,U3]
 clear f0 f1 f2
 clear x0 fx0 x1 fx1 x2 fx2
 clear y0 fy0 y1 fy1 y2 fy2
 refine plan_world (fun w7=>Blk w7 (w.heap.size) 24 [.int .i64 (V : Int),.int .i64 (D : Int),.slice a raws.length cap] /\ Blk w7 (w.heap.size + 1) 24 [.int .i64 (V : Int),.int .i64 (D : Int),.slice (some ⟨r,0,none⟩) raws.length raws.length] /\ Blk w7 (w.heap.size + 1 + 1) 24 [.int .i64 (V : Int),.int .i64 (D : Int),.slice (some ⟨s,0,none⟩) raws.length raws.length] /\ Blk w7 (r) 36 (dC (colL (rowsL (V + 1) D) (halfP i j (rowsL (V + 1) D) (raws.map dval)))) /\ Blk w7 (s) 36 (dC (colL (rowsL (V + 1) D) (halfP j i (rowsL (V + 1) D) (raws.map dval)))) /\ Below w.heap.size w w7) ⟨(((Hf.out.so (w.heap.size + 1 + 1) 0 (by omega) _).so (w.heap.size + 1 + 1) 1 (by omega) _).so (w.heap.size + 1 + 1) 2 (by omega) _),(((Hx.out.so (w.heap.size + 1 + 1) 0 (by omega) _).so (w.heap.size + 1 + 1) 1 (by omega) _).so (w.heap.size + 1 + 1) 2 (by omega) _),(((Hy.out.set 0 _).set 1 _).set 2 _),(((Hp.out.so (w.heap.size + 1 + 1) 0 (by omega) _).so (w.heap.size + 1 + 1) 1 (by omega) _).so (w.heap.size + 1 + 1) 2 (by omega) _),(((Hq.out.so (w.heap.size + 1 + 1) 0 (by omega) _).so (w.heap.size + 1 + 1) 1 (by omega) _).so (w.heap.size + 1 + 1) 2 (by omega) _),by first | exact (((Hb.out.sc (w.heap.size + 1 + 1) 0 (by have:=Hb.out.size;omega) _).sc (w.heap.size + 1 + 1) 1 (by have:=Hb.out.size;omega) _).sc (w.heap.size + 1 + 1) 2 (by have:=Hb.out.size;omega) _) | exact Below.drew (((Hb.out.sc (w.heap.size + 1 + 1) 0 (by have:=Hb.out.size;omega) _).sc (w.heap.size + 1 + 1) 1 (by have:=Hb.out.size;omega) _).sc (w.heap.size + 1 + 1) 2 (by have:=Hb.out.size;omega) _)⟩ ?_
 rintro w7 ⟨qf,qx,qy,qp,qq,hbn⟩
 replace Hf:=lid qf;clear qf
 replace Hx:=lid qx;clear qx
 replace Hy:=lid qy;clear qy
 replace Hp:=lid qp;clear qp
 replace Hq:=lid qq;clear qq
 obtain ⟨f0,f1,f2⟩:=Hf.out.c3
 obtain ⟨x0,fx0,x1,fx1,x2,fx2⟩:=Hx.out.g3
 obtain ⟨y0,fy0,y1,fy1,y2,fy2⟩:=Hy.out.g3
 replace Hb:=lid hbn;clear hbn
 refine planF rfl rfl (fun K hK=>?_)
 go_simp
 refine hK _ _ (fun h=>absurd h (by decide)) ?_;clear hK K
 try simp only [Act.put,U1,U2,U3]
 simp only [wpPlan]
 go_wp2
 refine bodyPost_ret (v:=.tuple #[.agg #[.int .i64 (V : Int),.int .i64 (D : Int),.slice (some ⟨r,0,none⟩) raws.length raws.length],.agg #[.int .i64 (V : Int),.int .i64 (D : Int),.slice (some ⟨s,0,none⟩) raws.length raws.length],.int .i64 0]) (by simp [results,Tryz.results7,go_sem,x0,x1,x2,y0,y1,y2]) rfl ⟨r,s,rfl,Hp.out,Hq.out,by omega,by omega,Hb.out⟩
theorem liftR_len (x : List Nat) (c : Dyadic) : (liftR x c).length = x.length:=by simp [liftR]
def liftL (V D : Nat) (cs : List Dyadic) : List Dyadic:=colL (rowsL (V + 1) (D + 1)) (liftP (rowsL (V + 1) D) cs)
theorem lift_ok (V D : Nat) (a : Option Addr) (cap : Nat) (raws : List Raw) (B : Nat) (w : World) (hc0 : chk V D raws.length = 0) (hD : D < 20) (hc1 : cnt V (D + 1) <= 512)
 (hfit : ∀ x ∈ raws,Fit B x) (hBB : B <= 1000000) (ha : At w a (raws.flatMap numC)) (hT : Tab w) :
 Calls Tryz.prog 8 #[.agg #[.int .i64 (V : Int),.int .i64 (D : Int),.slice a raws.length cap]] w fun e w'=>∃ r,
  e = .returned (.tuple #[.agg #[.int .i64 (V : Int),.int .i64 ((D + 1 : Nat) : Int),.slice (some ⟨r,0,none⟩) (cnt V (D + 1)) (cnt V (D + 1))],.int .i64 0]) /\ Blk w' r 36 (dC (liftL V D (raws.map dval))) /\ w.heap.size <= r /\ Below w.heap.size w w':=by
 obtain ⟨c1,c2,c3,c4,c5,c6⟩:=chk_ok hc0
 simp only [Int.toNat_natCast] at c5
 have hlen : raws.length = cnt V D:=c5
 have hc : cnt V D <= 512:=by omega
 have hV : 1 <= V:=by omega
 have hV2 : V <= 8:=by omega
 obtain ⟨D1,hD1⟩ : ∃ D1 : Int,((D + 1 : Nat) : Int) = D1:=⟨_,rfl⟩
 have hw1 : IntKind.i64.wrap ((D : Int) + 1) = D1:=by rw [IntKind.wrap_i64];omega
 obtain ⟨N,hN⟩ : ∃ N,cnt V (D + 1) = N:=⟨_,rfl⟩
 have hNp : 0 < N:=by rw [<- hN];exact cnt_pos V (D + 1)
 have hRl : (rowsL (V + 1) D).length = raws.length:=by rw [rowsL_count,hlen]
 have hRl' : (rowsL (V + 1) (D + 1)).length = N:=by rw [rowsL_count,hN]
 have hkeys0:=keysL_rows V D hV hV2 (by omega) hc
 have hkeys:=keysL_rows V (D + 1) hV hV2 (by omega) hc1
 have hbeg:=begin_any (V : Int) ((D + 1 : Nat) : Int) (fun l hl=>Nat.le_trans (keysL_len _ _ l hl) (by decide))
 obtain ⟨R,hR⟩ : ∃ R,rowsL (V + 1) D = R:=⟨_,rfl⟩
 obtain ⟨R',hR'⟩ : ∃ R',rowsL (V + 1) (D + 1) = R':=⟨_,rfl⟩
 obtain ⟨f,hf⟩ : ∃ f,place (R'.map fun x=>x.map UInt8.ofNat) R'.length = f:=⟨_,rfl⟩
 have hkl0 : (keysL (V : Int) (D : Int)).length = raws.length:=by rw [hkeys0,List.length_map,hRl]
 have hkl : (keysL (V : Int) ((D + 1 : Nat) : Int)).length = N:=by rw [hkeys,List.length_map,hRl']
 have hplace : ∀ x ∈ R',∃ q,∃ h : q < R'.length,R'[q] = x /\ f (x.map UInt8.ofNat) = q:=by
  intro x hx
  rw [<- hR'] at hx
  have:=place_row (n:=V) (s:=D + 1) (by omega) hx
  subst hR';subst hf
  exact this
 have hpl : place (keysL (V : Int) ((D + 1 : Nat) : Int)) N = f:=by rw [hkeys,<- hRl',hR',hf]
 rw [hkl,hpl] at hbeg
 rw [hD1] at hbeg ⊢
 unfold liftL
 rw [hR] at hRl hkeys0 ⊢
 rw [hR'] at hRl' ⊢
 rw [hN]
 have hmem : ∀ x ∈ R,x.length = V + 1 /\ x.sum = D:=fun x hx=>(mem_rowsL V D x).1 (by rw [hR];exact hx)
 have hmem2 : ∀ x,x.length = V + 1 -> x.sum = D + 1 -> x ∈ R':=fun x h1 h2=>by rw [<- hR'];exact (mem_rowsL V (D + 1) x).2 ⟨h1,h2⟩
 have hnd : R'.Nodup:=by rw [<- hR'];exact rowsL_nodup V (D + 1)
 have h20 : ((D : Int) == 20) = false:=by simp;omega
 have hN0 : ((N : Int) == 0) = false:=by simp;omega
 have Hc:=lid hc0;have Hbeg:=lid hbeg;have Hkeys:=lid hkeys0;have Hplace:=lid hplace;have Hmem:=lid hmem;have Hmem2:=lid hmem2;have Hnd:=lid hnd;have HRl:=lid hRl;have HRl':=lid hRl';have Hfit:=lid hfit;have Hlen:=lid hlen;have HA:=lid ha;have HT:=lid hT;have Hkl:=lid hkl0;have HN:=lid hN
 have Hal : Hid (∀ b o,a = some ⟨b,o,none⟩ -> b < w.heap.size):=by
  intro b o e
  subst e
  refine ha.lt (fun h0=>?_)
  have h1:=congrArg List.length h0
  rw [flat_length numC 3 (fun _=>rfl)] at h1
  have:=cnt_pos V D
  rw [List.length_nil] at h1
  omega
 clear hD1 hbeg hkeys hkeys0 hplace hmem hmem2 hnd hRl hRl' hfit hlen ha hT hR hR' hf hpl hkl hkl0 hc0 c5 c6 hN hc1
 obtain ⟨W,hW_W⟩ : ∃ W,((w.alloc (.cells #[.int .i64 (V : Int),.int .i64 (D : Int),.slice a raws.length cap] 24)).alloc (.cells #[.int .i64 0,.int .i64 0,.slice none 0 0] 24)) = W:=⟨_,rfl⟩
 have Hb : Hid (Below w.heap.size w W):=by rw [<- hW_W];exact (((Below.refl _ _).alloc (Nat.le_refl _) _).alloc (by simp<;>omega) _)
 have Hq : Hid (Blk W (w.heap.size) 24 [.int .i64 (V : Int),.int .i64 (D : Int),.slice a raws.length cap]):=by rw [<- hW_W];exact (Blk.newAt _ _ _ (by simp)).alloc _
 have Hr : Hid (Blk W (w.heap.size + 1) 24 [.int .i64 0,.int .i64 0,.slice none 0 0]):=by rw [<- hW_W];exact Blk.newAt _ _ _ (by simp)
 obtain ⟨q0,q1,q2⟩:=Hq.out.c3
 obtain ⟨r0,fr0,r1,fr1,r2,fr2⟩:=Hr.out.g3
 go_enter Tryz.func8,Tryz.ntmps8
 go_wp2_with fail
 refine (check_any V D a raws.length cap 0 Hc.out _).mono ?_
 rintro e w0 ⟨rfl,hbn⟩
 clear q0 q1 q2
 clear r0 fr0 r1 fr1 r2 fr2
 replace Hq:=kB Hq hbn
 replace Hr:=kB Hr hbn
 obtain ⟨q0,q1,q2⟩:=Hq.out.c3
 obtain ⟨r0,fr0,r1,fr1,r2,fr2⟩:=Hr.out.g3
 replace Hb:=bnx Hb hbn;clear hbn
 go_wp2_with fail
 refine (Hbeg.out w0).mono ?_
 rintro e w1 ⟨bB,bm,rfl,⟨hB,lB,hm,lm⟩,hbn⟩
 have lz1:=Hq.out.lt;have lz4:=Hr.out.lt
 replace Hq:=lid (Hq.out.below hbn);replace Hr:=lid (Hr.out.below hbn)
 replace Hb:=lid (bnext Hb.out hbn)
 clear q0 q1 q2 r0 r1 r2 fr0 fr1 fr2 hbn
 have lB1:=hB.lt;have lm1:=hm.lt;have sz1:=Hb.out.size
 obtain ⟨W3,hW3⟩ : ∃ W3,w1.alloc (.cells #[.int .i64 (V : Int),.int .i64 D1,.slice (some ⟨bB,0,none⟩) N N,.map (some bm)] 64) = W3:=⟨_,rfl⟩
 have hb3 : Below w1.heap.size w1 W3:=by rw [<- hW3];exact (Below.refl _ _).alloc (Nat.le_refl _) _
 have Hx : Hid (Blk W3 w1.heap.size 64 [.int .i64 (V : Int),.int .i64 D1,.slice (some ⟨bB,0,none⟩) N N,.map (some bm)]):=by rw [<- hW3];exact Blk.new _ _ _
 replace Hq:=lid (Hq.out.below hb3);replace Hr:=lid (Hr.out.below hb3)
 replace Hb:=lid (bnext Hb.out hb3)
 have HB:=lid (hB.below hb3);have Hm:=lid (hm.below hb3)
 clear hB hm hb3
 have q0 : W3.cell? ⟨w.heap.size,0,none⟩ = some (.int .i64 (V : Int)):=Hq.out.cell 0
 have q1 : W3.cell? ⟨w.heap.size,1,none⟩ = some (.int .i64 (D : Int)):=Hq.out.cell 1
 have q2 : W3.cell? ⟨w.heap.size,2,none⟩ = some (.slice a raws.length cap):=Hq.out.cell 2
 have x0 : W3.cell? ⟨w1.heap.size,0,none⟩ = some (.int .i64 (V : Int)):=Hx.out.cell 0
 have x1 : W3.cell? ⟨w1.heap.size,1,none⟩ = some (.int .i64 D1):=Hx.out.cell 1
 have x2 : W3.cell? ⟨w1.heap.size,2,none⟩ = some (.slice (some ⟨bB,0,none⟩) N N):=Hx.out.cell 2
 have x3 : W3.cell? ⟨w1.heap.size,3,none⟩ = some (.map (some bm)):=Hx.out.cell 3
 have sz3 : W3.heap.size = w1.heap.size + 1:=by rw [<- hW3];simp
 have Hsz3:=lid sz3;clear sz3
 obtain ⟨cs,hcs⟩ : ∃ cs,raws.map dval = cs:=⟨_,rfl⟩
 obtain ⟨P,hP⟩ : ∃ P : Nat -> Puts,(fun k=>liftR (R.getD k []) (cs.getD k 0)) = P:=⟨_,rfl⟩
 have hPl : ∀ k,k < R.length -> (P k).length <= 9:=by
  intro k hk
  have hm:=Hmem.out _ (List.getElem_mem hk)
  have e : R.getD k [] = R[k]:=by simp [hk]
  rw [<- hP]
  dsimp only
  rw [liftR_len,e];omega
 have hcv : ∀ k (h : k < raws.length),cs.getD k 0 = dval raws[k]:=fun k h=>by rw [<- hcs];simp [h]
 have hPs : ∀ k,k < R.length -> ∀ p ∈ P k,Sm B p.2:=by
  intro k hk p hp
  have hk2 : k < raws.length:=by rw [<- HRl.out];exact hk
  rw [<- hP] at hp
  dsimp only at hp
  unfold liftR at hp
  rw [List.mem_map] at hp
  obtain ⟨t,_,rfl⟩:=hp
  rw [hcv k hk2]
  exact (Hfit.out _ (List.getElem_mem hk2)).2
 have hPr : ∀ k,k < R.length -> ∀ p ∈ P k,p.1 ∈ R':=by
  intro k hk p hp
  have hm:=Hmem.out _ (List.getElem_mem hk)
  have e : R.getD k [] = R[k]:=by simp [hk]
  rw [<- hP] at hp
  dsimp only at hp
  unfold liftR at hp
  rw [e,List.mem_map] at hp
  obtain ⟨t,ht,rfl⟩:=hp
  rw [List.mem_range] at ht
  exact Hmem2.out _ (by rw [inc_length];exact hm.1) (by rw [inc_sum _ _ ht];omega)
 have Htb : Hid (0 < w.heap.size):=HT.out.lt
 have hmade:=smade_any (V : Int) D1 bB N bm 24 #[.pointer (some ⟨w1.heap.size,0,none⟩)] (V : Int) (D : Int) a cap raws
  (fun k W=>Blk W w1.heap.size 64 [.int .i64 (V : Int),.int .i64 D1,.slice (some ⟨bB,0,none⟩) N N,.map (some bm)] /\ Blk W bB 36 (dC (putAll f (List.replicate N 0) (putsTo P k))) /\ Mp W bm N f /\ Tab W) W3
  Hkl.out.symm (HA.out.below Hb.out) ?hab ?hac (enters_of Tryz.func24 (by kernel_rfl) rfl) ?hJb ?hcl ?hbB ⟨Hx.out,HB.out,Hm.out,HT.out.below Hb.out⟩
 rotate_right 5
 case hbB=>have:=Hsz3.out;omega
 case hab=>
  intro b o e
  have:=Hal.out b o e;omega
 case hac=>
  intro b o e
  have:=Hal.out b o e;have:=Hb.out.size;omega
 case hJb=>
  rintro k W' W'' ⟨j1,j4,j5,j6⟩ hch
  have hs:=Hsz3.out
  have:=Htb.out;have:=Hb.out.size
  exact ⟨hch.blk j1 (by omega),hch.blk j4 (by omega),hch.mp j5 (by omega),hch.tab j6 (by omega)⟩
 case hcl=>
  rintro k hk hk2 W' bM ⟨j1,j4,j5,j6⟩ hM hbM
  have hs:=Hsz3.out
  have hkR : k < R.length:=by rw [HRl.out];exact hk2
  have hm:=Hmem.out _ (List.getElem_mem hkR)
  have ek : (keysL (V : Int) (D : Int))[k] = (R[k]).map UInt8.ofNat:=by
   have:=Hkeys.out;simp only [this,List.getElem_map]
  rw [ek] at hM ⊢
  obtain ⟨ds,hds⟩ : ∃ ds,putAll f (List.replicate N 0) (putsTo P k) = ds:=⟨_,rfl⟩
  have hdl : ds.length = N:=by rw [<- hds,putAll_length,List.length_replicate]
  rw [hds] at j4
  have nmB : bm ≠ bB:=by
   rintro rfl
   obtain ⟨D,⟨es,clock,hb,_⟩,_⟩:=j5
   have h:=j4.symm.trans hb;simp at h
  have hpl:=putsTo_len P 9 R.length k (by omega) hPl
  have hkb : k * 9 <= 4608:=by have:=Hlen.out;omega
  have hds2 : ∀ y ∈ ds,Sm (B + 4608) y:=by
   rw [<- hds]
   intro y hy
   have:=putAll_sm (B:=B) f (List.replicate N 0) (putsTo P k) (fun d hd=>by rw [List.eq_of_mem_replicate hd];exact Sm.zero _) (putsTo_all P R.length k (by omega) hPs) y hy
   exact this.mono (by omega)
  have hfx:=Hfit.out _ (List.getElem_mem hk2)
  have hxl : (R[k].map UInt8.ofNat).length = V + 1:=by rw [List.length_map];exact hm.1
  have hh:=lift1_any (V : Int) D1 bB bm bM w1.heap.size (R[k].map UInt8.ofNat).length N (B + 4608) f ds (R[k].map UInt8.ofNat) raws[k].1 raws[k].2.1 raws[k].2.2 W' (by rw [hdl];exact j1) j4 j5 hM (by omega)
   (fun u hu=>by
    rw [List.mem_map] at hu
    obtain ⟨y,hy,rfl⟩:=hu
    have:=mem_le_sum hy
    simp;omega)
   (fun t ht=>by
    have ht2 : t < R[k].length:=by simpa using ht
    have hmm : inc R[k] t ∈ R':=Hmem2.out _ (by rw [inc_length];exact hm.1) (by rw [inc_sum _ _ ht2];omega)
    obtain ⟨q,hq,_,e2⟩:=Hplace.out _ hmm
    have e3:=inc_bytes R[k] t ht2
    have e4 : (R[k].map UInt8.ofNat).getD t 0 = (R[k].map UInt8.ofNat)[t]:=by simp [ht2]
    rw [e4] at e3
    rw [e3,e2,hdl,<- HRl'.out];exact hq) (hfx.mono (by omega)) hds2 (by omega) j6 (by have:=Htb.out;have:=Hb.out.size;omega) (by have:=Htb.out;omega)
  refine hh.mono ?_
  rintro e' w' ⟨he,hB',_,hch⟩
  refine ⟨he,⟨hch.blk j1 (by omega),?_,hch.mp j5 (by omega),hch.tab j6 (by have:=Htb.out;have:=Hb.out.size;omega)⟩,hch⟩
  rw [putsTo_succ,putAll_append,hds]
  have eP : P k = liftR R[k] (dval raws[k]):=by
   rw [<- hP]
   dsimp only
   rw [hcv k hk2]
   simp [hkR]
  rw [eP]
  rw [List.length_map,liftTo_put f R[k] _ ds R[k].length (Nat.le_refl _)] at hB'
  exact hB'
 have Hmade:=lid hmade;clear hmade
 go_wp2_with fail
 refine Hmade.out.mono ?_
 rintro e w4 ⟨rfl,⟨_,hB4,_,_⟩,hch⟩
 have hs:=Hsz3.out
 have hr4 : Blk w4 (w.heap.size + 1) 24 [.int .i64 0,.int .i64 0,.slice none 0 0]:=hch.blk Hr.out (by omega)
 have r0 : w4.cell? ⟨w.heap.size + 1,0,none⟩ = some (.int .i64 0):=hr4.cell 0
 have r1 : w4.cell? ⟨w.heap.size + 1,1,none⟩ = some (.int .i64 0):=hr4.cell 1
 have r2 : w4.cell? ⟨w.heap.size + 1,2,none⟩ = some (.slice none 0 0):=hr4.cell 2
 have fr0:=hr4.free 0;have fr1:=hr4.free 1;have fr2:=hr4.free 2
 have hfin : putAll f (List.replicate N 0) (putsTo P (keysL (V : Int) (D : Int)).length) = colL R' (liftP R cs):=by
  rw [Hkl.out,<- HRl.out]
  have e : putsTo P R.length = liftP R cs:=by rw [<- hP];rfl
  rw [e,<- HRl'.out]
  exact putAll_zero R' Hnd.out f Hplace.out _ (by rw [<- e];exact putsTo_all P R.length R.length (Nat.le_refl _) hPr)
 rw [hfin] at hB4
 have HB4:=lid hB4;have Hch:=lid hch
 have Hbz:=lid (Hb.out.trans (Hch.out.below (by have:=Hb.out.size;omega) (fun b e=>by omega)))
 clear hB4 hch hr4 q0 q1 q2 x0 x1 x2 x3 hs
 go_wp2
 refine bodyPost_ret (v:=.tuple #[.agg #[.int .i64 (V : Int),.int .i64 D1,.slice (some ⟨bB,0,none⟩) N N],.int .i64 0]) (by simp [results,Tryz.results8,go_sem,r0,r1,r2]) rfl ⟨bB,rfl,?_,by omega,?_⟩
 . have:=((HB4.out.set_other ⟨w.heap.size + 1,0,none⟩ (by dsimp only;omega) (.int .i64 (V : Int))).set_other ⟨w.heap.size + 1,1,none⟩ (by dsimp only;omega) (.int .i64 D1)).set_other ⟨w.heap.size + 1,2,none⟩ (by dsimp only;omega) (.slice (some ⟨bB,0,none⟩) N N)
   rw [hcs];exact this
 . exact (((Hbz.out.setCell (by dsimp only;omega) _).setCell (by dsimp only;omega) _).setCell (by dsimp only;omega) _)
theorem same_true (v d : Int) (a a' : Option Addr) (n cap cap' : Nat) (raws : List Raw) (w : World) (hn : raws.length = n) (hl : n <= 1048576) (ha : At w a (raws.flatMap numC)) (ha' : At w a' (raws.flatMap numC)) :
 Calls Tryz.prog 9 #[.agg #[.int .i64 v,.int .i64 d,.slice a n cap],.agg #[.int .i64 v,.int .i64 d,.slice a' n cap']] w fun e w'=>e = .returned (.bool true) /\ Below w.heap.size w w':=by
 have Ha:=lid ha;have Ha':=lid ha';have Hn:=lid hn;clear ha ha' hn
 go_enter Tryz.func9,Tryz.ntmps9
 have Hb : Hid (Below w.heap.size w w):=Below.refl _ _
 go_wp2_with fail
 obtain ⟨R,hR⟩ : ∃ R : World -> Prop,(fun W=>Blk W (w.heap.size) 24 [.int .i64 v,.int .i64 d,.slice a n cap] /\ Blk W (w.heap.size + 1) 24 [.int .i64 v,.int .i64 d,.slice a' n cap'] /\ Below w.heap.size w W) = R:=⟨_,rfl⟩
 first | refine wp_world R ?hR ?_ | refine calls_world R ?hR ?_
 case hR=>subst hR;exact ⟨((Blk.newAt w _ _ (b:=w.heap.size) rfl).alloc _),(Blk.newAt (w.alloc _) _ _ (b:=w.heap.size + 1) (by simp)),(((Below.refl _ _).alloc (Nat.le_refl _) _).alloc (by simp<;>omega) _)⟩
 subst hR
 rintro W ⟨qx,qy,hbn⟩
 have Hx:=lid qx;clear qx
 have Hy:=lid qy;clear qy
 obtain ⟨x0,x1,x2⟩:=Hx.out.c3
 obtain ⟨y0,y1,y2⟩:=Hy.out.c3
 replace Hb:=bnx Hb hbn;clear hbn
 go_wp2_with fail
 go_loopw [5] (fun i wr=>∃ k : Nat,k <= n /\ i = .int .i64 (k : Int) /\ Blk wr w.heap.size 24 [.int .i64 v,.int .i64 d,.slice a n cap] /\ Blk wr (w.heap.size + 1) 24 [.int .i64 v,.int .i64 d,.slice a' n cap'] /\ Below w.heap.size w wr) (fun i _=>n - (intOf i).toNat)
 case atStart=>exact ⟨0,Nat.zero_le _,rfl,Hx.out,Hy.out,Hb.out⟩
 case round=>
  clear x0 x1 x2 y0 y1 y2
  obtain ⟨k,hk,rfl,pX,pY,pb⟩:=hrel
  have x2 : wr.cell? ⟨w.heap.size,2,none⟩ = some (.slice a n cap):=pX.cell 2
  have y2 : wr.cell? ⟨w.heap.size + 1,2,none⟩ = some (.slice a' n cap'):=pY.cell 2
  by_cases hlt : k < n
  . have hlt2 : k < raws.length:=by rw [Hn.out];exact hlt
    obtain ⟨s,m,e,hx⟩ : ∃ s m e,raws[k] = (s,m,e):=⟨_,_,_,rfl⟩
    obtain ⟨b1,o1,hab1,p0,p1,p2⟩:=(Ha.out.below pb).num k hlt2 hx
    obtain ⟨b2,o2,hab2,q0,q1,q2⟩:=(Ha'.out.below pb).num k hlt2 hx
    have hix1:=i22x36 n cap k (k : Int) hab1 hlt rfl
    have hix2:=i22x36 n cap' k (k : Int) hab2 hlt rfl
    have H1:=lid pX;have H2:=lid pY;have H3:=lid pb
    clear hx pX pY pb hab1 hab2
    go_wp2
    go_region
    go_wp2
    go_roundw
    case rel=>exact ⟨k + 1,by omega,by go_num,H1.out.drew,H2.out.drew,H3.out.drew⟩
    case measure=>simp [intOf];omega
  . obtain rfl : k = n:=by omega
    go_wp2
    go_ret
    exact ⟨rfl,pb⟩
def Fair (d : Int) (raws : List Raw) : Prop:=raws.length <= 60 /\ ¬ (6 < d /\ d < 20) /\ ∀ x ∈ raws,x.2.1.length <= 12 /\ -60 <= x.2.2 /\ x.2.2 <= 60
theorem Chg.set {Y : Nat -> Prop} {W W' : World} (h : Chg Y W W') {a : Addr} (hy : Y a.block) (v : Value) : Chg Y W (W'.setCell a v):=
 h.trans (Chg.of_grown (Y:=Y) (grownBy_set (w:=W') (a:=a) a.block rfl v) (fun _ e=>by cases e;exact hy)) (fun _ h=>.inl h)
theorem Chg.drew {Y : Nat -> Prop} {W W' : World} (h : Chg Y W W') : Chg Y W W'.drew:=⟨h.os,h.tape,h.output,h.size,h.block⟩
theorem Chg.below' {Y : Nat -> Prop} {A B C : World} (h : Chg Y A B) (k : Below B.heap.size B C) : Chg Y A C:=h.trans (Chg.of_below (Y:=Y) k) (fun _ h=>.inl h)
theorem ex_index (x : List Nat) (j : Nat) (hj : j < x.length) (hx : x.getD j 0 <= 255) (w : World) :
 (Instr.index 9 (.string (bs (x.map UInt8.ofNat))) (.int .i64 (j : Int))).run Tryz.prog w = .ok (.int .u8 (x.getD j 0 : Int)) w:=by
 rw [idx_bs (x.map UInt8.ofNat) (j : Int) j (by simpa using hj) rfl w]
 have e : ((x.map UInt8.ofNat)[j]'(by simpa using hj)).toNat = x.getD j 0:=by
  have e0 : x[j] = x.getD j 0:=by simp [hj]
  rw [List.getElem_map,e0]
  generalize x.getD j 0 = z at *
  simp;omega
 rw [e]
theorem corner_ok (V D : Nat) (a : Option Addr) (cap : Nat) (raws : List Raw) (j : Nat) (w : World) (hc : chk V D raws.length = 0) (hj : j <= V) (hok : ∀ x ∈ raws,Ok x) (ha : At w a (raws.flatMap numC)) (hT : Tab w) :
 Calls Tryz.prog 10 #[.agg #[.int .i64 (V : Int),.int .i64 (D : Int),.slice a raws.length cap],.int .i64 (j : Int)] w fun e w'=>
  e = .returned (.tuple #[numV (cornTo j D (rowsL (V + 1) D) (raws.map dval) raws.length),.int .i64 0]) /\ Below w.heap.size w w':=by
 obtain ⟨c1,c2,c3,c4,c5,c6⟩:=chk_ok hc
 simp only [Int.toNat_natCast] at c5
 have hkeys:=keysL_rows V D (by omega) (by omega) (by omega) (by omega)
 have hPr:=products_any (V : Int) (D : Int)
 have ePr : (prodsL (V : Int) (D : Int)).map (fun x=>Value.string (ex x)) = (keysL (V : Int) (D : Int)).map (fun l=>Value.string (bs l)):=by unfold keysL;rw [List.map_map];rfl
 have eLn : (prodsL (V : Int) (D : Int)).length = raws.length:=by
  have : (keysL (V : Int) (D : Int)).length = raws.length:=by rw [hkeys,List.length_map,rowsL_count,c5]
  rw [<- this];unfold keysL;rw [List.length_map]
 rw [ePr,eLn,hkeys] at hPr
 have hRl : (rowsL (V + 1) D).length = raws.length:=by rw [rowsL_count,c5]
 have hmem : ∀ x ∈ rowsL (V + 1) D,x.length = V + 1 /\ x.sum = D:=fun x hx=>(mem_rowsL V D x).1 hx
 generalize rowsL (V + 1) D = R at *
 have h1:=has_any V D a raws.length cap j
 rw [decide_eq_true (by omega)] at h1
 have H1:=lid h1;have HT:=lid hT;have Hc:=lid hc;have HPr:=lid hPr;have Hmem:=lid hmem;have HRl:=lid hRl;have Hok:=lid hok;have HA:=lid ha
 clear c5 hc hPr hmem hRl hok ha hT h1 hkeys ePr eLn
 obtain ⟨cs,hcs⟩ : ∃ cs,raws.map dval = cs:=⟨_,rfl⟩
 have Hcs:=lid hcs
 rw [hcs]
 clear hcs
 obtain ⟨W,hW_W⟩ : ∃ W,((w.alloc (.cells #[.int .i64 (V : Int),.int .i64 (D : Int),.slice a raws.length cap] 24)).alloc (.cells #[.bool false,.string ⟨#[]⟩,.int .i64 0] 36)) = W:=⟨_,rfl⟩
 have Hb : Hid (Below w.heap.size w W):=by rw [<- hW_W];exact (((Below.refl _ _).alloc (Nat.le_refl _) _).alloc (by simp<;>omega) _)
 have Hf : Hid (Blk W (w.heap.size) 24 [.int .i64 (V : Int),.int .i64 (D : Int),.slice a raws.length cap]):=by rw [<- hW_W];exact (Blk.newAt _ _ _ (by simp)).alloc _
 have Hr : Hid (Blk W (w.heap.size + 1) 36 [.bool false,.string ⟨#[]⟩,.int .i64 0]):=by rw [<- hW_W];exact Blk.newAt _ _ _ (by simp)
 obtain ⟨f0,f1,f2⟩:=Hf.out.c3
 obtain ⟨r0,fr0,r1,fr1,r2,fr2⟩:=Hr.out.g3
 go_enter Tryz.func10,Tryz.ntmps10
 go_wp2_with fail
 refine (check_any V D a raws.length cap 0 Hc.out _).mono ?_
 rintro e w1 ⟨rfl,hbn⟩
 clear f0 f1 f2
 clear r0 fr0 r1 fr1 r2 fr2
 replace Hf:=kB Hf hbn
 replace Hr:=kB Hr hbn
 obtain ⟨f0,f1,f2⟩:=Hf.out.c3
 obtain ⟨r0,fr0,r1,fr1,r2,fr2⟩:=Hr.out.g3
 replace Hb:=bnx Hb hbn;clear hbn
 go_wp2_with fail
 refine (H1.out _).mono ?_
 rintro e w2 ⟨rfl,hbn⟩
 clear f0 f1 f2
 clear r0 fr0 r1 fr1 r2 fr2
 replace Hf:=kB Hf hbn
 replace Hr:=kB Hr hbn
 obtain ⟨f0,f1,f2⟩:=Hf.out.c3
 obtain ⟨r0,fr0,r1,fr1,r2,fr2⟩:=Hr.out.g3
 replace Hb:=bnx Hb hbn;clear hbn
 have lz_f_w3:=Hf.out.lt
 have lz_r_w3:=Hr.out.lt
 obtain ⟨w3,hW_w3⟩ : ∃ w3,(w2.alloc (.cells #[.bool false,.string ⟨#[]⟩,.int .i64 0] 36)) = w3:=⟨_,rfl⟩
 have hbn : Below w2.heap.size w2 w3:=by rw [<- hW_w3];exact ((Below.refl _ _).alloc (Nat.le_refl _) _)
 clear f0 f1 f2
 replace Hf:=kB Hf hbn
 clear r0 fr0 r1 fr1 r2 fr2
 replace Hr:=kB Hr hbn
 have Ho : Hid (Blk w3 (w2.heap.size) 36 [.bool false,.string ⟨#[]⟩,.int .i64 0]):=by rw [<- hW_w3];exact Blk.newAt _ _ _ (by simp)
 obtain ⟨f0,f1,f2⟩:=Hf.out.c3
 obtain ⟨r0,fr0,r1,fr1,r2,fr2⟩:=Hr.out.g3
 obtain ⟨o0,fo0,o1,fo1,o2,fo2⟩:=Ho.out.g3
 replace Hb:=bnx Hb hbn;clear hbn
 go_wp2_with fail
 clear f0 f1 f2
 clear r0 fr0 r1 fr1 r2 fr2
 clear o0 fo0 o1 fo1 o2 fo2
 obtain ⟨R,hR⟩ : ∃ R : World -> Prop,(fun v3=>Blk v3 (w.heap.size) 24 [.int .i64 (V : Int),.int .i64 (D : Int),.slice a raws.length cap] /\ Blk v3 (w.heap.size + 1) 36 [.bool false,.string ⟨#[]⟩,.int .i64 0] /\ Blk v3 (w2.heap.size) 36 [.bool false,.string ⟨#[]⟩,.int .i64 0] /\ Below w.heap.size w v3) = R:=⟨_,rfl⟩
 first | refine wp_world R ?hR ?_ | refine calls_world R ?hR ?_
 case hR=>subst hR;exact ⟨(((Hf.out.so (w2.heap.size) 0 (by omega) _).so (w2.heap.size) 1 (by omega) _).so (w2.heap.size) 2 (by omega) _),(((Hr.out.so (w2.heap.size) 0 (by omega) _).so (w2.heap.size) 1 (by omega) _).so (w2.heap.size) 2 (by omega) _),(((Ho.out.set 0 _).set 1 _).set 2 _),(((Hb.out.sc (w2.heap.size) 0 (by have:=Hb.out.size;omega) _).sc (w2.heap.size) 1 (by have:=Hb.out.size;omega) _).sc (w2.heap.size) 2 (by have:=Hb.out.size;omega) _)⟩
 subst hR
 rintro v3 ⟨qf,qr,qo,hbn⟩
 replace Hf:=lid qf;clear qf
 replace Hr:=lid qr;clear qr
 replace Ho:=lid qo;clear qo
 obtain ⟨f0,f1,f2⟩:=Hf.out.c3
 obtain ⟨r0,fr0,r1,fr1,r2,fr2⟩:=Hr.out.g3
 obtain ⟨o0,fo0,o1,fo1,o2,fo2⟩:=Ho.out.g3
 replace Hb:=lid hbn;clear hbn
 refine (HPr.out _).mono ?_
 rintro e w4 ⟨a1,cap1,rfl,hat,hba,hbn⟩
 have lf:=Hf.out.lt;have lr:=Hr.out.lt;have lo:=Ho.out.lt
 replace Hf:=lid (Hf.out.below hbn);replace Hr:=lid (Hr.out.below hbn);replace Ho:=lid (Ho.out.below hbn)
 replace Hb:=lid (bnext Hb.out hbn)
 have sz3 : v3.heap.size <= w4.heap.size:=hbn.size
 have Hat:=lid hat;have Hba:=lid hba;have szv : w2.heap.size < v3.heap.size:=lo
 clear f0 f1 f2 r0 r1 r2 fr0 fr1 fr2 o0 o1 o2 fo0 fo1 fo2 hbn hat hba
 go_wp2_with fail
 go_loopw [8,9,28] (fun _ _ i wr=>∃ k : Nat,k <= raws.length /\ i = .int .i64 (k : Int) /\ Blk wr w.heap.size 24 [.int .i64 (V : Int),.int .i64 (D : Int),.slice a raws.length cap] /\ Blk wr (w.heap.size + 1) 36 [.bool false,.string ⟨#[]⟩,.int .i64 0] /\ Blk wr w2.heap.size 36 (numC (canon (cornTo j D R cs k))) /\ Chg (fun b=>b = w2.heap.size) w4 wr) (fun _ _ i _=>raws.length - (intOf i).toNat)
 case atStart=>exact ⟨0,Nat.zero_le _,rfl,Hf.out,Hr.out,Ho.out,Chg.refl _ _⟩
 case round=>
  obtain ⟨k,hk,rfl,pF,pR,pO,pb⟩:=hrel
  have HB:=lid (Hb.out.trans (pb.below (by omega) (fun b e=>by omega)))
  by_cases hlt : k < raws.length
  . have hltR : k < R.length:=by rw [HRl.out];exact hlt
    obtain ⟨x,hx⟩ : ∃ x,R[k] = x:=⟨_,rfl⟩
    have hxm : x.length = V + 1 /\ x.sum = D:=by rw [<- hx];exact Hmem.out _ (List.getElem_mem hltR)
    obtain ⟨z,hz⟩ : ∃ z,x.getD j 0 = z:=⟨_,rfl⟩
    have hzl : z <= D:=by rw [<- hz,<- hxm.2];exact getD_le_sum x j
    have hidx:=ex_index x j (by omega) (by omega)
    rw [hz] at hidx
    have hat3 : At wr a1 ((R.map fun x=>x.map UInt8.ofNat).flatMap fun l=>[Value.string (bs l)]):=by rw [flat_one];exact Hat.out.chg pb (fun b o e h=>by have:=Hba.out b o e;omega)
    obtain ⟨b1,o1,hab1,hcs1⟩:=hat3.elem (f:=fun l=>[Value.string (bs l)]) (sz:=1) (fun _=>rfl) (by decide) k (by simpa using hltR)
    have hc0 : wr.cell? ⟨b1,o1 + k,none⟩ = some (.string (bs (x.map UInt8.ofNat))):=by rw [<- hx];simpa using hcs1 0 (by decide)
    have hix:=i69x9 raws.length cap1 k (k : Int) hab1 hlt rfl
    rw [Nat.mul_one] at hix
    clear hat3 hcs1 hab1
    have f1 : wr.cell? ⟨w.heap.size,1,none⟩ = some (.int .i64 (D : Int)):=pF.cell 1
    have f2 : wr.cell? ⟨w.heap.size,2,none⟩ = some (.slice a raws.length cap):=pF.cell 2
    have hwz : IntKind.i64.wrap (z : Int) = (z : Int):=by rw [IntKind.wrap_i64];omega
    have Hst : Hid (cornTo j D R cs (k + 1) = if z = D then cs.getD k 0 else cornTo j D R cs k):=by
     show _ = _
     rw [cornTo]
     have e : R.getD k [] = x:=by simp [hltR,hx]
     rw [e,hz]
    have HF:=lid pF;have HR:=lid pR;have HO:=lid pO;have Hpb:=lid pb
    clear pF pR pO pb hx hz hxm
    by_cases hzD : z = D
    . have ht : ((z : Int) == (D : Int)) = true:=by simp [hzD]
      obtain ⟨s,m,e,hx⟩ : ∃ s m e,raws[k] = (s,m,e):=⟨_,_,_,rfl⟩
      have HOk : Hid (Ok (s,m,e)):=by show Ok _;rw [<- hx];exact Hok.out _ (List.getElem_mem hlt)
      obtain ⟨X,hX⟩ : ∃ X,dval (s,m,e) = X:=⟨_,rfl⟩
      have HX:=lid hX
      have hck : cs.getD k 0 = X:=by rw [<- hX,<- hx,<- Hcs.out];simp [hlt]
      rw [if_pos hzD,hck] at Hst
      obtain ⟨b2,o2,hab2,p0,p1,p2⟩:=(HA.out.below HB.out).num k hlt hx
      have hix2:=i22x36 raws.length cap k (k : Int) hab2 hlt rfl
      clear hX hck hx hab2 hzD
      go_wp2
      go_region
      go_wp2_with fail
      refine (form_any s m e X HX.out _ HOk.out (by first | exact (HT.out.below HB.out) | exact Tab.drew (HT.out.below HB.out) | exact Tab.alloc (HT.out.below HB.out) _ | exact Tab.drew (Tab.alloc (HT.out.below HB.out) _) | exact Tab.alloc (Tab.drew (HT.out.below HB.out)) _)).mono ?_
      rintro e' w5 ⟨rfl,hbn⟩
      replace hbn:=bundrew hbn
      have lo5:=HO.out.lt
      replace HF:=lid (HF.out.below hbn);replace HR:=lid (HR.out.below hbn);replace HO:=lid (HO.out.below hbn)
      have Hbn:=lid (Hpb.out.below' hbn)
      have g0:=HO.out.free 0;have g1:=HO.out.free 1;have g2:=HO.out.free 2
      have k0 : w5.cell? ⟨w2.heap.size,0,none⟩ = some (.bool (sgnB (dN (cornTo j D R cs k)))):=HO.out.cell 0
      have k1 : w5.cell? ⟨w2.heap.size,1,none⟩ = some (.string (bs (nt (dN (cornTo j D R cs k)).natAbs))):=HO.out.cell 1
      have k2 : w5.cell? ⟨w2.heap.size,2,none⟩ = some (.int .i64 (dE (cornTo j D R cs k))):=HO.out.cell 2
      clear hc0 f1 f2 p0 p1 p2 hix hix2 hbn
      go_wp2
      go_roundw
      case rel=>
       refine ⟨k + 1,by omega,by go_num,?_,?_,?_,?_⟩
       . exact ((HF.out.set_other ⟨w2.heap.size,0,none⟩ (by dsimp only;omega) _).set_other ⟨w2.heap.size,1,none⟩ (by dsimp only;omega) _).set_other ⟨w2.heap.size,2,none⟩ (by dsimp only;omega) _
       . exact ((HR.out.set_other ⟨w2.heap.size,0,none⟩ (by dsimp only;omega) _).set_other ⟨w2.heap.size,1,none⟩ (by dsimp only;omega) _).set_other ⟨w2.heap.size,2,none⟩ (by dsimp only;omega) _
       . rw [Hst.out]
         exact ((HO.out.set 0 _).set 1 _).set 2 _
       . exact (((Hbn.out.set (a:=⟨w2.heap.size,0,none⟩) rfl _).set (a:=⟨w2.heap.size,1,none⟩) rfl _).set (a:=⟨w2.heap.size,2,none⟩) rfl _)
      case measure=>simp [intOf];omega
    . have ht : ((z : Int) == (D : Int)) = false:=by simp;omega
      rw [if_neg hzD] at Hst
      clear hzD
      go_wp2
      go_region
      go_wp2
      go_roundw
      case rel=>exact ⟨k + 1,by omega,by go_num,HF.out.drew,HR.out.drew,by rw [Hst.out];exact HO.out.drew,Hpb.out.drew⟩
      case measure=>simp [intOf];omega
  . obtain rfl : k = raws.length:=by omega
    have HF:=lid pF;have HR:=lid pR;have HO:=lid pO
    obtain ⟨X,hX⟩ : ∃ X,cornTo j D R cs raws.length = X:=⟨_,rfl⟩
    rw [hX] at pO
    have HX:=lid hX
    have o0 : wr.cell? ⟨w2.heap.size,0,none⟩ = some (.bool (sgnB (dN X))):=pO.cell 0
    have o1 : wr.cell? ⟨w2.heap.size,1,none⟩ = some (.string (bs (nt (dN X).natAbs))):=pO.cell 1
    have o2 : wr.cell? ⟨w2.heap.size,2,none⟩ = some (.int .i64 (dE X)):=pO.cell 2
    have r0 : wr.cell? ⟨w.heap.size + 1,0,none⟩ = some (.bool false):=pR.cell 0
    have r1 : wr.cell? ⟨w.heap.size + 1,1,none⟩ = some (.string ⟨#[]⟩):=pR.cell 1
    have r2 : wr.cell? ⟨w.heap.size + 1,2,none⟩ = some (.int .i64 0):=pR.cell 2
    have fr0:=pR.free 0;have fr1:=pR.free 1;have fr2:=pR.free 2
    clear pF pR pO pb hX HF HO
    go_wp2
    refine bodyPost_ret (v:=.tuple #[numV X,.int .i64 0]) (by simp [results,Tryz.results10,go_sem,r0,r1,r2,numV]) rfl ⟨by rw [HX.out],?_⟩
    exact (((HB.out.setCell (by dsimp only;omega) _).setCell (by dsimp only;omega) _).setCell (by dsimp only;omega) _)
theorem Tryz.infoI : (Tryz.prog.info? 34).map (fun i=>(i.zero,i.size,i.bytes)) = some (some (.agg #[.bool false,.string (bs [])]),2,24):=by kernel_rfl
theorem Tryz.infoIs : (Tryz.prog.info? 123).map (fun i=>(i.zero,i.size,i.bytes)) = some (some (.slice none 0 0),1,24):=by kernel_rfl
def iC (z : Int) : List Value:=[.bool (sgnB z),.string (bs (nt z.natAbs))]
def zC (zs : List Int) : List Value:=zs.flatMap iC
theorem zC_append (a b : List Int) : zC (a ++ b) = zC a ++ zC b:=by unfold zC;rw [List.flatMap_append]
def OwnM (w : World) (base n : Nat) (R : List (List Int)) (k : Nat) (v : Value) : Prop:=
 ∃ vals : List Value,vals.length = k /\ w.ownsRow base 123 1 v k vals /\ (∀ i (h : i < vals.length),w.ownsRow base 34 2 vals[i] n (zC (R.getD i []))) /\
  ∀ i j (hi : i < vals.length) (hj : j < vals.length) g,vals[i].ownBlock = some g -> vals[j].ownBlock = some g -> i = j
theorem OwnM.nil (w : World) (base n : Nat) (R : List (List Int)) : OwnM w base n R 0 (.slice none 0 0):=
 ⟨[],rfl,World.ownsRow_nil _ _ _ _,fun _ h=>absurd h (Nat.not_lt_zero _),fun _ _ h=>absurd h (Nat.not_lt_zero _)⟩
theorem OwnM.below {w w' : World} {base n k : Nat} {R : List (List Int)} {v : Value} (h : OwnM w base n R k v) (hb : Below w.heap.size w w') : OwnM w' base n R k v:=by
 obtain ⟨vals,hl,ho,hi,hd⟩:=h
 exact ⟨vals,hl,ownsRow_below ho hb,fun i h=>ownsRow_below (hi i h) hb,hd⟩
theorem row_ne {W : World} {b1 b2 e1 e2 s1 s2 k1 k2 : Nat} {v1 v2 : Value} {x1 x2 : List Value} (h1 : W.ownsRow b1 e1 s1 v1 k1 x1) (h2 : W.ownsRow b2 e2 s2 v2 k2 x2) (he : e1 ≠ e2) : v1.ownBlock = none \/ v1.ownBlock ≠ v2.ownBlock:=by
 rcases h1.2 with ⟨rfl,_⟩ | ⟨g,cap,cur,rfl,_,hg,_⟩
 . exact .inl rfl
 . refine .inr fun h=>?_
   rcases h2.2 with ⟨rfl,_⟩ | ⟨g',cap',cur',rfl,_,hg',_⟩
   . simp [Value.ownBlock] at h
   . simp only [Value.ownBlock,Option.some.injEq] at h
     subst h
     rw [hg] at hg'
     simp at hg'
     exact he hg'.2
theorem ownsRow_mono {W : World} {base base' : Nat} {e : TypeId} {size : Nat} {v : Value} {n : Nat} {xs : List Value} (h : W.ownsRow base e size v n xs) (hb : base' <= base) : W.ownsRow base' e size v n xs:=by
 refine ⟨h.1,?_⟩
 rcases h.2 with h2 | ⟨g,cap,cur,h1,h2,h3⟩
 . exact .inl h2
 . exact .inr ⟨g,cap,cur,h1,Nat.le_trans hb h2,h3⟩
theorem OwnM.push {w w' : World} {base n k : Nat} {R : List (List Int)} {v v' x : Value} {vals : List Value} (hl : vals.length = k) (hov : w.ownsRow base 123 1 v k vals) (hi : ∀ i (h : i < vals.length),w.ownsRow base 34 2 vals[i] n (zC (R.getD i [])))
 (hd : ∀ i j (hi : i < vals.length) (hj : j < vals.length) g,vals[i].ownBlock = some g -> vals[j].ownBlock = some g -> i = j)
 (hx : w.ownsRow base 34 2 x n (zC (R.getD k []))) (hfr : ∀ g,x.ownBlock = some g -> ∀ i (h : i < vals.length),vals[i].ownBlock ≠ some g)
 (ho : w'.ownsRow base 123 1 v' (k + 1) (vals ++ [x])) (hg : w.grownBy w' v.ownBlock) : OwnM w' base n R (k + 1) v':=by
 refine ⟨_,by simp [hl],ho,fun i h=>?_,fun i j h1 h2 g e1 e2=>?_⟩
 . by_cases hk : i < vals.length
   . rw [List.getElem_append_left hk]
     exact (hi i hk).kept hg (row_ne (hi i hk) hov (by decide))
   . have hik : i = k:=by simp at h;omega
     subst hik
     rw [List.getElem_append_right (by omega)]
     simp only [hl,Nat.sub_self,List.getElem_cons_zero]
     exact hx.kept hg (row_ne hx hov (by decide))
 . by_cases k1 : i < vals.length
   . rw [List.getElem_append_left k1] at e1
     by_cases k2 : j < vals.length
     . rw [List.getElem_append_left k2] at e2
       exact hd i j k1 k2 g e1 e2
     . have hjk : j = k:=by simp at h2;omega
       subst hjk
       rw [List.getElem_append_right (by omega)] at e2
       simp only [hl,Nat.sub_self,List.getElem_cons_zero] at e2
       exact absurd e1 (hfr g e2 i k1)
   . have hik : i = k:=by simp at h1;omega
     subst hik
     rw [List.getElem_append_right (by omega)] at e1
     simp only [hl,Nat.sub_self,List.getElem_cons_zero] at e1
     by_cases k2 : j < vals.length
     . rw [List.getElem_append_left k2] at e2
       exact absurd e2 (hfr g e1 j k2)
     . simp at h2;omega
def lowL (l : Int) (ds : List Dyadic) : Int:=ds.foldl (fun l d=>min l (dE d)) l
def lowR (l : Int) (R : List (List Dyadic)) : Int:=R.foldl lowL l
def sclI (low : Int) (d : Dyadic) : Int:=dN d * 2 ^ (dE d - low).toNat
theorem lowL_le (l : Int) (ds : List Dyadic) : lowL l ds <= l /\ ∀ d ∈ ds,lowL l ds <= dE d:=by
 induction ds generalizing l with
 | nil=>exact ⟨Int.le_refl _,fun d h=>by cases h⟩
 | cons x xs ih =>
   have h:=ih (min l (dE x))
   have e : lowL l (x :: xs) = lowL (min l (dE x)) xs:=rfl
   rw [e]
   refine ⟨by omega,fun d hd=>?_⟩
   rcases List.mem_cons.1 hd with rfl | hd
   . omega
   . exact h.2 d hd
theorem lowR_le (l : Int) (R : List (List Dyadic)) : lowR l R <= l /\ ∀ r ∈ R,∀ d ∈ r,lowR l R <= dE d:=by
 induction R generalizing l with
 | nil=>exact ⟨Int.le_refl _,fun d h=>by cases h⟩
 | cons x xs ih =>
   have h:=ih (lowL l x)
   have h1:=lowL_le l x
   have e : lowR l (x :: xs) = lowR (lowL l x) xs:=rfl
   rw [e]
   refine ⟨by omega,fun r hr d hd=>?_⟩
   rcases List.mem_cons.1 hr with rfl | hr
   . have:=h1.2 d hd;omega
   . exact h.2 r hr d hd
theorem lowL_ge (l : Int) (ds : List Dyadic) (m : Int) (hl : m <= l) (h : ∀ d ∈ ds,m <= dE d) : m <= lowL l ds:=by
 induction ds generalizing l with
 | nil=>exact hl
 | cons x xs ih =>
   have hx:=h x (List.mem_cons_self ..)
   exact ih (min l (dE x)) (by omega) (fun d hd=>h d (List.mem_cons_of_mem _ hd))
theorem lowR_ge (l : Int) (R : List (List Dyadic)) (m : Int) (hl : m <= l) (h : ∀ r ∈ R,∀ d ∈ r,m <= dE d) : m <= lowR l R:=by
 induction R generalizing l with
 | nil=>exact hl
 | cons x xs ih=>exact ih (lowL l x) (lowL_ge l x m hl (h x (List.mem_cons_self ..))) (fun r hr=>h r (List.mem_cons_of_mem _ hr))
theorem lowL_take (l : Int) (ds : List Dyadic) (k : Nat) (h : k < ds.length) : lowL l (ds.take (k + 1)) = min (lowL l (ds.take k)) (dE ds[k]):=by
 unfold lowL
 rw [List.take_succ_eq_append_getElem h,List.foldl_append];rfl
theorem lowR_take (l : Int) (R : List (List Dyadic)) (k : Nat) (h : k < R.length) : lowR l (R.take (k + 1)) = lowL (lowR l (R.take k)) R[k]:=by
 unfold lowR
 rw [List.take_succ_eq_append_getElem h,List.foldl_append];rfl
theorem fld_num (x y z : Value) (W : World) : (Instr.field 36 (.agg #[x,y,z]) 1).run Tryz.prog W = .ok z W:=by kernel_rfl
theorem sclI_back (low : Int) (d : Dyadic) (h : low <= dE d) : Dyadic.ofIntWithPrec (sclI low d) (-low) = d:=by
 have e : -low = -(dE d) + ((dE d - low).toNat : Int):=by omega
 unfold sclI
 rw [e,owp_shift]
 exact (owp_parts d).symm
theorem scaled_any (a : Option Addr) (L cap n : Nat) (rows : List (List Raw)) (B : Nat) (low : Int) (w : World) (hL : rows.length = L) (hL8 : L <= 8) (hn8 : n <= 8) (hrow : ∀ r ∈ rows,r.length = n) (ha : Tbl w a rows)
 (hfit : ∀ r ∈ rows,∀ c ∈ r,Fit B c) (hB : B <= 10000000) (hT : Tab w) (hlow : lowR 0 (rows.map fun r=>r.map dval) = low) :
 Calls Tryz.prog 100 #[.slice a L cap] w fun e w'=>∃ v,e = .returned (.tuple #[v,.int .i64 (-low)]) /\
  OwnM w' w.heap.size n ((rows.map fun r=>r.map dval).map fun r=>r.map (sclI low)) L v /\ Below w.heap.size w w':=by
 obtain ⟨i0,hi,hz0,hz1,hz2⟩:=info_parts Tryz.infoI
 obtain ⟨j0,hj,hy0,hy1,hy2⟩:=info_parts Tryz.infoIs
 obtain ⟨D,hD⟩ : ∃ D,(rows.map fun r=>r.map dval) = D:=⟨_,rfl⟩
 have hDL : D.length = L:=by rw [<- hD];simp [hL]
 have hDk : ∀ k (h : k < rows.length) (h' : k < D.length),D[k] = rows[k].map dval:=fun k h h'=>by subst hD;simp
 have hDe : ∀ r ∈ D,∀ d ∈ r,-268435456 <= dE d /\ dE d <= 268435456:=by
  intro r hr d hd
  rw [<- hD] at hr
  obtain ⟨r',hr',rfl⟩:=List.mem_map.1 hr
  obtain ⟨x,hx,rfl⟩:=List.mem_map.1 hd
  exact (((hfit r' hr' x hx).2).fit (by omega)).1.2
 rw [hD] at hlow ⊢
 have hlo : low <= 0 /\ ∀ r ∈ D,∀ d ∈ r,low <= dE d:=by rw [<- hlow];exact lowR_le 0 D
 have hlb : -268435456 <= low:=by rw [<- hlow];exact lowR_ge 0 D _ (by decide) (fun r hr d hd=>(hDe r hr d hd).1)
 have hpart : ∀ k j (h : k < D.length) (h' : j <= D[k].length),-268435456 <= lowL (lowR 0 (D.take k)) (D[k].take j) /\ lowL (lowR 0 (D.take k)) (D[k].take j) <= 0:=by
  intro k j h h'
  have g1 : -268435456 <= lowR 0 (D.take k):=lowR_ge 0 _ _ (by decide) (fun r hr d hd=>(hDe r (List.mem_of_mem_take hr) d hd).1)
  have g2:=(lowR_le 0 (D.take k)).1
  have g3:=(lowL_le (lowR 0 (D.take k)) (D[k].take j)).1
  exact ⟨lowL_ge _ _ _ g1 (fun d hd=>(hDe _ (List.getElem_mem h) d (List.mem_of_mem_take hd)).1),by omega⟩
 have Hi:=lid hi;have Hz0:=lid hz0;have Hz1:=lid hz1;have Hz2:=lid hz2
 have Hj:=lid hj;have Hy0:=lid hy0;have Hy1:=lid hy1;have Hy2:=lid hy2
 have HDL:=lid hDL;have HDk:=lid hDk;have HDe:=lid hDe;have Hlow:=lid hlow;have Hlo:=lid hlo;have Hlb:=lid hlb;have Hpart:=lid hpart
 have Ha:=lid ha;have HT:=lid hT;have Hrow:=lid hrow;have Hfit:=lid hfit;have HL:=lid hL
 have hnl : IntKind.i64.wrap (-low) = -low:=by rw [IntKind.wrap_i64];omega
 obtain ⟨nl,hnl2⟩ : ∃ nl,-low = nl:=⟨_,rfl⟩
 obtain ⟨S,hS⟩ : ∃ S,(D.map fun r=>r.map (sclI low)) = S:=⟨_,rfl⟩
 have hSk : ∀ k (h : k < D.length),S.getD k [] = D[k].map (sclI low):=fun k h=>by subst hS;simp [h]
 rw [hS,hnl2]
 have hnl3 : IntKind.i64.wrap (-low) = nl:=by rw [hnl,hnl2]
 have Hnl:=lid hnl3;have HSk:=lid hSk
 clear hnl hnl2 hnl3 hS hSk
 clear hi hz0 hz1 hz2 hj hy0 hy1 hy2 hpart hlb hlo hDe hDk hDL hlow ha hT hrow hfit hL hD
 go_enter Tryz.func100,Tryz.ntmps100
 have Hb : Hid (Below w.heap.size w w):=Below.refl _ _
 go_wp2_with fail
 go_loopw [4,18] (fun s4 x wr=>∃ k : Nat,k <= L /\ x = .int .i64 (k : Int) /\ s4 = .int .i64 (lowR 0 (D.take k)) /\ Below w.heap.size w wr) (fun _ x _=>L - (intOf x).toNat)
 case atStart=>exact ⟨0,Nat.zero_le _,rfl,rfl,Hb.out⟩
 case round=>
  clear Hb
  obtain ⟨k,hk,rfl,rfl,pb⟩:=hrel
  by_cases hlt : k < L
  . have hk2 : k < rows.length:=by rw [HL.out];exact hlt
    have hk3 : k < D.length:=by rw [HDL.out];exact hlt
    obtain ⟨p,hpp⟩ : ∃ p,rows[k] = p:=⟨_,rfl⟩
    obtain ⟨b,o,a1,c1,hab,hc1,hat⟩:=(Ha.out.below pb).row k hk2
    have hpn : p.length = n:=by rw [<- hpp];exact Hrow.out _ (List.getElem_mem hk2)
    have hpf : ∀ x ∈ p,Fit B x:=by rw [<- hpp];exact Hfit.out _ (List.getElem_mem hk2)
    have hDp:=HDk.out k hk2 hk3
    rw [hpp] at hc1 hat hDp
    rw [hpn] at hc1
    have hix1:=i131x22 L cap k (k : Int) hab hlt rfl
    rw [Nat.mul_one] at hix1
    have hst:=lowR_take 0 D k hk3
    have hpt:=fun j (h : j <= n)=>Hpart.out k j hk3 (by rw [hDp,List.length_map,hpn];exact h)
    rw [hDp] at hst
    simp only [hDp] at hpt
    obtain ⟨l0,hl0⟩ : ∃ l0,lowR 0 (D.take k) = l0:=⟨_,rfl⟩
    rw [hl0] at hst ⊢
    simp only [hl0] at hpt
    have Hat:=lid hat;have Hpn:=lid hpn;have Hpf:=lid hpf;have Hst:=lid hst;have Hpt:=lid hpt;have Hpb:=lid pb
    clear hat hpn hpf hst hpt pb hab hpp hDp hl0 hk2 hk3
    obtain ⟨wc,hwc⟩ : ∃ wc,wc = wr:=⟨_,rfl⟩
    subst hwc
    have szr:=Hpb.out.size
    go_wp2_with fail
    go_loopw [4,24] (fun s4 x wr=>∃ j : Nat,j <= n /\ x = .int .i64 (j : Int) /\ s4 = .int .i64 (lowL l0 ((p.map dval).take j)) /\ Below wc.heap.size wc wr) (fun _ x _=>n - (intOf x).toNat)
    case atStart=>exact ⟨0,Nat.zero_le _,rfl,rfl,Below.refl _ _⟩
    case round=>
     clear hc1
     obtain ⟨j,hj,rfl,rfl,hb2⟩:=hrel
     by_cases hlt2 : j < n
     . have k1 : j < p.length:=by rw [Hpn.out];exact hlt2
       obtain ⟨sp,mp,ep,hxp⟩ : ∃ s m e,p[j] = (s,m,e):=⟨_,_,_,rfl⟩
       have hfp:=Hpf.out _ (List.getElem_mem k1)
       have hst:=lowL_take l0 (p.map dval) j (by simpa using k1)
       rw [List.getElem_map,hxp] at hst
       rw [hxp] at hfp
       obtain ⟨X,hX⟩ : ∃ X,dval (sp,mp,ep) = X:=⟨_,rfl⟩
       rw [hX] at hst
       obtain ⟨l1,hl1⟩ : ∃ l1,lowL l0 ((p.map dval).take j) = l1:=⟨_,rfl⟩
       rw [hl1] at hst ⊢
       obtain ⟨b1,o1,hab1,p0,p1,p2⟩:=(Hat.out.below hb2).num j k1 hxp
       have hjx1:=i22x36 n c1 j (j : Int) hab1 hlt2 rfl
       have Hp : Hid (Win wr b1 (o1 + j * 3) [.bool sp,.string (bs mp),.int .i64 ep]):=win3 p0 p1 p2
       have Hfp:=lid hfp.1;have HX:=lid hX;have Hbr:=lid hb2;have Hs2:=lid hst
       have HT1:=lid ((HT.out.below Hpb.out).below hb2)
       clear hb2 hfp hX hst hxp hab1 p0 p1 p2 hl1
       have Hb : Hid (Below wr.heap.size wr wr):=Below.refl _ _
       obtain ⟨p0,p1,p2⟩:=Hp.out.w3
       have P0:=p0;have P1:=p1;have P2:=p2
       have fl:=fld_num (.bool (sgnB (dN X))) (.string (bs (nt (dN X).natAbs))) (.int .i64 (dE X))
       obtain ⟨W4,hW_W4⟩ : ∃ W4,(wr.alloc (.cells #[.bool sp,.string (bs mp),.int .i64 ep] 36)) = W4:=⟨_,rfl⟩
       have hbn : Below wr.heap.size wr W4:=by rw [<- hW_W4];exact ((Below.refl _ _).alloc (Nat.le_refl _) _)
       clear p0 p1 p2
       replace Hp:=kW Hp hbn
       have Hc : Hid (Blk W4 (wr.heap.size) 36 [.bool sp,.string (bs mp),.int .i64 ep]):=by rw [<- hW_W4];exact Blk.newAt _ _ _ (by simp)
       obtain ⟨p0,p1,p2⟩:=Hp.out.w3
       obtain ⟨c0,c1,c2⟩:=Hc.out.c3
       replace Hb:=bnx Hb hbn;clear hbn
       have HT : Hid (Tab W4):=HT1.out.below Hb.out
       go_wp2_with fail
       refine (form_any sp mp ep X HX.out _ Hfp.out HT.out).mono ?_
       rintro e w5 ⟨rfl,hbn⟩
       clear p0 p1 p2
       clear c0 c1 c2
       replace Hp:=kW Hp hbn
       replace Hc:=kB Hc hbn
       replace HT:=kT HT hbn
       obtain ⟨p0,p1,p2⟩:=Hp.out.w3
       obtain ⟨c0,c1,c2⟩:=Hc.out.c3
       replace Hb:=bnx Hb hbn;clear hbn
       go_wp2
       go_roundw
       case rel=>exact ⟨j + 1,by omega,by go_num,by rw [Hs2.out],bnext Hbr.out Hb.out⟩
       case measure=>simp [intOf];omega
     . obtain rfl : j = n:=by omega
       have hpt : (p.map dval).take j = p.map dval:=List.take_of_length_le (by simp [Hpn.out])
       rw [hpt]
       go_wp2
       go_roundw
       case rel=>exact ⟨k + 1,by omega,by go_num,by rw [Hst.out],bnext Hpb.out hb2⟩
       case measure=>simp [intOf];omega
  . obtain rfl : k = L:=by omega
    have hDt : D.take k = D:=List.take_of_length_le (by rw [HDL.out];exact Nat.le_refl _)
    rw [hDt,Hlow.out]
    have Hpb:=lid pb
    clear pb hDt
    obtain ⟨wa,hwa⟩ : ∃ wa,wa = wr:=⟨_,rfl⟩
    subst hwa
    have sza:=Hpb.out.size
    go_wp2_with fail
    go_loopw [9,37] (fun s9 x wr=>∃ (i : Nat) (v : Value),i <= k /\ x = .int .i64 (i : Int) /\ v = s9 /\ OwnM wr w.heap.size n S i v /\ Below w.heap.size w wr) (fun _ x _=>k - (intOf x).toNat)
    case atStart=>exact ⟨0,_,Nat.zero_le _,rfl,rfl,OwnM.nil _ _ _ _,Hpb.out⟩
    case round=>
     clear Hpb sza
     obtain ⟨i,v,hk,rfl,rfl,pv,pb⟩:=hrel
     by_cases hlt : i < k
     . have hk2 : i < rows.length:=by rw [HL.out];exact hlt
       have hk3 : i < D.length:=by rw [HDL.out];exact hlt
       obtain ⟨p,hpp⟩ : ∃ p,rows[i] = p:=⟨_,rfl⟩
       obtain ⟨b,o,a1,c1,hab,hc1,hat⟩:=(Ha.out.below pb).row i hk2
       have hpn : p.length = n:=by rw [<- hpp];exact Hrow.out _ (List.getElem_mem hk2)
       have hpf : ∀ x ∈ p,Fit B x:=by rw [<- hpp];exact Hfit.out _ (List.getElem_mem hk2)
       have hDp:=HDk.out i hk2 hk3
       have hSp:=HSk.out i hk3
       have hpl:=Hlo.out.2 _ (List.getElem_mem hk3)
       rw [hpp] at hc1 hat hDp
       rw [hDp] at hSp hpl
       rw [hpn] at hc1
       have hix1:=i131x22 k cap i (i : Int) hab hlt rfl
       rw [Nat.mul_one] at hix1
       obtain ⟨Z,hZ⟩ : ∃ Z,(p.map dval).map (sclI low) = Z:=⟨_,rfl⟩
       rw [hZ] at hSp
       have Hat:=lid hat;have Hpn:=lid hpn;have Hpf:=lid hpf;have HSp:=lid hSp;have HZ:=lid hZ;have Hpl:=lid hpl;have Hpb:=lid pb;have Hpv:=lid pv
       clear hat hpn hpf hSp hZ hpl pb pv hab hpp hDp hk2 hk3
       obtain ⟨wc,hwc⟩ : ∃ wc,wc = wr:=⟨_,rfl⟩
       subst hwc
       have szr:=Hpb.out.size
       go_wp2_with fail
       go_loopw [12,43] (fun s12 x wr=>∃ (j : Nat) (v2 : Value),j <= n /\ x = .int .i64 (j : Int) /\ v2 = s12 /\ wr.ownsRow wc.heap.size 34 2 v2 j (zC (Z.take j)) /\ Below wc.heap.size wc wr) (fun _ x _=>n - (intOf x).toNat)
       case atStart=>exact ⟨0,_,Nat.zero_le _,rfl,rfl,World.ownsRow_nil _ _ _ _,Below.refl _ _⟩
       case round=>
        clear hc1
        obtain ⟨j,v2,hj,rfl,rfl,ho,hb2⟩:=hrel
        by_cases hlt2 : j < n
        . have k1 : j < p.length:=by rw [Hpn.out];exact hlt2
          obtain ⟨sp,mp,ep,hxp⟩ : ∃ s m e,p[j] = (s,m,e):=⟨_,_,_,rfl⟩
          have hfp:=Hpf.out _ (List.getElem_mem k1)
          rw [hxp] at hfp
          obtain ⟨X,hX⟩ : ∃ X,dval (sp,mp,ep) = X:=⟨_,rfl⟩
          have hle : low <= dE X:=Hpl.out X (by rw [<- hX,<- hxp];exact List.mem_map_of_mem (List.getElem_mem k1))
          have hXs : Sm B X:=by rw [<- hX];exact hfp.2
          have hXo:=(hXs.fit (by omega)).1
          have hXl : (nt (dN X).natAbs).length <= 268435456:=hXo.1
          have hXe : -268435456 <= dE X /\ dE X <= 268435456:=hXo.2
          obtain ⟨Y,hY⟩ : ∃ Y,sclI low X = Y:=⟨_,rfl⟩
          have hlb:=Hlb.out
          have hl0:=Hlo.out.1
          obtain ⟨t,ht⟩ : ∃ t : Int,dE X - low = t:=⟨_,rfl⟩
          have hwr : IntKind.i64.wrap (dE X - low) = t:=by rw [IntKind.wrap_i64];omega
          have hsh : ∀ W,Calls Tryz.prog 69 #[.agg #[.bool (sgnB (dN X)),.string (bs (nt (dN X).natAbs))],.int .i64 t] W fun e w'=>e = .returned (intV Y) /\ Below W.heap.size W w':=by
           intro W
           have h:=wShl_any (sgnB (dN X)) (nt (dN X).natAbs) (dE X - low).toNat W (by omega) (by omega)
           rw [iv_int,show ((dE X - low).toNat : Int) = t by omega] at h
           rw [<- hY]
           exact h
          have Hst : Hid (zC (Z.take (j + 1)) = zC (Z.take j) ++ [.bool (sgnB Y),.string (bs (nt Y.natAbs))]):=by
           show _ = _
           rw [<- HZ.out,List.take_succ_eq_append_getElem (by simpa using k1),zC_append]
           congr 1
           simp only [List.getElem_map,hxp,hX,hY]
           rfl
          obtain ⟨b1,o1,hab1,p0,p1,p2⟩:=(Hat.out.below hb2).num j k1 hxp
          have hjx1:=i22x36 n c1 j (j : Int) hab1 hlt2 rfl
          have Hp : Hid (Win wr b1 (o1 + j * 3) [.bool sp,.string (bs mp),.int .i64 ep]):=win3 p0 p1 p2
          have Hfp:=lid hfp.1;have HX:=lid hX;have Ho:=lid ho;have Hb2:=lid hb2;have Hsh:=lid hsh;have Hwr:=lid hwr
          have HT1:=lid ((HT.out.below Hpb.out).below hb2)
          have sz2:=hb2.size
          clear ho hb2 hfp hX hxp hab1 p0 p1 p2 hle hXs hXo hXl hXe hY hlb hl0 ht hsh hwr
          have Hb : Hid (Below wr.heap.size wr wr):=Below.refl _ _
          obtain ⟨p0,p1,p2⟩:=Hp.out.w3
          have P0:=p0;have P1:=p1;have P2:=p2
          obtain ⟨W4,hW_W4⟩ : ∃ W4,(wr.alloc (.cells #[.bool sp,.string (bs mp),.int .i64 ep] 36)) = W4:=⟨_,rfl⟩
          have hbn : Below wr.heap.size wr W4:=by rw [<- hW_W4];exact ((Below.refl _ _).alloc (Nat.le_refl _) _)
          clear p0 p1 p2
          replace Hp:=kW Hp hbn
          have Hc : Hid (Blk W4 (wr.heap.size) 36 [.bool sp,.string (bs mp),.int .i64 ep]):=by rw [<- hW_W4];exact Blk.newAt _ _ _ (by simp)
          obtain ⟨p0,p1,p2⟩:=Hp.out.w3
          obtain ⟨c0,c1,c2⟩:=Hc.out.c3
          replace Hb:=bnx Hb hbn;clear hbn
          have HT : Hid (Tab W4):=HT1.out.below Hb.out
          go_wp2_with fail
          refine (form_any sp mp ep X HX.out _ Hfp.out HT.out).mono ?_
          rintro e w5 ⟨rfl,hbn⟩
          clear p0 p1 p2
          clear c0 c1 c2
          replace Hp:=kW Hp hbn
          replace Hc:=kB Hc hbn
          replace HT:=kT HT hbn
          obtain ⟨p0,p1,p2⟩:=Hp.out.w3
          obtain ⟨c0,c1,c2⟩:=Hc.out.c3
          replace Hb:=bnx Hb hbn;clear hbn
          have lz_c_W6:=Hc.out.lt
          obtain ⟨W6,hW_W6⟩ : ∃ W6,(w5.alloc (.cells #[.bool (sgnB (dN X)),.string (bs (nt (dN X).natAbs)),.int .i64 (dE X)] 36)) = W6:=⟨_,rfl⟩
          have hbn : Below w5.heap.size w5 W6:=by rw [<- hW_W6];exact ((Below.refl _ _).alloc (Nat.le_refl _) _)
          clear p0 p1 p2
          replace Hp:=kW Hp hbn
          clear c0 c1 c2
          replace Hc:=kB Hc hbn
          replace HT:=kT HT hbn
          have Hy : Hid (Blk W6 (w5.heap.size) 36 [.bool (sgnB (dN X)),.string (bs (nt (dN X).natAbs)),.int .i64 (dE X)]):=by rw [<- hW_W6];exact Blk.newAt _ _ _ (by simp)
          obtain ⟨p0,p1,p2⟩:=Hp.out.w3
          obtain ⟨c0,c1,c2⟩:=Hc.out.c3
          obtain ⟨y0,y1,y2⟩:=Hy.out.c3
          replace Hb:=bnx Hb hbn;clear hbn
          have hwr:=Hwr.out
          go_wp2_with fail
          refine (Hsh.out _).mono ?_
          rintro e w7 ⟨rfl,hbn⟩
          clear p0 p1 p2
          clear c0 c1 c2
          clear y0 y1 y2
          replace Hp:=kW Hp hbn
          replace Hc:=kB Hc hbn
          replace HT:=kT HT hbn
          replace Hy:=kB Hy hbn
          obtain ⟨p0,p1,p2⟩:=Hp.out.w3
          obtain ⟨c0,c1,c2⟩:=Hc.out.c3
          obtain ⟨y0,y1,y2⟩:=Hy.out.c3
          replace Hb:=bnx Hb hbn;clear hbn
          clear hwr
          have lz_c_W8:=Hc.out.lt
          have lz_y_W8:=Hy.out.lt
          obtain ⟨W8,hW_W8⟩ : ∃ W8,(w7.alloc (.cells #[.bool (sgnB Y),.string (bs (nt Y.natAbs))] 34)) = W8:=⟨_,rfl⟩
          have hbn : Below w7.heap.size w7 W8:=by rw [<- hW_W8];exact ((Below.refl _ _).alloc (Nat.le_refl _) _)
          clear p0 p1 p2
          replace Hp:=kW Hp hbn
          clear c0 c1 c2
          replace Hc:=kB Hc hbn
          replace HT:=kT HT hbn
          clear y0 y1 y2
          replace Hy:=kB Hy hbn
          have Hd : Hid (Blk W8 (w7.heap.size) 34 [.bool (sgnB Y),.string (bs (nt Y.natAbs))]):=by rw [<- hW_W8];exact Blk.newAt _ _ _ (by simp)
          obtain ⟨p0,p1,p2⟩:=Hp.out.w3
          obtain ⟨c0,c1,c2⟩:=Hc.out.c3
          obtain ⟨y0,y1,y2⟩:=Hy.out.c3
          obtain ⟨d0,d1⟩:=Hd.out.c2
          replace Hb:=bnx Hb hbn;clear hbn
          have hv6:=ownsRow_below Ho.out Hb.out
          have hs6:=Hb.out.size
          have hnews:=blk_news Hd.out
          clear d0 d1
          go_wp2_with (at_builtin;refine wpList_append_own_at _ rfl _ _ 123 rfl wc.heap.size 34 i0 _ 2 24 Tryz.underlying123 Hi.out Hz0.out Hz1.out Hz2.out rfl (by decide) v2 j (zC (Z.take j)) rfl hv6 ⟨w7.heap.size,0,none⟩ 1 1 [.bool (sgnB Y),.string (bs (nt Y.natAbs))] rfl rfl hnews (by simp [Value.oneCell']) (by simp [maxLen];omega) (by omega) (by omega) ?_;intro v' w9 ho9 hg9 _ _;obtain ⟨g',cq2,rfl⟩:=ownsRow_succ ho9)
          go_roundw
          case rel=>
           refine ⟨j + 1,_,by omega,by go_num,rfl,?_,?_⟩
           . rw [Hst.out];exact ho9
           . exact (bnext Hb2.out Hb.out).grown hg9 (by omega) (fun j e=>ownsRow_base hv6 j e)
          case measure=>simp [intOf];omega
        . obtain rfl : j = n:=by omega
          have hZn : Z.take j = Z:=List.take_of_length_le (by rw [<- HZ.out];simp [Hpn.out])
          rw [hZn] at ho
          obtain ⟨a2,cap2,rfl,_,_⟩:=ownsRow_at ho
          have hlt3:=ho.lt
          obtain ⟨vals,hvl,hov,hvi,hvd⟩:=Hpv.out
          have hfr : ∀ g,(Value.slice a2 j cap2).ownBlock = some g -> ∀ m (h : m < vals.length),vals[m].ownBlock ≠ some g:=by
           intro g h1 m h2 h3
           have:=(hlt3 g h1).1
           have:=((hvi m h2).lt g h3).2
           omega
          have Hfr:=lid hfr;have Hvl:=lid hvl;have Hvi:=lid hvi;have Hov:=lid hov;have Hb2:=lid hb2;have Hvd:=lid hvd;have Ho:=lid ho
          have Hb : Hid (Below wr.heap.size wr wr):=Below.refl _ _
          have sz2:=hb2.size
          clear hfr hvl hov hvi hb2 hvd hlt3 hZn ho hlt2 hj
          obtain ⟨W6,hW_W6⟩ : ∃ W6,(wr.alloc (.cells #[.slice a2 j cap2] 123)) = W6:=⟨_,rfl⟩
          have hbn : Below wr.heap.size wr W6:=by rw [<- hW_W6];exact ((Below.refl _ _).alloc (Nat.le_refl _) _)
          have Hd : Hid (Blk W6 (wr.heap.size) 123 [.slice a2 j cap2]):=by rw [<- hW_W6];exact Blk.newAt _ _ _ (by simp)
          have d0:=Hd.out.c1
          replace Hb:=bnx Hb hbn;clear hbn
          have hB6:=bnext Hb2.out Hb.out
          have hv6:=ownsRow_below Hov.out hB6
          have hs6:=Hb.out.size
          have hnews : ∀ i u,([.slice a2 j cap2] : List Value)[i]? = some u -> W6.cell? ((⟨wr.heap.size,0,none⟩ : Addr).add i) = some u:=blk_news Hd.out
          clear d0
          go_wp2_with (at_builtin;refine wpList_append_own_at _ rfl _ _ 155 rfl w.heap.size 123 j0 _ 1 24 Tryz.underlying155 Hj.out Hy0.out Hy1.out Hy2.out rfl (by decide) v i vals rfl hv6 ⟨wr.heap.size,0,none⟩ 1 1 [.slice a2 j cap2] rfl rfl hnews (by simp [Value.oneCell']) (by simp [maxLen];omega) (by omega) (by omega) ?_;intro v' w7 ho7 hg7 _ _;obtain ⟨g',cq2,rfl⟩:=ownsRow_succ ho7)
          go_roundw
          case rel=>
           refine ⟨i + 1,_,by omega,by go_num,rfl,?_,?_⟩
           . refine OwnM.push (w:=W6) Hvl.out hv6 (fun m h=>ownsRow_below (Hvi.out m h) hB6) Hvd.out ?_ Hfr.out ho7 hg7
             rw [HSp.out]
             exact ownsRow_mono (ownsRow_below Ho.out Hb.out) (by omega)
           . exact (bnext Hpb.out hB6).grown hg7 (by omega) (fun j e=>ownsRow_base hv6 j e)
          case measure=>simp [intOf];omega
     . obtain rfl : i = k:=by omega
       have Hpb:=lid pb;have Hpv:=lid pv
       clear pb pv
       have hnl:=Hnl.out
       go_wp2
       refine bodyPost_ret (v:=.tuple #[v,.int .i64 nl]) (by simp [results,Tryz.results100,go_sem]) rfl ⟨v,rfl,Hpv.out,Hpb.out⟩
end Go.Proofs.YtidjljldhdckiaaGreatDoor
namespace Go.Proofs.YtidjljldhdckiaaGreatDoor
open Go.RowKit
theorem own_cell {w : World} {base : Nat} {e : TypeId} {size n cap g : Nat} {xs : List Value} (h : w.ownsRow base e size (.slice (some ⟨g,0,none⟩) n cap) n xs) (j : Nat) (hj : j < xs.length) : w.cell? ⟨g,j,none⟩ = some xs[j]:=by
 rcases h.2 with ⟨h1,_⟩ | ⟨g',cap',cur,h1,_,hg,_,_,_,hx⟩
 . simp at h1
 . simp only [Value.slice.injEq,Option.some.injEq,Addr.mk.injEq,and_true,true_and] at h1
   obtain ⟨rfl,rfl⟩:=h1
   have h2 : cur.toList.take (n * size) = xs:=hx
   have h3 : cur.toList[j]? = some xs[j]:=by
    rw [<- List.getElem?_eq_getElem hj]
    simp only [<- h2]
    rw [List.getElem?_take]
    rw [<- h2,List.length_take] at hj
    rw [if_pos (Nat.lt_of_lt_of_le hj (Nat.min_le_left _ _))]
   have h4 : Blk w g e cur.toList:=by unfold Blk;simpa using hg
   rw [h4.cell]
   exact h3
theorem own_set {w : World} {base : Nat} {e : TypeId} {size n cap g : Nat} {xs : List Value} (h : w.ownsRow base e size (.slice (some ⟨g,0,none⟩) n cap) n xs) (j : Nat) (u : Value) : (w.setCell ⟨g,j,none⟩ u).ownsRow base e size (.slice (some ⟨g,0,none⟩) n cap) n (xs.set j u):=by
 refine ⟨by rw [List.length_set];exact h.1,?_⟩
 rcases h.2 with ⟨h1,_⟩ | ⟨g',cap',cur,h1,hb,hg,h4,h5,h6,hx⟩
 . simp at h1
 . simp only [Value.slice.injEq,Option.some.injEq,Addr.mk.injEq,and_true,true_and] at h1
   obtain ⟨rfl,rfl⟩:=h1
   refine .inr ⟨g,cap,cur.setIfInBounds j u,rfl,hb,?_,h4,h5,by simpa using h6,?_⟩
   . simp [World.setCell,Array.getElem?_modify,hg]
   . rw [<- hx];simp [List.take_set]
theorem zC_len (zs : List Int) : (zC zs).length = zs.length * 2:=flat_length iC 2 (fun _=>rfl) zs
theorem zC_at (zs : List Int) (j : Nat) (hj : j < zs.length) : (zC zs)[j * 2]? = some (.bool (sgnB zs[j])) /\ (zC zs)[j * 2 + 1]? = some (.string (bs (nt zs[j].natAbs))):=by
 induction zs generalizing j with
 | nil=>simp at hj
 | cons z zs ih =>
   have e : zC (z :: zs) = .bool (sgnB z) :: .string (bs (nt z.natAbs)) :: zC zs:=rfl
   rw [e]
   cases j with
   | zero=>exact ⟨rfl,rfl⟩
   | succ j =>
     have:=ih j (by simpa using hj)
     rw [show (j + 1) * 2 = j * 2 + 1 + 1 by omega]
     simpa using this
theorem zC_set (zs : List Int) (j : Nat) (hj : j < zs.length) (y : Int) : ((zC zs).set (j * 2) (.bool (sgnB y))).set (j * 2 + 1) (.string (bs (nt y.natAbs))) = zC (zs.set j y):=by
 induction zs generalizing j with
 | nil=>simp at hj
 | cons z zs ih =>
   have e : zC (z :: zs) = .bool (sgnB z) :: .string (bs (nt z.natAbs)) :: zC zs:=rfl
   rw [e]
   cases j with
   | zero=>rfl
   | succ j =>
     have:=ih j (by simpa using hj)
     rw [show (j + 1) * 2 = j * 2 + 1 + 1 by omega]
     simp only [List.set_cons_succ]
     rw [this]
     rfl
theorem OwnM.num {w : World} {base n L : Nat} {R : List (List Int)} {v : Value} (h : OwnM w base n R L v) (i j : Nat) (hi : i < L) (hj : j < n) (hR : R.length = L) (hr : (R.getD i []).length = n) :
 ∃ go cap g c,v = .slice (some ⟨go,0,none⟩) L cap /\ base <= go /\ base <= g /\ g ≠ go /\ w.cell? ⟨go,i,none⟩ = some (.slice (some ⟨g,0,none⟩) n c) /\
  w.cell? ⟨g,j * 2,none⟩ = some (.bool (sgnB ((R.getD i []).getD j 0))) /\ w.cell? ⟨g,j * 2 + 1,none⟩ = some (.string (bs (nt ((R.getD i []).getD j 0).natAbs))) /\
  ∀ y : Int,OwnM ((w.setCell ⟨g,j * 2,none⟩ (.bool (sgnB y))).setCell ⟨g,j * 2 + 1,none⟩ (.string (bs (nt y.natAbs)))) base n (R.set i ((R.getD i []).set j y)) L v:=by
 obtain ⟨vals,hl,ho,hv,hd⟩:=h
 have hi2 : i < vals.length:=by omega
 have hrow:=hv i hi2
 have hxl : (zC (R.getD i [])).length = n * 2:=by rw [zC_len,hr]
 obtain ⟨a0,cap,rfl,_,_⟩:=ownsRow_at ho
 obtain ⟨a1,c,e1,_,hab⟩:=ownsRow_at hrow
 rw [e1] at hrow
 rcases ho.2 with ⟨h1,_⟩ | ⟨go,cap',cur,h1,hbo,hgo,_⟩
 . simp at h1;omega
 simp only [Value.slice.injEq,true_and] at h1
 obtain ⟨rfl,rfl⟩:=h1
 rcases hrow.2 with ⟨h1,_⟩ | ⟨g,c',cur',h1,hbg,hgg,_⟩
 . simp at h1;omega
 simp only [Value.slice.injEq,true_and] at h1
 obtain ⟨rfl,rfl⟩:=h1
 have hne : g ≠ go:=by
  rintro rfl
  rw [hgo] at hgg;simp at hgg
 have hat:=zC_at (R.getD i []) j (by omega)
 have hg0 : (R.getD i []).getD j 0 = (R.getD i [])[j]'(by omega):=by
  rw [List.getD_eq_getElem?_getD,List.getElem?_eq_getElem (by omega)];rfl
 have hc0:=own_cell hrow (j * 2) (by omega)
 have hc1:=own_cell hrow (j * 2 + 1) (by omega)
 rw [<- List.getElem?_eq_getElem] at hc0 hc1
 rw [hat.1] at hc0
 rw [hat.2] at hc1
 refine ⟨go,cap,g,c,rfl,hbo,hbg,hne,?_,by rw [hg0];exact hc0,by rw [hg0];exact hc1,fun y=>?_⟩
 . rw [own_cell ho i (by omega),e1]
 . refine ⟨vals,hl,?_,fun m hm=>?_,hd⟩
   . exact ownsRow_setCell_other (ownsRow_setCell_other ho (by simpa [Value.ownBlock] using hne.symm) _) (by simpa [Value.ownBlock] using hne.symm) _
   . by_cases hmi : m = i
     . subst hmi
       have hs : (R.set m ((R.getD m []).set j y)).getD m [] = (R.getD m []).set j y:=by
        rw [List.getD_eq_getElem?_getD,List.getElem?_set_self (by omega)];rfl
       rw [hs,e1,<- zC_set _ _ (by omega)]
       exact own_set (own_set hrow _ _) _ _
     . have hs : (R.set i ((R.getD i []).set j y)).getD m [] = R.getD m []:=by
        rw [List.getD_eq_getElem?_getD,List.getElem?_set_ne (fun e=>hmi e.symm),<- List.getD_eq_getElem?_getD]
       rw [hs]
       have hno : vals[m].ownBlock ≠ some g:=fun e=>hmi (hd m i hm hi2 g e (by rw [e1];rfl))
       exact ownsRow_setCell_other (ownsRow_setCell_other (hv m hm) hno _) hno _
def swp (i m k : Nat) : Nat:=if k = i then m else if k = m then i else k
theorem swp_inj {i m a b : Nat} (h : swp i m a = swp i m b) : a = b:=by
 unfold swp at h
 repeat' split at h
 all_goals omega
theorem swp_lt {i m k L : Nat} (hi : i < L) (hm : m < L) (hk : k < L) : swp i m k < L:=by
 unfold swp
 repeat' split
 all_goals omega
theorem set_set_getD {α : Type} (l : List α) (d : α) (i m : Nat) (hi : i < l.length) (hm : m < l.length) (k : Nat) (hk : k < l.length) : ((l.set i (l.getD m d)).set m (l.getD i d)).getD k d = l.getD (swp i m k) d:=by
 unfold swp
 by_cases h1 : k = m
 . subst h1
   rw [List.getD_eq_getElem?_getD,List.getElem?_set_self (by simpa using hk)]
   by_cases h2 : k = i
   . subst h2;simp
   . simp [h2]
 . rw [List.getD_eq_getElem?_getD,List.getElem?_set_ne (fun e=>h1 e.symm)]
   by_cases h2 : k = i
   . subst h2
     rw [List.getElem?_set_self (by simpa using hk)];simp
   . rw [List.getElem?_set_ne (fun e=>h2 e.symm)];simp [h1,h2]
theorem OwnM.swap {w : World} {base n L go cap : Nat} {R : List (List Int)} (h : OwnM w base n R L (.slice (some ⟨go,0,none⟩) L cap)) (i m : Nat) (hi : i < L) (hm : m < L) (hR : R.length = L) :
 ∃ x y,w.cell? ⟨go,i,none⟩ = some x /\ w.cell? ⟨go,m,none⟩ = some y /\ OwnM ((w.setCell ⟨go,i,none⟩ y).setCell ⟨go,m,none⟩ x) base n ((R.set i (R.getD m [])).set m (R.getD i [])) L (.slice (some ⟨go,0,none⟩) L cap):=by
 obtain ⟨vals,hl,ho,hv,hd⟩:=h
 have hi2 : i < vals.length:=by omega
 have hm2 : m < vals.length:=by omega
 have hgo : ∀ k (hk : k < vals.length),vals[k].ownBlock ≠ some go \/ vals[k].ownBlock = none:=by
  intro k hk
  rcases row_ne (hv k hk) ho (by decide) with e | e
  . exact .inr e
  . exact .inl e
 have hel : ∀ k (hk : k < vals.length),((vals.set i vals[m]).set m vals[i])[k]'(by simpa using hk) = vals[swp i m k]'(swp_lt hi2 hm2 hk):=by
  intro k hk
  have:=set_set_getD vals (.bool false) i m hi2 hm2 k hk
  have hs:=swp_lt hi2 hm2 hk
  simpa [List.getD_eq_getElem?_getD,List.getElem?_eq_getElem,hi2,hm2,hk,hs] using this
 refine ⟨vals[i],vals[m],own_cell ho i (by omega),own_cell ho m (by omega),_,by simp [hl],own_set (own_set ho i _) m _,fun k hk=>?_,fun a b ha hb g e1 e2=>?_⟩
 . have hk2 : k < vals.length:=by simpa using hk
   have hs:=swp_lt hi2 hm2 hk2
   rw [hel k hk2,set_set_getD R [] i m (by omega) (by omega) k (by omega)]
   have hno : vals[swp i m k].ownBlock ≠ some go:=by
    rcases hgo _ hs with e | e
    . exact e
    . rw [e];simp
   exact ownsRow_setCell_other (ownsRow_setCell_other (hv _ hs) hno _) hno _
 . have ha2 : a < vals.length:=by simpa using ha
   have hb2 : b < vals.length:=by simpa using hb
   rw [hel a ha2] at e1
   rw [hel b hb2] at e2
   exact swp_inj (hd _ _ _ _ g e1 e2)
end Go.Proofs.YtidjljldhdckiaaGreatDoor
namespace Go.Proofs.YtidjljldhdckiaaGreatDoor
open Go.RowKit
attribute [local go_sem ↓] Go.wp_at_zero Go.wp_at_succ
def smallB (x : Raw) : Bool:=decide (x.2.1.length <= 12 /\ -60 <= x.2.2 /\ x.2.2 <= 60)
theorem smallB_fit {x : Raw} (h : smallB x = true) : Fit 192 x:=by
 obtain ⟨h1,h2,h3⟩:=of_decide_eq_true h
 exact ⟨⟨by omega,by omega,by omega⟩,Sm.raw (B:=96) (by omega) (by omega) (by omega)⟩
theorem small_any (a : Option Addr) (n cap : Nat) (raws : List Raw) (w : World) (hn : raws.length = n) (hl : n <= 1048576) (ha : At w a (raws.flatMap numC)) :
 Calls Tryz.prog 12 #[.slice a n cap] w fun e w'=>e = .returned (.bool (raws.all smallB)) /\ Below w.heap.size w w':=by
 obtain ⟨R,hR⟩ : ∃ R,raws.all smallB = R:=⟨_,rfl⟩
 rw [hR]
 have Ha:=lid ha;have Hn:=lid hn;have HR:=lid hR
 clear ha hn hR
 have Hb : Hid (Below w.heap.size w w):=Below.refl _ _
 go_enter Tryz.func12,Tryz.ntmps12
 go_wp2_with fail
 go_loopw [3] (fun x wr=>∃ k : Nat,k <= n /\ x = .int .i64 (k : Int) /\ (raws.take k).all smallB = true /\ Below w.heap.size w wr) (fun x _=>n - (intOf x).toNat)
 case atStart=>exact ⟨0,Nat.zero_le _,rfl,rfl,Hb.out⟩
 case round=>
  clear Hb
  obtain ⟨k,hk,rfl,hal,pb⟩:=hrel
  by_cases hlt : k < n
  . have hk2 : k < raws.length:=by rw [Hn.out];exact hlt
    obtain ⟨s,m,e,hx⟩ : ∃ s m e,raws[k] = (s,m,e):=⟨_,_,_,rfl⟩
    obtain ⟨b,o,hab,p0,p1,p2⟩:=(Ha.out.below pb).num k hk2 hx
    have hix:=i22x36 n cap k (k : Int) hab hlt rfl
    have hsz:=bs_size m
    have hst : (raws.take (k + 1)).all smallB = smallB (s,m,e):=by
     rw [List.take_succ_eq_append_getElem hk2,List.all_append,hal,hx];simp
    have hbad : smallB (s,m,e) = false -> R = false:=by
     intro h
     rw [<- HR.out,Bool.eq_false_iff]
     intro h5
     rw [List.all_eq_true] at h5
     have:=h5 _ (List.getElem_mem hk2)
     rw [hx,h] at this
     cases this
    have Hst:=lid hst;have Hbad:=lid hbad
    clear hst hbad hx hab hal
    by_cases h1 : 12 < m.length
    . have hr:=Hbad.out (by unfold smallB;simp;omega)
      subst hr
      have h1d : decide ((12 : Int) < (m.length : Int)) = true:=by simp;omega
      have h1e : (12 : Int) < (m.length : Int):=by omega
      go_wp2
      refine bodyPost_ret (results_tmp rfl _ _ _) rfl ⟨rfl,pb⟩
    . have h1e : ¬ (12 : Int) < (m.length : Int):=by omega
      by_cases h2 : e < -60
      . have hr:=Hbad.out (by unfold smallB;simp;omega)
        subst hr
        go_wp2
        refine bodyPost_ret (results_tmp rfl _ _ _) rfl ⟨rfl,pb⟩
      . by_cases h3 : 60 < e
        . have hr:=Hbad.out (by unfold smallB;simp;omega)
          subst hr
          go_wp2
          refine bodyPost_ret (results_tmp rfl _ _ _) rfl ⟨rfl,pb⟩
        . have hg : smallB (s,m,e) = true:=by unfold smallB;simp;omega
          go_wp2
          go_roundw
          case rel=>exact ⟨k + 1,by omega,by go_num,by rw [Hst.out];exact hg,pb⟩
          case measure=>simp [intOf];omega
  . obtain rfl : n = k:=by omega
    have hr : R = true:=by
     rw [<- HR.out]
     rw [List.take_of_length_le (by rw [Hn.out];exact Nat.le_refl _)] at hal
     exact hal
    subst hr
    go_wp2
    refine bodyPost_ret (results_tmp rfl _ _ _) rfl ⟨rfl,pb⟩
end Go.Proofs.YtidjljldhdckiaaGreatDoor
