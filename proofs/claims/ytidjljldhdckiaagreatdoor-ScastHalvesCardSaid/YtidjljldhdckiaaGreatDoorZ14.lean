/- Package simp: Products. -/
import Derived.Test.YtidjljldhdckiaaGreatDoorZ11
import Derived.Test.YtidjljldhdckiaaGreatDoorZ13
import Derived.Maps.AppendAt
import Derived.Maps.OwnIn
import Derived.Test.YtidjljldhdckiaaGreatDoorZ9
import Derived.Maps.Own
import Derived.Maps.Views
import Derived.Maps.Keyed
import Derived.Maps.OwnSet
import Derived.Carry
import Derived.Lib.BufferWrite
import Derived.Deep.WholeRow
import Derived.Test.YtidjljldhdckiaaGreatDoorZ12
set_option maxRecDepth 100000
set_option maxHeartbeats 16000000
namespace Go.Proofs.YtidjljldhdckiaaGreatDoor
open Go.RowKit Go.Shelf
theorem Tryz.infoS : (Tryz.prog.info? 9).map (fun i=>(i.zero,i.size,i.bytes)) = some (some (.string (bs [])),1,16):=by kernel_rfl
def prodsL (v d : Int) : List (List Nat):=if 1 <= v /\ v <= 8 /\ 0 <= d /\ d <= 20 /\ cnt v.toNat d.toNat <= 512 then rowsL (v.toNat + 1) d.toNat else []
def prodI (b n₀ : Nat) (pre : List (List Nat)) (Z : Nat -> Prop) (W : World) : Prop:=
 ∃ v,Blk W b 69 [v] /\ n₀ <= b /\ n₀ <= W.heap.size /\ W.ownsRow n₀ 9 1 v pre.length (pre.map fun x=>.string (ex x)) /\ Z = fun k=>k = b \/ v.ownBlock = some k
theorem prodI_minds (b n₀ : Nat) (pre : List (List Nat)) : Minds (prodI b n₀ pre):=by
 rintro Z W W' ⟨v,hB,h1,h2,ho,rfl⟩ hc
 exact ⟨v,hc.blk hB (fun h=>h (.inl rfl)),h1,Nat.le_trans h2 hc.size,ownsRow_chg ho hc (fun k hk h=>h (.inr hk)),rfl⟩
theorem prodI_lies (b n₀ : Nat) (pre : List (List Nat)) : Lies (prodI b n₀ pre):=by
 rintro Z W ⟨v,hB,h1,h2,ho,rfl⟩ k (rfl | hk)
 . exact hB.lt
 . exact (ho.lt k hk).2
attribute [local go_sem] Oper.semAt_some
theorem products_main (V D : Nat) (w : World) (hV : 1 <= V) (hV2 : V <= 8) (hD : D <= 20) (hc : cnt V D <= 512) :
 Calls Tryz.prog 26 #[.int .i64 (V : Int),.int .i64 (D : Int)] w fun e w'=>∃ v,e = .returned v /\ w'.ownsRow w.heap.size 9 1 v (rowsL (V + 1) D).length ((rowsL (V + 1) D).map fun x=>.string (ex x)) /\ Below w.heap.size w w':=by
 obtain ⟨i0,hi,hz0,hz1,hz2⟩:=info_parts Tryz.infoS
 have hcl : (rowsL (V + 1) D).length <= 512:=by rw [rowsL_count];exact hc
 have hm1 : decide (1 <= (V : Int) /\ (V : Int) <= 8 /\ 0 <= (D : Int) /\ (D : Int) <= 20) = true:=by simp;omega
 have hw1 : IntKind.i64.wrap ((V : Int) + 1) = ((V + 1 : Nat) : Int):=by rw [IntKind.wrap_i64];omega
 have hmin : ((min (cnt (V + 1 - 1) D) 513 : Nat) : Int) <= 512:=by rw [Nat.add_sub_cancel];omega
 generalize hM : ((min (cnt (V + 1 - 1) D) 513 : Nat) : Int) = M at hmin
 generalize hV1 : ((V + 1 : Nat) : Int) = V1 at hw1
 refine callsIn_wide (n:=0).1 ?_
 refine callsIn_of_wp_marks Tryz.func26 rfl trivial ?_ rfl
 simp only [Tryz.ntmps26,List.size_toArray,List.length_cons,List.length_nil,Nat.reduceAdd,Nat.reduceSub,Array.replicate_succ,Array.replicate_zero,List.push_toArray,List.append_toArray,List.nil_append,List.cons_append]
 gi_wp2
 refine ⟨trivial,rfl,?_⟩
 refine (callsIn_wide.2 (may_any V D w)).mono ?_
 rintro e w' ⟨rfl,rfl⟩
 rw [hm1]
 gi_wp2
 refine ⟨trivial,rfl,?_⟩
 rw [<- hV1]
 refine (callsIn_wide.2 (many_any (V + 1) D w' (by omega) (by omega) hD)).mono ?_
 rintro e w ⟨rfl,rfl⟩
 rw [hM,hV1]
 gi_wp2
 refine ⟨trivial,rfl,?_⟩
 obtain ⟨W0,hW0⟩ : ∃ W0,w.alloc (.cells #[.slice none 0 0] 69) = W0:=⟨_,rfl⟩
 have hB0 : Blk W0 w.heap.size 69 [.slice none 0 0]:=by rw [<- hW0];exact Blk.new _ _ _
 have hbl0 : Below w.heap.size w W0:=by rw [<- hW0];exact (Below.refl _ _).alloc (Nat.le_refl _) _
 rw [hW0]
 refine (callsIn_wide.2 (rows_any V1 D W0)).mono ?_
 rintro e w1 ⟨rfl,hB1,hB2,hbel⟩
 have hl0:=hB0.lt
 have hl2:=hB2.lt
 gi_wp2
 refine wpIn_range (gf:=66) (lb:=#[.pointer (some ⟨W0.heap.size,0,none⟩),.pointer (some ⟨W0.heap.size + 1,0,none⟩)]) rfl (enters_of Tryz.func66 (by kernel_rfl) rfl)
  (rows_gives V (by omega) W0.heap.size (W0.heap.size + 1) D (by omega)) (fun _=>rfl) (prodI w.heap.size w.heap.size) (prodI_minds _ _) (prodI_lies _ _)
  (fun b=>b = w.heap.size \/ (Value.slice none 0 0).ownBlock = some b) ?h0 ?hok ?a1 ?assign ?body ?done
 case a1=>exact fun x=>{ tmps:=#[.int .i64 (V : Int),.int .i64 (D : Int),undef,undef,.slice none 0 0,.pointer (some ⟨w.heap.size,0,none⟩),.string (ex x),.int .i64 (V : Int),.int .i64 (D : Int),.bool true,.bool false,.bool false,.int .i64 (V : Int),.int .i64 V1,.int .i64 (D : Int),.int .i64 M,.bool (decide (512 < M)),.bool (decide (512 < M)),.int .i64 (V : Int),.int .i64 V1,.int .i64 (D : Int),.func (.func 66) #[] #[.pointer (some ⟨W0.heap.size,0,none⟩),.pointer (some ⟨W0.heap.size + 1,0,none⟩)],.string (ex x),undef,undef,undef,undef,undef],defers:=[] }
 case h0=>exact ⟨_,hB0.below hbel,Nat.le_refl _,Nat.le_trans hbl0.size hbel.size,World.ownsRow_nil _ _ _ _,rfl⟩
 case hok=>
  intro W1 hg
  have hbb : Below w1.heap.size w1 W1:=⟨hg.os,hg.tape,hg.output,hg.size,fun k hk=>hg.block k hk (fun e=>by cases e)⟩
  refine ⟨by rw [hV1];exact hB1.below hbb,hB2.below hbb,?_,?_⟩
  . rintro ((h | h) | h | h)
    . omega
    . simp [Value.ownBlock] at h
    . omega
    . omega
  . rintro ((h | h) | h | h)
    . omega
    . simp [Value.ownBlock] at h
    . omega
    . omega
 case assign=>
  intro m' l' x W' K hK
  gi_wp2
  exact hK
 case body=>
  rintro m' l' pre x Zb Wb ⟨v,hBb,hn1,hn2,ho,rfl⟩ hpre hzb hszb
  have hplen : pre.length + 1 <= 512:=by have:=hpre.length_le;simp at this;omega
  obtain ⟨X,hX⟩ : ∃ X,ex x = X:=⟨_,rfl⟩
  rw [hX]
  have HX:=lid hX;clear hX
  obtain ⟨W2,hW2⟩ : ∃ W2,Wb.alloc (.cells #[.string X] 9) = W2:=⟨_,rfl⟩
  have hb2 : Below Wb.heap.size Wb W2:=by rw [<- hW2];exact (Below.refl _ _).alloc (Nat.le_refl _) _
  have hN2 : Blk W2 Wb.heap.size 9 [.string X]:=by rw [<- hW2];exact Blk.new _ _ _
  have ho2 : W2.ownsRow w.heap.size 9 1 v pre.length (pre.map fun x=>.string (ex x)):=by rw [<- hW2];exact ho.alloc _
  have hBb2:=hBb.below hb2
  have c0 : Wb.cell? ⟨w.heap.size,0,none⟩ = some v:=hBb.cell 0
  have lb:=hBb.lt
  have hnews : ∀ j u,([.string X] : List Value)[j]? = some u -> W2.cell? ((⟨Wb.heap.size,0,none⟩ : Addr).add j) = some u:=by
   intro j u hj
   cases j with
   | zero=>simp at hj;subst hj;exact hN2.cell 0
   | succ j=>simp at hj
  have hbv : some w.heap.size ≠ v.ownBlock:=Boxed.not_row (t:=69) hBb (by decide) ho
  gi_wp2_with (gi_at_builtin;refine wpListIn_append_own_at _ rfl _ _ 69 rfl w.heap.size 9 i0 (.string (bs [])) 1 16 Tryz.underlying69 hi hz0 hz1 hz2 rfl (by decide) v pre.length _ rfl ho2 ⟨Wb.heap.size,0,none⟩ 1 1 [.string X] rfl rfl hnews (by simp [Value.oneCell']) (by simp [maxLen];omega) (by omega) (by have:=hb2.size;omega) ?_;intro v' w3 ho3 hg3 _ hob;obtain ⟨g',cap',rfl⟩:=ownsRow_succ ho3;have hB3 : Blk w3 w.heap.size 69 [v]:=(hg3.block w.heap.size hBb2.lt hbv).trans hBb2;have c3 : w3.cell? ⟨w.heap.size,0,none⟩ = some v:=hB3.cell 0;have f3 : w3.frozen? ⟨w.heap.size,0,none⟩ = false:=hB3.free 0)
  have hnb : some w.heap.size ≠ (Value.slice (some ⟨g',0,none⟩) (pre.length + 1) cap').ownBlock:=Boxed.not_row (t:=69) hB3 (by decide) ho3
  refine ⟨_,⟨_,hB3.set 0 _,hn1,?_,?_,rfl⟩,?_,?_⟩
  . exact Nat.le_trans hn2 (Nat.le_trans hb2.size (Nat.le_trans hg3.size (grownBy_setCell' w3 _ _).size))
  . have:=ho3.kept (grownBy_setCell' w3 w.heap.size (Value.slice (some ⟨g',0,none⟩) (pre.length + 1) cap')) (.inr hnb.symm)
    rw [<- HX.out] at this
    simpa using this
  . refine ((Chg.of_below hb2).trans (Chg.of_grown (Y:=fun k=>k = w.heap.size \/ v.ownBlock = some k) hg3 (fun b e=>.inr e)) (fun b h=>.inl h)).trans (Chg.of_grown (Y:=fun k=>k = w.heap.size \/ v.ownBlock = some k) (grownBy_setCell' w3 w.heap.size _) (fun b e=>by cases e;exact .inl rfl)) (fun b h=>.inl h)
  . rintro k (h | h)
    . exact .inl (.inl h)
    . rcases hob with h1 | h1
      . rw [h1] at h;exact .inl (.inr h)
      . rw [h1] at h;cases h;exact .inr hb2.size
 case done=>
  rintro W3 ⟨Z3,⟨⟨v,hBb,hn1,hn2,ho,rfl⟩,hK,hz3⟩,hc3,hz4⟩
  have c0 : W3.cell? ⟨w.heap.size,0,none⟩ = some v:=hBb.cell 0
  obtain ⟨a0,cap0,rfl,hat,_⟩:=ownsRow_at ho
  gi_wp2
  refine leaves_marks [w1.heap.size] W3 (by simp) (fun D hD=>by simp at hD;subst hD;exact hK) (fun w' hc=>?_)
  refine ⟨_,results_tmp rfl _ _ _,_,rfl,ownsRow_chg ho hc (fun k hk hm=>?_),?_⟩
  . simp at hm;subst hm
    rcases hz3 _ (.inr hk) with (h1 | h1) | h1
    . omega
    . simp [Value.ownBlock] at h1
    . omega
  . have b1 : Below w.heap.size w1 W3:=hc3.below (by omega) (fun b h=>by rcases h with h | h;omega;simp [Value.ownBlock] at h)
    have b2 : Below w.heap.size W3 w':=hc.below hn2 (fun b h=>by simp at h;omega)
    exact ((hbl0.trans (hbel.mono (by omega))).trans b1).trans b2
section
attribute [local go_sem ↓] Go.wp_at_zero Go.wp_at_succ
theorem products_not (v d : Int) (w : World) (h : ¬ (1 <= v /\ v <= 8 /\ 0 <= d /\ d <= 20)) :
 Calls Tryz.prog 26 #[.int .i64 v,.int .i64 d] w fun e w'=>e = .returned (.slice none 0 0) /\ w' = w:=by
 have h1 : decide (1 <= v /\ v <= 8 /\ 0 <= d /\ d <= 20) = false:=decide_eq_false h
 go_enter Tryz.func26,Tryz.ntmps26
 go_wp2_with fail
 refine (may_any v d w).mono ?_
 rintro e w' ⟨rfl,rfl⟩
 rw [h1]
 go_wp2
 go_ret
 exact ⟨rfl,rfl⟩
theorem products_big (V D : Nat) (w : World) (hV : 1 <= V) (hV2 : V <= 8) (hD : D <= 20) (hc : ¬ cnt V D <= 512) :
 Calls Tryz.prog 26 #[.int .i64 (V : Int),.int .i64 (D : Int)] w fun e w'=>e = .returned (.slice none 0 0) /\ w' = w:=by
 have hm1 : decide (1 <= (V : Int) /\ (V : Int) <= 8 /\ 0 <= (D : Int) /\ (D : Int) <= 20) = true:=by simp;omega
 have hw1 : IntKind.i64.wrap ((V : Int) + 1) = ((V + 1 : Nat) : Int):=by rw [IntKind.wrap_i64];omega
 have hmin : ((min (cnt (V + 1 - 1) D) 513 : Nat) : Int) = 513:=by rw [Nat.add_sub_cancel];omega
 generalize hV1 : ((V + 1 : Nat) : Int) = V1 at hw1
 go_enter Tryz.func26,Tryz.ntmps26
 go_wp2_with fail
 refine (may_any V D w).mono ?_
 rintro e w' ⟨rfl,rfl⟩
 rw [hm1]
 go_wp2_with fail
 rw [<- hV1]
 refine (many_any (V + 1) D w' (by omega) (by omega) hD).mono ?_
 rintro e w ⟨rfl,rfl⟩
 rw [hmin]
 go_wp2
 go_ret
 exact ⟨rfl,rfl⟩
end
theorem products_any (v d : Int) (w : World) :
 Calls Tryz.prog 26 #[.int .i64 v,.int .i64 d] w fun e w'=>∃ a cap,e = .returned (.slice a (prodsL v d).length cap) /\ At w' a ((prodsL v d).map fun x=>.string (ex x)) /\ (∀ b o,a = some ⟨b,o,none⟩ -> w.heap.size <= b) /\ Below w.heap.size w w':=by
 unfold prodsL
 by_cases h : 1 <= v /\ v <= 8 /\ 0 <= d /\ d <= 20
 . obtain ⟨V,rfl⟩ : ∃ V : Nat,v = V:=⟨v.toNat,by omega⟩
   obtain ⟨D,rfl⟩ : ∃ D : Nat,d = D:=⟨d.toNat,by omega⟩
   simp only [Int.toNat_natCast]
   by_cases hc : cnt V D <= 512
   . rw [if_pos ⟨h.1,h.2.1,h.2.2.1,h.2.2.2,hc⟩]
     refine (products_main V D w (by omega) (by omega) (by omega) hc).mono ?_
     rintro e w' ⟨v,rfl,ho,hb⟩
     obtain ⟨a,cap,rfl,hat,hba⟩:=ownsRow_at ho
     exact ⟨a,cap,rfl,hat,hba,hb⟩
   . rw [if_neg (fun h2=>hc h2.2.2.2.2)]
     refine (products_big V D w (by omega) (by omega) (by omega) hc).mono ?_
     rintro e w' ⟨rfl,rfl⟩
     exact ⟨none,0,rfl,At.nil _ _,(fun b o e=>by cases e),Below.refl _ _⟩
 . rw [if_neg (fun h2=>h ⟨h2.1,h2.2.1,h2.2.2.1,h2.2.2.2.1⟩)]
   refine (products_not v d w h).mono ?_
   rintro e w' ⟨rfl,rfl⟩
   exact ⟨none,0,rfl,At.nil _ _,(fun b o e=>by cases e),Below.refl _ _⟩
end Go.Proofs.YtidjljldhdckiaaGreatDoor
namespace Go.Proofs.YtidjljldhdckiaaGreatDoor
open Go.RowKit
attribute [local go_sem ↓] Go.wp_at_zero Go.wp_at_succ
def chk (v d : Int) (n : Nat) : Int:=if ¬ (1 <= v /\ v <= 8 /\ 0 <= d /\ d <= 20) then 1 else if 512 < cnt v.toNat d.toNat then 3 else if n = cnt v.toNat d.toNat then 0 else 1
theorem chk_ok {v d : Int} {n : Nat} (h : chk v d n = 0) : 1 <= v /\ v <= 8 /\ 0 <= d /\ d <= 20 /\ n = cnt v.toNat d.toNat /\ n <= 512:=by
 unfold chk at h
 split at h
 . omega
 . split at h
   . omega
   . split at h
     . omega
     . omega
theorem check_any (v d : Int) (a : Option Addr) (n cap : Nat) (c : Int) (hc : chk v d n = c) (w : World) :
 Calls Tryz.prog 19 #[.agg #[.int .i64 v,.int .i64 d,.slice a n cap]] w fun e w'=>e = .returned (.int .i64 c) /\ Below w.heap.size w w':=by
 by_cases h : 1 <= v /\ v <= 8 /\ 0 <= d /\ d <= 20
 . have h1 : decide (1 <= v /\ v <= 8 /\ 0 <= d /\ d <= 20) = true:=decide_eq_true h
   obtain ⟨V,rfl⟩ : ∃ V : Nat,v = V:=⟨v.toNat,by omega⟩
   obtain ⟨D,rfl⟩ : ∃ D : Nat,d = D:=⟨d.toNat,by omega⟩
   have hw1 : IntKind.i64.wrap ((V : Int) + 1) = ((V + 1 : Nat) : Int):=by rw [IntKind.wrap_i64];omega
   obtain ⟨V1,hV1⟩ : ∃ V1,((V + 1 : Nat) : Int) = V1:=⟨_,rfl⟩
   obtain ⟨M,hM⟩ : ∃ M,((min (cnt (V + 1 - 1) D) 513 : Nat) : Int) = M:=⟨_,rfl⟩
   have Hmany : Hid (∀ W,Calls Tryz.prog 32 #[.int .i64 V1,.int .i64 (D : Int)] W fun e w'=>e = .returned (.int .i64 M) /\ Below W.heap.size W w'):=fun W=>by
    rw [<- hV1,<- hM]
    exact (many_any (V + 1) D W (by omega) (by omega) (by omega)).mono (fun e w' h=>⟨h.1,by rw [h.2];exact Below.refl _ _⟩)
   rw [hV1] at hw1
   unfold chk at hc
   rw [if_neg (by simp only [Decidable.not_not];exact h)] at hc
   simp only [Int.toNat_natCast] at hc
   rw [Nat.add_sub_cancel] at hM
   have Hmay:=lid (may_any V D)
   by_cases hb : 512 < cnt V D
   . have hM2 : M = 513:=by omega
     rw [if_pos hb] at hc
     subst hM2;subst hc
     clear hM h
     go_enter Tryz.func19,Tryz.ntmps19
     have Hb : Hid (Below w.heap.size w w):=Below.refl _ _
     go_wp2_with fail
     obtain ⟨R,hR⟩ : ∃ R : World -> Prop,(fun W=>Blk W (w.heap.size) 24 [.int .i64 V,.int .i64 D,.slice a n cap] /\ Below w.heap.size w W) = R:=⟨_,rfl⟩
     first | refine wp_world R ?hR ?_ | refine calls_world R ?hR ?_
     case hR=>subst hR;exact ⟨(Blk.newAt w _ _ (b:=w.heap.size) rfl),((Below.refl _ _).alloc (Nat.le_refl _) _)⟩
     subst hR
     rintro W ⟨qx,hbn⟩
     have Hx:=lid qx;clear qx
     obtain ⟨x0,x1,x2⟩:=Hx.out.c3
     replace Hb:=bnx Hb hbn;clear hbn
     go_wp2_with fail
     refine (Hmay.out W).mono ?_
     rintro e w1 ⟨rfl,rfl⟩
     rw [h1]
     go_wp2_with fail
     refine (Hmany.out _).mono ?_
     rintro e w2 ⟨rfl,hbn⟩
     clear x0 x1 x2
     replace Hx:=kB Hx hbn
     obtain ⟨x0,x1,x2⟩:=Hx.out.c3
     replace Hb:=bnx Hb hbn;clear hbn
     go_wp2
     go_ret
     exact ⟨rfl,Hb.out⟩
   . have hM2 : M = (cnt V D : Int):=by omega
     have hMl : M <= 512:=by omega
     rw [if_neg hb] at hc
     by_cases he : n = cnt V D
     . rw [if_pos he] at hc
       subst hc
       have hnM : (n : Int) = M:=by omega
       clear hM h hM2 hb he
       go_enter Tryz.func19,Tryz.ntmps19
       have Hb : Hid (Below w.heap.size w w):=Below.refl _ _
       go_wp2_with fail
       obtain ⟨R,hR⟩ : ∃ R : World -> Prop,(fun W=>Blk W (w.heap.size) 24 [.int .i64 V,.int .i64 D,.slice a n cap] /\ Below w.heap.size w W) = R:=⟨_,rfl⟩
       first | refine wp_world R ?hR ?_ | refine calls_world R ?hR ?_
       case hR=>subst hR;exact ⟨(Blk.newAt w _ _ (b:=w.heap.size) rfl),((Below.refl _ _).alloc (Nat.le_refl _) _)⟩
       subst hR
       rintro W ⟨qx,hbn⟩
       have Hx:=lid qx;clear qx
       obtain ⟨x0,x1,x2⟩:=Hx.out.c3
       replace Hb:=bnx Hb hbn;clear hbn
       go_wp2_with fail
       refine (Hmay.out W).mono ?_
       rintro e w1 ⟨rfl,rfl⟩
       rw [h1]
       go_wp2_with fail
       refine (Hmany.out _).mono ?_
       rintro e w2 ⟨rfl,hbn⟩
       clear x0 x1 x2
       replace Hx:=kB Hx hbn
       obtain ⟨x0,x1,x2⟩:=Hx.out.c3
       replace Hb:=bnx Hb hbn;clear hbn
       go_wp2_with fail
       refine wp_region_plan (fun w'=>w'.cell? ⟨w.heap.size,0,none⟩ = some (.int .i64 V) /\ w'.cell? ⟨w.heap.size,1,none⟩ = some (.int .i64 D) /\ w'.cell? ⟨w.heap.size,2,none⟩ = some (.slice a n cap)) (fun i=>Nat.blt i 100000) [(0,true),(1,true),(2,true),(3,true),(4,true),(5,true),(6,true),(7,true),(8,false),(9,true),(10,true)] (by kernel_rfl) (by kernel_rfl) rfl (by kernel_rfl) (fun o c a v w=>by cases o.dst<;>exact id) ⟨x0,x1,x2⟩ ?_
       iterate 8 (refine planT rfl rfl (v:=?_) (fun w' hw'=>?_) ?_;rotate_left;(focus obtain ⟨q0,q1,q2⟩:=hw';go_simp;try with_reducible rfl);try simp only [Act.put,U1,U2,U3])
       refine planF rfl rfl (fun K hK=>?_)
       go_simp
       with_reducible refine (Hmany.out _).mono ?_
       rintro e w3 ⟨rfl,hq⟩
       have hbn : Below w2.heap.size w2 w3:=by first | exact hq | exact bundrew hq
       clear x0 x1 x2
       replace Hx:=kB Hx hbn
       obtain ⟨x0,x1,x2⟩:=Hx.out.c3
       replace Hb:=bnx Hb hbn;clear hbn
       refine hK _ _ (fun _=>⟨x0,x1,x2⟩) ?_;clear hK K
       try simp only [Act.put,U1,U2,U3]
       iterate 2 (refine planT rfl rfl (v:=?_) (fun w' hw'=>?_) ?_;rotate_left;(focus go_simp;try with_reducible rfl);try simp only [Act.put,U1,U2,U3])
       simp only [wpPlan]
       go_wp2
       go_ret
       exact ⟨rfl,Hb.out⟩
     . rw [if_neg he] at hc
       subst hc
       have hnM : ¬ (n : Int) = M:=by omega
       have hnM2 : ((n : Int) != M) = true:=by simp [hnM]
       clear hM h hM2 hb he
       go_enter Tryz.func19,Tryz.ntmps19
       have Hb : Hid (Below w.heap.size w w):=Below.refl _ _
       go_wp2_with fail
       obtain ⟨R,hR⟩ : ∃ R : World -> Prop,(fun W=>Blk W (w.heap.size) 24 [.int .i64 V,.int .i64 D,.slice a n cap] /\ Below w.heap.size w W) = R:=⟨_,rfl⟩
       first | refine wp_world R ?hR ?_ | refine calls_world R ?hR ?_
       case hR=>subst hR;exact ⟨(Blk.newAt w _ _ (b:=w.heap.size) rfl),((Below.refl _ _).alloc (Nat.le_refl _) _)⟩
       subst hR
       rintro W ⟨qx,hbn⟩
       have Hx:=lid qx;clear qx
       obtain ⟨x0,x1,x2⟩:=Hx.out.c3
       replace Hb:=bnx Hb hbn;clear hbn
       go_wp2_with fail
       refine (Hmay.out W).mono ?_
       rintro e w1 ⟨rfl,rfl⟩
       rw [h1]
       go_wp2_with fail
       refine (Hmany.out _).mono ?_
       rintro e w2 ⟨rfl,hbn⟩
       clear x0 x1 x2
       replace Hx:=kB Hx hbn
       obtain ⟨x0,x1,x2⟩:=Hx.out.c3
       replace Hb:=bnx Hb hbn;clear hbn
       go_wp2_with fail
       refine wp_region_plan (fun w'=>w'.cell? ⟨w.heap.size,0,none⟩ = some (.int .i64 V) /\ w'.cell? ⟨w.heap.size,1,none⟩ = some (.int .i64 D) /\ w'.cell? ⟨w.heap.size,2,none⟩ = some (.slice a n cap)) (fun i=>Nat.blt i 100000) [(0,true),(1,true),(2,true),(3,true),(4,true),(5,true),(6,true),(7,true),(8,false),(9,true),(10,true)] (by kernel_rfl) (by kernel_rfl) rfl (by kernel_rfl) (fun o c a v w=>by cases o.dst<;>exact id) ⟨x0,x1,x2⟩ ?_
       iterate 8 (refine planT rfl rfl (v:=?_) (fun w' hw'=>?_) ?_;rotate_left;(focus obtain ⟨q0,q1,q2⟩:=hw';go_simp;try with_reducible rfl);try simp only [Act.put,U1,U2,U3])
       refine planF rfl rfl (fun K hK=>?_)
       go_simp
       with_reducible refine (Hmany.out _).mono ?_
       rintro e w3 ⟨rfl,hq⟩
       have hbn : Below w2.heap.size w2 w3:=by first | exact hq | exact bundrew hq
       clear x0 x1 x2
       replace Hx:=kB Hx hbn
       obtain ⟨x0,x1,x2⟩:=Hx.out.c3
       replace Hb:=bnx Hb hbn;clear hbn
       refine hK _ _ (fun _=>⟨x0,x1,x2⟩) ?_;clear hK K
       try simp only [Act.put,U1,U2,U3]
       iterate 2 (refine planT rfl rfl (v:=?_) (fun w' hw'=>?_) ?_;rotate_left;(focus go_simp;try with_reducible rfl);try simp only [Act.put,U1,U2,U3])
       simp only [wpPlan]
       go_wp2
       go_ret
       exact ⟨rfl,Hb.out⟩
 . have h1 : decide (1 <= v /\ v <= 8 /\ 0 <= d /\ d <= 20) = false:=decide_eq_false h
   unfold chk at hc
   rw [if_pos h] at hc
   subst hc
   have Hmay:=lid (may_any v d)
   clear h
   go_enter Tryz.func19,Tryz.ntmps19
   have Hb : Hid (Below w.heap.size w w):=Below.refl _ _
   go_wp2_with fail
   obtain ⟨R,hR⟩ : ∃ R : World -> Prop,(fun W=>Blk W (w.heap.size) 24 [.int .i64 v,.int .i64 d,.slice a n cap] /\ Below w.heap.size w W) = R:=⟨_,rfl⟩
   first | refine wp_world R ?hR ?_ | refine calls_world R ?hR ?_
   case hR=>subst hR;exact ⟨(Blk.newAt w _ _ (b:=w.heap.size) rfl),((Below.refl _ _).alloc (Nat.le_refl _) _)⟩
   subst hR
   rintro W ⟨qx,hbn⟩
   have Hx:=lid qx;clear qx
   obtain ⟨x0,x1,x2⟩:=Hx.out.c3
   replace Hb:=bnx Hb hbn;clear hbn
   go_wp2_with fail
   refine (Hmay.out W).mono ?_
   rintro e w1 ⟨rfl,rfl⟩
   rw [h1]
   go_wp2
   go_ret
   exact ⟨rfl,Hb.out⟩
theorem has_any (v d : Int) (a : Option Addr) (n cap : Nat) (j : Int) (w : World) :
 Calls Tryz.prog 20 #[.agg #[.int .i64 v,.int .i64 d,.slice a n cap],.int .i64 j] w fun e w'=>e = .returned (.bool (decide (0 <= j /\ j <= v))) /\ Below w.heap.size w w':=by
 go_enter Tryz.func20,Tryz.ntmps20
 by_cases h : 0 <= j
 . go_wp2
   go_ret
   exact ⟨by simp [h],(Below.refl _ _).alloc (Nat.le_refl _) _⟩
 . go_wp2
   go_ret
   exact ⟨by simp;omega,(Below.refl _ _).alloc (Nat.le_refl _) _⟩
end Go.Proofs.YtidjljldhdckiaaGreatDoor
namespace Go.Proofs.YtidjljldhdckiaaGreatDoor
open Go.RowKit
theorem Tryz.zeroI (w : World) : (zeroValue 3).run Tryz.prog w = .ok (.int .i64 0) w:=by
 obtain ⟨i0,hi,hz0,hz1,hz2⟩:=info_parts (show (Tryz.prog.info? 3).map (fun i=>(i.zero,i.size,i.bytes)) = some (some (.int .i64 0),1,8) by kernel_rfl)
 simp [zeroValue,typeInfo,hi,hz0]
def Mp (W : World) (b n : Nat) (f : List UInt8 -> Nat) : Prop:=
 ∃ D : DataW Unit,W.ownsMap Tryz.prog 9 (plainElem Tryz.prog 3) b n D /\ Maps.IsMap D /\ ∀ l,D.atKey (.string l) (.lit (.int .i64 0)) = .lit (.int .i64 (f l : Int))
theorem Mp.made (w : World) : Mp (w.alloc (.map #[] 0)) w.heap.size 0 (fun _=>0):=
 ⟨.map [],World.ownsMap_made w _ _ _,⟨_,rfl⟩,fun _=>rfl⟩
theorem Mp.lt {W : World} {b n : Nat} {f : List UInt8 -> Nat} (h : Mp W b n f) : b < W.heap.size:=by
 obtain ⟨D,h1,_⟩:=h
 exact h1.lt
theorem Mp.kept {W W' : World} {b n : Nat} {f : List UInt8 -> Nat} {r : Option Nat} (h : Mp W b n f) (hg : W.grownBy W' r) (hne : some b ≠ r) : Mp W' b n f:=by
 obtain ⟨D,h1,h2⟩:=h
 exact ⟨D,h1.kept hg hne,h2⟩
theorem Mp.below {W W' : World} {b n : Nat} {f : List UInt8 -> Nat} (h : Mp W b n f) (hb : Below W.heap.size W W') : Mp W' b n f:=
 h.kept (r:=none) ⟨hb.os,hb.tape,hb.output,hb.size,fun k hk _=>hb.block k hk⟩ (by simp)
theorem kM {w w' : World} {b n : Nat} {f : List UInt8 -> Nat} (h : Hid (Mp w b n f)) (k : Below w.heap.size w w') : Hid (Mp w' b n f):=h.out.below k
theorem key_of (l : List UInt8) (hl : l.length <= maxLen) : keyOf Tryz.prog 9 (.string (bs l)) = some (.string l):=by
 have:=WideMaps.keyOf_string_mk (P:=Tryz.prog) Tryz.underlying9 (s:=bs l) (by rw [bs_size];exact hl)
 exact this
theorem Mp.look {W : World} {b n : Nat} {f : List UInt8 -> Nat} (h : Mp W b n f) (l : List UInt8) (hl : l.length <= maxLen) :
 (Instr.lookup 62 (.map (some b)) (.string (bs l)) false).run Tryz.prog W = .ok (.int .i64 (f l : Int)) W:=by
 obtain ⟨D,h1,h2,h3⟩:=h
 obtain ⟨c,hrun,hat,hwc⟩:=h1.lookup_int (t:=62) (e:=3) (q:=.i64) (Maps.string_keyed Tryz.underlying9) Tryz.underlying62 Tryz.underlying3 (Tryz.zeroI W) (key_of l hl)
 rw [h3 l] at hat
 cases hat
 exact hrun
theorem Mp.put {W : World} {b n : Nat} {f : List UInt8 -> Nat} (h : Mp W b n f) (hn : n < maxLen) (l : List UInt8) (hl : l.length <= maxLen) (i : Nat) (hi : i < 9223372036854775808) :
 ∃ w',(Instr.mapUpdate 62 (.map (some b)) (.string (bs l)) (.int .i64 (i : Int))).run Tryz.prog W = .ok () w' /\ Mp w' b (n + 1) (fun l'=>if l' = l then i else f l') /\ W.grownBy w' (some b):=by
 obtain ⟨D,h1,h2,h3⟩:=h
 obtain ⟨w',hrun,ho,hg⟩:=h1.update (t:=62) (e:=3) (Maps.string_keyed Tryz.underlying9) Tryz.underlying62 hn (key_of l hl) (plainElem_int Tryz.underlying3 (show (Lit.int .i64 (i : Int)).wf = true by
  have h1 : IntKind.i64.min = -9223372036854775808:=rfl
  have h2 : IntKind.i64.max = 9223372036854775807:=rfl
  simp [Lit.wf];omega))
 refine ⟨w',hrun,⟨_,ho,ho.isMap,fun l'=>?_⟩,hg⟩
 show _ = DataW.lit (Lit.int .i64 ((if l' = l then i else f l' : Nat) : Int))
 by_cases e : l' = l
 . subst e
   rw [if_pos rfl,Maps.atKey_put_same h2 (by simp [WideAt.IsKeyLit])]
 . rw [if_neg e,Maps.atKey_put_other (by intro h;cases h;exact e rfl)]
   exact h3 l'
end Go.Proofs.YtidjljldhdckiaaGreatDoor
namespace Go.Proofs.YtidjljldhdckiaaGreatDoor
open Go.RowKit
attribute [local go_sem ↓] Go.wp_at_zero Go.wp_at_succ
theorem Mp.set {W : World} {b n : Nat} {f : List UInt8 -> Nat} (h : Mp W b n f) (a : Addr) (hne : b ≠ a.block) (u : Value) : Mp (W.setCell a u) b n f:=by
 obtain ⟨D,h1,h2⟩:=h
 exact ⟨D,h1.setCell hne u,h2⟩
def keysL (v d : Int) : List (List UInt8):=(prodsL v d).map fun x=>x.map UInt8.ofNat
def place (xs : List (List UInt8)) : Nat -> List UInt8 -> Nat
 | 0,_=>0
 | k + 1,l=>if l = xs.getD k [] then k else place xs k l
theorem place_take (xs : List (List UInt8)) (k : Nat) (hk : k < xs.length) : place xs (k + 1) = fun l=>if l = xs[k] then k else place xs k l:=by
 funext l
 simp [place,hk]
theorem keysL_length (v d : Int) : (keysL v d).length <= 512:=by
 unfold keysL prodsL
 rw [List.length_map]
 split
 . rename_i h
   rw [rowsL_count];omega
 . exact Nat.zero_le _
theorem flat_one {α : Type} (f : α -> Value) (xs : List α) : xs.flatMap (fun x=>[f x]) = xs.map f:=by
 induction xs with
 | nil=>rfl
 | cons x xs ih=>simp [ih]
theorem begin_any (v d : Int) (hlen : ∀ l ∈ keysL v d,l.length <= 255) (w : World) :
 Calls Tryz.prog 22 #[.int .i64 v,.int .i64 d] w fun e w'=>∃ bB bm,e = .returned (.agg #[.int .i64 v,.int .i64 d,.slice (some ⟨bB,0,none⟩) (keysL v d).length (keysL v d).length,.map (some bm)]) /\
  (Blk w' bB 36 (dC (List.replicate (keysL v d).length 0)) /\ w.heap.size <= bB /\ Mp w' bm (keysL v d).length (place (keysL v d) (keysL v d).length) /\ w.heap.size <= bm) /\ Below w.heap.size w w':=by
 have hK:=keysL_length v d
 have hPr:=products_any v d
 have ePr : (prodsL v d).map (fun x=>Value.string (ex x)) = (keysL v d).map (fun l=>Value.string (bs l)):=by unfold keysL;rw [List.map_map];rfl
 have eLn : (prodsL v d).length = (keysL v d).length:=by unfold keysL;rw [List.length_map]
 rw [ePr,eLn] at hPr
 generalize keysL v d = xs at *
 clear ePr eLn
 have HPr:=lid hPr;have Hlen:=lid hlen;clear hPr hlen
 go_enter Tryz.func22,Tryz.ntmps22
 have Hb : Hid (Below w.heap.size w w):=Below.refl _ _
 go_wp2_with fail
 obtain ⟨R,hR⟩ : ∃ R : World -> Prop,(fun W=>Blk W (w.heap.size) 64 [.int .i64 0,.int .i64 0,.slice none 0 0,.map none] /\ Below w.heap.size w W) = R:=⟨_,rfl⟩
 first | refine wp_world R ?hR ?_ | refine calls_world R ?hR ?_
 case hR=>subst hR;exact ⟨(Blk.newAt w _ _ (b:=w.heap.size) rfl),((Below.refl _ _).alloc (Nat.le_refl _) _)⟩
 subst hR
 rintro W ⟨qr,hbn⟩
 have Hr:=lid qr;clear qr
 obtain ⟨r0,fr0,r1,fr1,r2,fr2,r3,fr3⟩:=Hr.out.g4
 replace Hb:=bnx Hb hbn;clear hbn
 go_wp2_with fail
 refine (HPr.out _).mono ?_
 rintro e w1 ⟨a,cap,rfl,hat,_,hbn⟩
 have Hat:=lid hat;clear hat
 have lr:=Hr.out.lt
 replace Hr:=lid (Hr.out.below hbn)
 replace Hb:=lid (bnext Hb.out hbn)
 clear hbn r0 r1 r2 r3 fr0 fr1 fr2 fr3
 have lr1:=Hr.out.lt
 have hmk:=mk_nums (xs.length : Int) xs.length rfl (by omega)
 have hmm:=@run_makeMap Tryz.prog
 go_wp2_with fail
 refine wp_world (fun W2=>Blk W2 w.heap.size 64 [.int .i64 0,.int .i64 0,.slice none 0 0,.map none] /\ Blk W2 w1.heap.size 36 (dC (List.replicate xs.length 0)) /\ Mp W2 (w1.heap.size + 1) 0 (fun _=>0) /\ Blk W2 (w1.heap.size + 1 + 1) 64 [.int .i64 v,.int .i64 d,.slice (some ⟨w1.heap.size,0,none⟩) xs.length xs.length,.map (some (w1.heap.size + 1))] /\ Below w1.heap.size w1 W2)
  ⟨((Hr.out.alloc _).alloc _).alloc _,((Blk.new _ _ _).alloc _).alloc _,?_,Blk.newAt _ _ _ (by simp),(((Below.refl _ _).alloc (Nat.le_refl _) _).alloc (by simp) _).alloc (by simp<;>omega) _⟩ ?_
 . have:=Mp.made (w1.alloc (.cells (dC (List.replicate xs.length 0)).toArray 36))
   rw [World.size_alloc] at this
   exact this.kept (r:=none) (World.grownBy_alloc _ _ none) (by simp)
 rintro W2 ⟨qr,qB,qm,qn,hb2⟩
 go_loopw [22] (fun i wr=>∃ k : Nat,k <= xs.length /\ i = .int .i64 (k : Int) /\ Blk wr w.heap.size 64 [.int .i64 0,.int .i64 0,.slice none 0 0,.map none] /\ Blk wr w1.heap.size 36 (dC (List.replicate xs.length 0)) /\ Mp wr (w1.heap.size + 1) k (place xs k) /\ Blk wr (w1.heap.size + 1 + 1) 64 [.int .i64 v,.int .i64 d,.slice (some ⟨w1.heap.size,0,none⟩) xs.length xs.length,.map (some (w1.heap.size + 1))] /\ Below w1.heap.size w1 wr) (fun i _=>xs.length - (intOf i).toNat)
 case atStart=>exact ⟨0,Nat.zero_le _,rfl,qr,qB,qm,qn,hb2⟩
 case round=>
  obtain ⟨k,hk,rfl,pr,pB,pm,pn,hb3⟩:=hrel
  have HB:=lid (bnext Hb.out hb3)
  have n1 : wr.cell? ⟨w1.heap.size + 1 + 1,3,none⟩ = some (.map (some (w1.heap.size + 1))):=pn.cell 3
  by_cases hlt : k < xs.length
  . have hat2:=Hat.out.below hb3
    have hat3 : At wr a (xs.flatMap fun l=>[Value.string (bs l)]):=by rw [flat_one];exact hat2
    obtain ⟨b,o,hab,hcs⟩:=hat3.elem (f:=fun l=>[Value.string (bs l)]) (sz:=1) (fun _=>rfl) (by decide) k hlt
    have hc0 : wr.cell? ⟨b,o + k,none⟩ = some (.string (bs xs[k])):=by simpa using hcs 0 (by decide)
    have hix:=i69x9 xs.length cap k (k : Int) hab hlt rfl
    have hl0:=Hlen.out _ (List.getElem_mem hlt)
    obtain ⟨w4,hput,hm4,hg4⟩:=pm.put (by simp [maxLen];omega) xs[k] (by simp [maxLen];omega) k (by omega)
    rw [<- place_take xs k hlt] at hm4
    rw [Nat.mul_one] at hix
    go_wp2
    go_roundw
    case rel=>
     refine ⟨k + 1,by omega,by go_num,?_,?_,hm4,?_,?_⟩
     . exact (hg4.block _ pr.lt (by simp;omega)).trans pr
     . exact (hg4.block _ pB.lt (by simp)).trans pB
     . exact (hg4.block _ pn.lt (by simp)).trans pn
     . exact hb3.grown hg4 (by have:=hb3.size;omega) (fun j e=>by cases e;omega)
    case measure=>simp [intOf];omega
  . obtain rfl : k = xs.length:=by omega
    have n0 : wr.cell? ⟨w1.heap.size + 1 + 1,0,none⟩ = some (.int .i64 v):=pn.cell 0
    have n2 : wr.cell? ⟨w1.heap.size + 1 + 1,1,none⟩ = some (.int .i64 d):=pn.cell 1
    have n3 : wr.cell? ⟨w1.heap.size + 1 + 1,2,none⟩ = some (.slice (some ⟨w1.heap.size,0,none⟩) xs.length xs.length):=pn.cell 2
    have r0 : wr.cell? ⟨w.heap.size,0,none⟩ = some (.int .i64 0):=pr.cell 0
    have r1 : wr.cell? ⟨w.heap.size,1,none⟩ = some (.int .i64 0):=pr.cell 1
    have r2 : wr.cell? ⟨w.heap.size,2,none⟩ = some (.slice none 0 0):=pr.cell 2
    have r3 : wr.cell? ⟨w.heap.size,3,none⟩ = some (.map none):=pr.cell 3
    have fr0:=pr.free 0;have fr1:=pr.free 1;have fr2:=pr.free 2;have fr3:=pr.free 3
    go_wp2
    refine bodyPost_ret (v:=.agg #[.int .i64 v,.int .i64 d,.slice (some ⟨w1.heap.size,0,none⟩) xs.length xs.length,.map (some (w1.heap.size + 1))]) (by simp [results,Tryz.results22,go_sem,r0,r1,r2,r3]) rfl ⟨w1.heap.size,w1.heap.size + 1,rfl,⟨?_,by omega,?_,by omega⟩,?_⟩
    . exact (((pB.set_other ⟨w.heap.size,0,none⟩ (by dsimp only;omega) _).set_other ⟨w.heap.size,1,none⟩ (by dsimp only;omega) _).set_other ⟨w.heap.size,2,none⟩ (by dsimp only;omega) _).set_other ⟨w.heap.size,3,none⟩ (by dsimp only;omega) _
    . exact (((pm.set ⟨w.heap.size,0,none⟩ (by dsimp only;omega) _).set ⟨w.heap.size,1,none⟩ (by dsimp only;omega) _).set ⟨w.heap.size,2,none⟩ (by dsimp only;omega) _).set ⟨w.heap.size,3,none⟩ (by dsimp only;omega) _
    . exact (((HB.out.setCell (by dsimp only;omega) _).setCell (by dsimp only;omega) _).setCell (by dsimp only;omega) _).setCell (by dsimp only;omega) _
def byteC (l : List UInt8) : List Value:=l.map fun u=>.int .u8 (u.toNat : Int)
theorem byteC_ubs (l : List UInt8) : byteC l = ubs l.length (fun j=>(l.getD j 0).toNat):=by
 apply List.ext_getElem?
 intro j
 by_cases h : j < l.length
 . rw [ubs_get _ _ _ h];simp [byteC,h]
 . simp [byteC,ubs,h]
theorem to_string' {w : World} {b : Nat} {t : TypeId} {l : List UInt8} (h : Blk w b t (byteC l)) (cap : Nat) :
 (convert 67 9 (.slice (some ⟨b,0,none⟩) l.length cap)).run Tryz.prog w = .ok (.string (bs l)) w:=by
 rw [byteC_ubs] at h
 rw [to_string h cap]
 congr 2
 congr 1
 apply List.ext_getElem?
 intro j
 by_cases h : j < l.length
 . simp [h]
 . simp [h]
theorem put_conv (v d : Int) (bB bm bM nM capM n i B : Nat) (f : List UInt8 -> Nat) (ds : List Dyadic) (l : List UInt8) (s : Bool) (m : List UInt8) (e : Int) (D : Dyadic) (w : World)
 (hB : Blk w bB 36 (dC ds)) (hm : Mp w bm n f) (hconv : ∀ W,Below w.heap.size w W -> (convert 67 9 (.slice (some ⟨bM,0,none⟩) nM capM)).run Tryz.prog W = .ok (.string (bs l)) W) (hl : l.length <= 255) (hi : f l = i) (hid : i < ds.length)
 (hx : Fit B (s,m,e)) (hd : Sm B ds[i]) (hBB : B + 2 <= 268435456) (hD : ds[i] + dval (s,m,e) = D) (hT : Tab w) :
 Calls Tryz.prog 25 #[.agg #[.int .i64 v,.int .i64 d,.slice (some ⟨bB,0,none⟩) ds.length ds.length,.map (some bm)],.slice (some ⟨bM,0,none⟩) nM capM,.agg #[.bool s,.string (bs m),.int .i64 e]] w fun ex w'=>
  (∃ r,ex = .returned r) /\ Blk w' bB 36 (dC (ds.set i D)) /\ w.grownBy w' (some bB):=by
 have Hg:=lid (Win.num hB i hid)
 have HD : Hid (dval (sgnB (dN ds[i]),nt (dN ds[i]).natAbs,dE ds[i]) + dval (s,m,e) = D):=by show dval (canon ds[i]) + _ = _;rw [dval_canon];exact hD
 have Hfg : Hid (Fit B (sgnB (dN ds[i]),nt (dN ds[i]).natAbs,dE ds[i])):=hd.fit (by omega)
 have Hfx:=lid hx
 have lB:=hB.lt
 clear hD hd hx
 have hlook : ∀ W,Below w.heap.size w W -> (Instr.lookup 62 (.map (some bm)) (.string (bs l)) false).run Tryz.prog W = .ok (.int .i64 (i : Int)) W:=fun W hW=>by
  rw [<- hi];exact (hm.below hW).look l (by simp [maxLen];omega)
 have Hlook:=lid hlook
 have Hconv:=lid hconv
 clear hlook hconv
 obtain ⟨g,hg⟩ : ∃ g,ds[i] = g:=⟨_,rfl⟩
 rw [hg] at Hg HD Hfg
 clear hg
 obtain ⟨W,hW⟩ : ∃ W,(w.alloc (.cells #[.int .i64 v,.int .i64 d,.slice (some ⟨bB,0,none⟩) ds.length ds.length,.map (some bm)] 64)).alloc (.cells #[.bool s,.string (bs m),.int .i64 e] 36) = W:=⟨_,rfl⟩
 have Hb : Hid (Below w.heap.size w W):=by rw [<- hW];exact ((Below.refl _ _).alloc (Nat.le_refl _) _).alloc (by simp) _
 have Hx : Hid (Blk W w.heap.size 64 [.int .i64 v,.int .i64 d,.slice (some ⟨bB,0,none⟩) ds.length ds.length,.map (some bm)]):=by rw [<- hW];exact (Blk.new _ _ _).alloc _
 have Hc : Hid (Blk W (w.heap.size + 1) 36 [.bool s,.string (bs m),.int .i64 e]):=by rw [<- hW];exact Blk.newAt _ _ _ (by simp)
 have hl1:=Hlook.out W Hb.out
 have hc1:=Hconv.out W Hb.out
 have HT:=lid (hT.below Hb.out)
 have HBW:=lid (hB.below Hb.out)
 replace Hg:=lid (Hg.out.below Hb.out)
 have hix:=i22x36 ds.length ds.length i (i : Int) (rfl : (some ⟨bB,0,none⟩ : Option Addr) = _) hid rfl
 rw [Nat.zero_add] at hix
 go_enter Tryz.func25,Tryz.ntmps25
 obtain ⟨x0,x1,x2,x3⟩:=Hx.out.c4
 obtain ⟨c0,c1,c2⟩:=Hc.out.c3
 obtain ⟨g0,g1,g2⟩:=Hg.out.w3
 go_wp2_with fail
 refine wp_region_plan (fun w'=>w'.cell? ⟨w.heap.size,0,none⟩ = some (.int .i64 v) /\ w'.cell? ⟨w.heap.size,1,none⟩ = some (.int .i64 d) /\ w'.cell? ⟨w.heap.size,2,none⟩ = some (.slice (some ⟨bB,0,none⟩) ds.length ds.length) /\ w'.cell? ⟨w.heap.size,3,none⟩ = some (.map (some bm)) /\ w'.cell? ⟨w.heap.size + 1,0,none⟩ = some (.bool s) /\ w'.cell? ⟨w.heap.size + 1,1,none⟩ = some (.string (bs m)) /\ w'.cell? ⟨w.heap.size + 1,2,none⟩ = some (.int .i64 e) /\ w'.cell? ⟨bB,i * 3,none⟩ = some (.bool (sgnB (dN g))) /\ w'.cell? ⟨bB,i * 3 + 1,none⟩ = some (.string (bs (nt (dN g).natAbs))) /\ w'.cell? ⟨bB,i * 3 + 2,none⟩ = some (.int .i64 (dE g))) (fun i=>Nat.blt i 14) [(0,true),(1,true),(2,true),(3,true),(4,true),(5,true),(6,true),(7,true),(8,true),(9,true),(10,true),(11,false),(12,false),(13,true),(14,false)] (by kernel_rfl) (by kernel_rfl) rfl (by kernel_rfl) (fun o c a v w=>by cases o.dst<;>exact id) ⟨x0,x1,x2,x3,c0,c1,c2,g0,g1,g2⟩ ?_
 iterate 11 (refine planT rfl rfl (v:=?_) (fun w' hw'=>?_) ?_;rotate_left;(focus obtain ⟨q0,q1,q2,q3,q4,q5,q6,q7,q8,q9⟩:=hw';go_simp;try with_reducible rfl);try simp only [Act.put,U1,U2,U3])
 refine planF rfl rfl (fun K hK=>?_)
 go_simp
 refine hK _ _ (fun _=>⟨cell_new x0,cell_new x1,cell_new x2,cell_new x3,cell_new c0,cell_new c1,cell_new c2,cell_new g0,cell_new g1,cell_new g2⟩) ?_;clear hK K
 try simp only [Act.put,U1,U2,U3]
 refine plan_world (fun W3=>Blk W3 (W.heap.size) 36 [.bool (sgnB (dN g)),.string (bs (nt (dN g).natAbs)),.int .i64 (dE g),.bool s,.string (bs m),.int .i64 e] /\ Below W.heap.size W W3) (by first | exact nw1 | exact nw2) ?_
 rintro W3 ⟨qa,hbn⟩
 clear x0 x1 x2 x3
 clear c0 c1 c2
 clear g0 g1 g2
 have lz_x_W3:=Hx.out.lt
 have lz_c_W3:=Hc.out.lt
 replace Hx:=kB Hx hbn
 replace Hc:=kB Hc hbn
 replace Hg:=kW Hg hbn
 have Ha:=lid qa;clear qa
 obtain ⟨x0,x1,x2,x3⟩:=Hx.out.c4
 obtain ⟨c0,c1,c2⟩:=Hc.out.c3
 obtain ⟨g0,g1,g2⟩:=Hg.out.w3
 obtain ⟨a0,a1,a2,a3,a4,a5⟩:=Ha.out.c6
 replace Hb:=bnx Hb hbn;clear hbn
 refine planF rfl rfl (fun K hK=>?_)
 go_simp
 with_reducible refine (dAdd_two (sgnB (dN g)) (nt (dN g).natAbs) (dE g) s m e D B HD.out W.heap.size 2 36 _ Hfg.out Hfx.out hBB Ha.out (by first | exact (hT.below Hb.out) | exact Tab.drew (hT.below Hb.out) | exact Tab.alloc (hT.below Hb.out) _ | exact Tab.drew (Tab.alloc (hT.below Hb.out) _) | exact Tab.alloc (Tab.drew (hT.below Hb.out)) _)).mono ?_
 rintro e w3 ⟨rfl,hq⟩
 have hbn : Below W3.heap.size W3 w3:=by first | exact hq | exact bundrew hq
 clear x0 x1 x2 x3
 clear c0 c1 c2
 clear g0 g1 g2
 clear a0 a1 a2 a3 a4 a5
 replace Hx:=kB Hx hbn
 replace Hc:=kB Hc hbn
 replace Hg:=kW Hg hbn
 replace Ha:=kB Ha hbn
 obtain ⟨x0,x1,x2,x3⟩:=Hx.out.c4
 obtain ⟨c0,c1,c2⟩:=Hc.out.c3
 obtain ⟨g0,g1,g2⟩:=Hg.out.w3
 obtain ⟨a0,a1,a2,a3,a4,a5⟩:=Ha.out.c6
 replace Hb:=bnx Hb hbn;clear hbn
 refine hK _ _ (fun _=>⟨x0,x1,x2,x3,c0,c1,c2,g0,g1,g2⟩) ?_;clear hK K
 try simp only [Act.put,U1,U2,U3]
 refine planT rfl rfl (v:=?_) (fun w' hw'=>?_) ?_;rotate_left;(focus go_simp;try with_reducible rfl);try simp only [Act.put,U1,U2,U3]
 refine planF rfl rfl (fun K hK=>?_)
 go_simp
 have hB3:=hB.below Hb.out
 have z0 : w3.frozen? ⟨bB,i * 3,none⟩ = false:=hB3.free _
 have z1 : w3.frozen? ⟨bB,i * 3 + 1,none⟩ = false:=hB3.free _
 have z2 : w3.frozen? ⟨bB,i * 3 + 2,none⟩ = false:=hB3.free _
 go_simp
 refine hK _ _ (fun h=>absurd h (by decide)) ?_;clear hK K
 simp only [wpPlan]
 go_end0
 refine ⟨⟨_,rfl⟩,?_,?_⟩
 . have:=((hB3.set (i * 3) (.bool (sgnB (dN D)))).set (i * 3 + 1) (.string (bs (nt (dN D).natAbs)))).set (i * 3 + 2) (.int .i64 (dE D))
   rw [dC_set] at this
   exact this
 . have q:=Hb.out
   refine ⟨q.os,q.tape,q.output,?_,fun k hk hne=>?_⟩
   . exact Nat.le_trans q.size (by simp)
   . have hkb : k ≠ bB:=fun e=>hne (by rw [e])
     refine ((Below.heap_setCell _ _ _ k hkb).trans ((Below.heap_setCell _ _ _ k hkb).trans (Below.heap_setCell _ _ _ k hkb))).trans (q.block k hk)
theorem put_any (v d : Int) (bB bm bM capM n i B : Nat) (f : List UInt8 -> Nat) (ds : List Dyadic) (l : List UInt8) (s : Bool) (m : List UInt8) (e : Int) (D : Dyadic) (w : World)
 (hB : Blk w bB 36 (dC ds)) (hm : Mp w bm n f) (hM : Blk w bM 5 (byteC l)) (hl : l.length <= 255) (hi : f l = i) (hid : i < ds.length)
 (hx : Fit B (s,m,e)) (hd : Sm B ds[i]) (hBB : B + 2 <= 268435456) (hD : ds[i] + dval (s,m,e) = D) (hT : Tab w) :
 Calls Tryz.prog 25 #[.agg #[.int .i64 v,.int .i64 d,.slice (some ⟨bB,0,none⟩) ds.length ds.length,.map (some bm)],.slice (some ⟨bM,0,none⟩) l.length capM,.agg #[.bool s,.string (bs m),.int .i64 e]] w fun ex w'=>
  (∃ r,ex = .returned r) /\ Blk w' bB 36 (dC (ds.set i D)) /\ w.grownBy w' (some bB):=
 put_conv v d bB bm bM l.length capM n i B f ds l s m e D w hB hm (fun _ hW=>to_string' (hM.below hW) capM) hl hi hid hx hd hBB hD hT
def addAt (ds : List Dyadic) (i : Nat) (x : Dyadic) : List Dyadic:=ds.set i (ds.getD i 0 + x)
theorem addAt_length (ds : List Dyadic) (i : Nat) (x : Dyadic) : (addAt ds i x).length = ds.length:=by simp [addAt]
theorem addAt_sm {B : Nat} {ds : List Dyadic} (h : ∀ d ∈ ds,Sm B d) (i : Nat) {x : Dyadic} (hx : Sm B x) : ∀ d ∈ addAt ds i x,Sm (B + 1) d:=by
 intro d hd
 unfold addAt at hd
 rcases List.mem_or_eq_of_mem_set hd with h1 | h1
 . exact (h d h1).mono (by omega)
 . subst h1
   by_cases hi : i < ds.length
   . have e : ds.getD i 0 = ds[i]:=by simp [hi]
     rw [e];exact Sm.add (h _ (List.getElem_mem hi)) hx
   . have e : ds.getD i 0 = 0:=by simp [hi]
     rw [e];exact Sm.add (Sm.zero _) hx
def liftTo (f : List UInt8 -> Nat) (l : List UInt8) (c : Dyadic) (ds : List Dyadic) : Nat -> List Dyadic
 | 0=>ds
 | k + 1=>addAt (liftTo f l c ds k) (f (l.set k (l.getD k 0 + 1))) c
theorem liftTo_length (f : List UInt8 -> Nat) (l : List UInt8) (c : Dyadic) (ds : List Dyadic) (k : Nat) : (liftTo f l c ds k).length = ds.length:=by
 induction k with
 | zero=>rfl
 | succ k ih=>rw [liftTo,addAt_length,ih]
theorem liftTo_sm {B : Nat} (f : List UInt8 -> Nat) (l : List UInt8) (c : Dyadic) (ds : List Dyadic) (h : ∀ d ∈ ds,Sm B d) (hc : Sm B c) (k : Nat) : ∀ d ∈ liftTo f l c ds k,Sm (B + k) d:=by
 induction k with
 | zero=>exact h
 | succ k ih=>exact addAt_sm ih _ (hc.mono (by omega))
theorem Chg.tab {Y : Nat -> Prop} {w w' : World} (h : Chg Y w w') (hT : Tab w) (hy : ¬ Y 0) : Tab w':=fun j hj=>h.cell (hT j hj) hy
theorem Chg.mp {Y : Nat -> Prop} {w w' : World} (h : Chg Y w w') {b n : Nat} {f : List UInt8 -> Nat} (hm : Mp w b n f) (hy : ¬ Y b) : Mp w' b n f:=by
 obtain ⟨D,⟨es,clock,hb,F,hs,hD⟩,h2⟩:=hm
 exact ⟨D,⟨es,clock,(h.block b (Array.getElem?_eq_some_iff.1 hb).1 hy).trans hb,F,hs,hD⟩,h2⟩
theorem byteC_set (l : List UInt8) (k : Nat) (u : UInt8) : (byteC l).set k (.int .u8 (u.toNat : Int)) = byteC (l.set k u):=by
 unfold byteC;rw [List.map_set]
theorem byteC_get (l : List UInt8) (k : Nat) (hk : k < l.length) : (byteC l)[k]? = some (.int .u8 (l[k].toNat : Int)):=by
 simp [byteC,hk]
theorem lift1_any (v d : Int) (bB bm bM bx capM n B : Nat) (f : List UInt8 -> Nat) (ds : List Dyadic) (l : List UInt8) (s : Bool) (m : List UInt8) (e : Int) (w : World)
 (hX : Blk w bx 64 [.int .i64 v,.int .i64 d,.slice (some ⟨bB,0,none⟩) ds.length ds.length,.map (some bm)]) (hB : Blk w bB 36 (dC ds)) (hm : Mp w bm n f) (hM : Blk w bM 5 (byteC l)) (hl : l.length <= 255) (hu : ∀ u ∈ l,u.toNat <= 200)
 (hi : ∀ k (h : k < l.length),f (l.set k (l[k] + 1)) < ds.length) (hx : Fit B (s,m,e)) (hd : ∀ x ∈ ds,Sm B x) (hBB : B + l.length + 2 <= 268435456) (hT : Tab w)
 (t1 : 0 ≠ bM) (t2 : 0 ≠ bB) :
 Calls Tryz.prog 24 #[.slice (some ⟨bM,0,none⟩) l.length capM,.agg #[.bool s,.string (bs m),.int .i64 e],.pointer (some ⟨bx,0,none⟩)] w fun ex w'=>
  (∃ r,ex = .returned r) /\ Blk w' bB 36 (dC (liftTo f l (dval (s,m,e)) ds l.length)) /\ Blk w' bM 5 (byteC l) /\ Chg (fun b=>b = bM \/ b = bB) w w':=by
 have nMB : bM ≠ bB:=by rintro rfl;have h:=hM.symm.trans hB;simp at h
 have nMX : bM ≠ bx:=by rintro rfl;have h:=hM.symm.trans hX;simp at h
 have nXB : bx ≠ bB:=by rintro rfl;have h:=hX.symm.trans hB;simp at h
 have nmM : bm ≠ bM:=by
  rintro rfl
  obtain ⟨D,⟨es,clock,hb,_⟩,_⟩:=hm
  have h:=hM.symm.trans hb;simp at h
 have nmB : bm ≠ bB:=by
  rintro rfl
  obtain ⟨D,⟨es,clock,hb,_⟩,_⟩:=hm
  have h:=hB.symm.trans hb;simp at h
 obtain ⟨c,hc⟩ : ∃ c,dval (s,m,e) = c:=⟨_,rfl⟩
 have lX:=hX.lt;have lB:=hB.lt;have lM:=hM.lt;have lm:=hm.lt
 have Hx0:=lid hx
 have Hd:=lid hd
 have Hi:=lid hi
 have Hu:=lid hu
 rw [hc]
 have Hc0:=lid hc
 clear hx hd hi hu hc
 go_enter Tryz.func24,Tryz.ntmps24
 go_wp2_with fail
 go_loopw [8] (fun i wr=>∃ k : Nat,k <= l.length /\ i = .int .i64 (k : Int) /\ Blk wr w.heap.size 36 [.bool s,.string (bs m),.int .i64 e] /\ Blk wr bx 64 [.int .i64 v,.int .i64 d,.slice (some ⟨bB,0,none⟩) ds.length ds.length,.map (some bm)] /\ Blk wr bM 5 (byteC l) /\ Blk wr bB 36 (dC (liftTo f l c ds k)) /\ Mp wr bm n f /\ Chg (fun b=>b = bM \/ b = bB) w wr) (fun i _=>l.length - (intOf i).toNat)
 case atStart=>exact ⟨0,Nat.zero_le _,rfl,Blk.new _ _ _,hX.alloc _,hM.alloc _,hB.alloc _,hm.kept (r:=none) (World.grownBy_alloc _ _ none) (by simp),Chg.of_below ((Below.refl _ _).alloc (Nat.le_refl _) _)⟩
 case round=>
  obtain ⟨k,hk,rfl,pc,pX,pM,pB,pm,pg⟩:=hrel
  by_cases hlt : k < l.length
  . have hix:=i67x5 l.length capM k (k : Int) (rfl : (some ⟨bM,0,none⟩ : Option Addr) = _) hlt rfl
    rw [Nat.mul_one,Nat.zero_add] at hix
    have huk:=Hu.out _ (List.getElem_mem hlt)
    have hu1 : (l[k] + 1).toNat = l[k].toNat + 1:=by rw [UInt8.toNat_add];simp;omega
    obtain ⟨l',hl'⟩ : ∃ l',l.set k (l[k] + 1) = l':=⟨_,rfl⟩
    have hll : l'.length = l.length:=by rw [<- hl'];simp
    obtain ⟨p,hp⟩ : ∃ p : Int,(l[k].toNat : Int) = p:=⟨_,rfl⟩
    obtain ⟨q,hq⟩ : ∃ q : Int,((l[k] + 1).toNat : Int) = q:=⟨_,rfl⟩
    have m0 : wr.cell? ⟨bM,k,none⟩ = some (.int .u8 p):=by rw [pM.cell,byteC_get l k hlt,hp]
    have mf : wr.frozen? ⟨bM,k,none⟩ = false:=pM.free _
    have hw8 : IntKind.u8.wrap (p + 1) = q:=by rw [IntKind.wrap_u8];omega
    have hw9 : IntKind.u8.wrap (q - 1) = p:=by rw [IntKind.wrap_u8];omega
    obtain ⟨W1,hW1⟩ : ∃ W1,wr.setCell ⟨bM,k,none⟩ (.int .u8 q) = W1:=⟨_,rfl⟩
    have Hp:=lid hp;have Hq:=lid hq
    clear hp hq hu1 huk
    have pM1 : Blk W1 bM 5 (byteC l'):=by rw [<- hW1,<- hl',<- byteC_set,Hq.out];exact pM.set k _
    have pX1 : Blk W1 bx 64 [.int .i64 v,.int .i64 d,.slice (some ⟨bB,0,none⟩) ds.length ds.length,.map (some bm)]:=by rw [<- hW1];exact pX.set_other ⟨bM,k,none⟩ (by dsimp only;omega) _
    have pc1 : Blk W1 w.heap.size 36 [.bool s,.string (bs m),.int .i64 e]:=by rw [<- hW1];exact pc.set_other ⟨bM,k,none⟩ (by dsimp only;omega) _
    have pB1 : Blk W1 bB 36 (dC (liftTo f l c ds k)):=by rw [<- hW1];exact pB.set_other ⟨bM,k,none⟩ (by dsimp only;omega) _
    have pm1 : Mp W1 bm n f:=by rw [<- hW1];exact pm.set ⟨bM,k,none⟩ (by dsimp only;omega) _
    have pg1 : Chg (fun b=>b = bM \/ b = bB) w W1:=by
     rw [<- hW1]
     exact pg.trans (Chg.of_grown (Y:=fun b=>b = bM \/ b = bB) (r:=some bM) ⟨rfl,rfl,rfl,by simp,fun j _ hne=>Below.heap_setCell _ _ _ j (fun e=>hne (by rw [e]))⟩ (fun b e=>by cases e;exact .inl rfl)) (fun b h=>.inl h)
    have hTa : Tab W1:=pg1.tab hT (by rintro (h | h);exact t1 h;exact t2 h)
    have hik:=Hi.out k hlt
    rw [hl'] at hik
    have hLl:=liftTo_length f l c ds k
    have hfl : f l' < (liftTo f l c ds k).length:=by rw [hLl];exact hik
    obtain ⟨Dn,hDn⟩ : ∃ Dn,(liftTo f l c ds k)[f l'] + c = Dn:=⟨_,rfl⟩
    have hput:=put_any v d bB bm bM capM n (f l') (B + k) f (liftTo f l c ds k) l' s m e Dn W1 pB1 pm1 pM1 (by omega) rfl hfl (Hx0.out.mono (by omega)) (liftTo_sm f l c ds Hd.out (by rw [<- Hc0.out];exact Hx0.out.2) k _ (List.getElem_mem _)) (by omega) (by rw [Hc0.out];exact hDn) hTa
    rw [hLl,hll] at hput
    have est : (liftTo f l c ds k).set (f l') Dn = liftTo f l c ds (k + 1):=by
     rw [<- hDn]
     show _ = addAt _ _ _
     unfold addAt
     have e1 : l.set k (l.getD k 0 + 1) = l':=by rw [<- hl'];simp [hlt]
     rw [e1]
     congr 1
     simp [hfl]
    clear hDn hfl
    rw [est] at hput
    have Hput:=lid hput;clear hput est
    have c0 : W1.cell? ⟨w.heap.size,0,none⟩ = some (.bool s):=pc1.cell 0
    have c1 : W1.cell? ⟨w.heap.size,1,none⟩ = some (.string (bs m)):=pc1.cell 1
    have c2 : W1.cell? ⟨w.heap.size,2,none⟩ = some (.int .i64 e):=pc1.cell 2
    have x0 : W1.cell? ⟨bx,0,none⟩ = some (.int .i64 v):=pX1.cell 0
    have x1 : W1.cell? ⟨bx,1,none⟩ = some (.int .i64 d):=pX1.cell 1
    have x2 : W1.cell? ⟨bx,2,none⟩ = some (.slice (some ⟨bB,0,none⟩) ds.length ds.length):=pX1.cell 2
    have x3 : W1.cell? ⟨bx,3,none⟩ = some (.map (some bm)):=pX1.cell 3
    have Hl':=lid hl'
    clear hl' hik
    go_wp2_with fail
    refine Hput.out.mono ?_
    rintro e' w2 ⟨⟨r,rfl⟩,qB,qg⟩
    have gM : Blk w2 bM 5 (byteC l'):=(qg.block bM pM1.lt (fun e=>nMB (by cases e;rfl))).trans pM1
    have m2 : w2.cell? ⟨bM,k,none⟩ = some (.int .u8 q):=by
     rw [gM.cell,byteC_get l' k (by omega),<- Hq.out]
     congr 3
     have : l'[k]'(by omega) = (l.set k (l[k] + 1))[k]'(by simp;omega):=by congr 1;exact Hl'.out.symm
     rw [this];simp
    have mf2 : w2.frozen? ⟨bM,k,none⟩ = false:=gM.free _
    go_wp2
    go_roundw
    case rel=>
     have hne : ∀ b,b ≠ bM -> b ≠ bB -> b < W1.heap.size -> (w2.setCell ⟨bM,k,none⟩ (.int .u8 p)).heap[b]? = W1.heap[b]?:=fun b h1 h2 h3=>(Below.heap_setCell _ _ _ b h1).trans (qg.block b h3 (fun e=>h2 (by cases e;rfl)))
     refine ⟨k + 1,by omega,by go_num,(hne _ (by omega) (by omega) pc1.lt).trans pc1,(hne _ (by omega) nXB pX1.lt).trans pX1,?_,?_,?_,?_⟩
     . have:=gM.set k (.int .u8 p)
       rw [<- Hp.out,byteC_set,<- Hl'.out] at this
       rw [Hp.out] at this
       simpa using this
     . exact qB.set_other ⟨bM,k,none⟩ (by dsimp only;omega) _
     . exact ((pm1.kept qg (by intro e;cases e;exact nmB rfl)).set ⟨bM,k,none⟩ (by dsimp only;omega) _)
     . refine (pg1.trans (Chg.of_grown (Y:=fun b=>b = bM \/ b = bB) qg (fun b e=>by cases e;exact .inr rfl)) (fun b h=>.inl h)).trans (Chg.of_grown (Y:=fun b=>b = bM \/ b = bB) (r:=some bM) ⟨rfl,rfl,rfl,by simp,fun j _ hne=>Below.heap_setCell _ _ _ j (fun e=>hne (by rw [e]))⟩ (fun b e=>by cases e;exact .inl rfl)) (fun b h=>.inl h)
    case measure=>simp [intOf];omega
  . obtain rfl : k = l.length:=by omega
    go_wp2
    go_end0
    exact ⟨⟨_,rfl⟩,pB,pM,pg⟩
theorem places_any (a : Option Addr) (cap N : Nat) (xs : List (List UInt8)) (hN : xs.length = N) (hx : N <= 512) (hlen : ∀ l ∈ xs,l.length <= 255) (w : World) (hat : At w a (xs.map fun l=>Value.string (bs l))) :
 Calls Tryz.prog 77 #[.slice a N cap] w fun e w'=>∃ bm,e = .returned (.map (some bm)) /\ (Mp w' bm N (place xs N) /\ w.heap.size <= bm) /\ Below w.heap.size w w':=by
 subst hN
 have Hat:=lid hat;have Hlen:=lid hlen
 clear hat hlen
 have hmm:=@run_makeMap Tryz.prog
 go_enter Tryz.func77,Tryz.ntmps77
 go_wp2_with fail
 refine wp_world (fun W2=>Mp W2 w.heap.size 0 (fun _=>0) /\ Below w.heap.size w W2) ⟨Mp.made w,(Below.refl _ _).alloc (Nat.le_refl _) _⟩ ?_
 rintro W2 ⟨qm,hb2⟩
 go_loopw [9] (fun i wr=>∃ k : Nat,k <= xs.length /\ i = .int .i64 (k : Int) /\ Mp wr w.heap.size k (place xs k) /\ Below w.heap.size w wr) (fun i _=>xs.length - (intOf i).toNat)
 case atStart=>exact ⟨0,Nat.zero_le _,rfl,qm,hb2⟩
 case round=>
  obtain ⟨k,hk,rfl,pm,hb3⟩:=hrel
  by_cases hlt : k < xs.length
  . have hat2:=Hat.out.below hb3
    have hat3 : At wr a (xs.flatMap fun l=>[Value.string (bs l)]):=by rw [flat_one];exact hat2
    obtain ⟨b,o,hab,hcs⟩:=hat3.elem (f:=fun l=>[Value.string (bs l)]) (sz:=1) (fun _=>rfl) (by decide) k hlt
    have hc0 : wr.cell? ⟨b,o + k,none⟩ = some (.string (bs xs[k])):=by simpa using hcs 0 (by decide)
    have hix:=i69x9 xs.length cap k (k : Int) hab hlt rfl
    have hl0:=Hlen.out _ (List.getElem_mem hlt)
    obtain ⟨w4,hput,hm4,hg4⟩:=pm.put (by simp [maxLen];omega) xs[k] (by simp [maxLen];omega) k (by omega)
    rw [<- place_take xs k hlt] at hm4
    rw [Nat.mul_one] at hix
    go_wp2
    go_roundw
    case rel=>
     refine ⟨k + 1,by omega,by go_num,hm4,?_⟩
     exact hb3.grown hg4 (by have:=hb3.size;omega) (fun j e=>by cases e;exact Nat.le_refl _)
    case measure=>simp [intOf];omega
  . obtain rfl : k = xs.length:=by omega
    go_wp2
    refine bodyPost_ret (results_tmp rfl _ _ _) rfl ⟨_,rfl,⟨pm,Nat.le_refl _⟩,hb3⟩
theorem splus_any (bB n i B : Nat) (ds : List Dyadic) (s : Bool) (m : List UInt8) (e : Int) (D : Dyadic) (w : World)
 (hn : ds.length = n) (hB : Blk w bB 36 (dC ds)) (hid : i < ds.length)
 (hx : Fit B (s,m,e)) (hd : Sm B ds[i]) (hBB : B + 2 <= 268435456) (hD : ds[i] + dval (s,m,e) = D) (hT : Tab w) :
 Calls Tryz.prog 34 #[.slice (some ⟨bB,0,none⟩) n n,.int .i64 (i : Int),.agg #[.bool s,.string (bs m),.int .i64 e]] w fun ex w'=>
  (∃ r,ex = .returned r) /\ Blk w' bB 36 (dC (ds.set i D)) /\ w.grownBy w' (some bB):=by
 subst hn
 have Hg:=lid (Win.num hB i hid)
 have HD : Hid (dval (sgnB (dN ds[i]),nt (dN ds[i]).natAbs,dE ds[i]) + dval (s,m,e) = D):=by show dval (canon ds[i]) + _ = _;rw [dval_canon];exact hD
 have Hfg : Hid (Fit B (sgnB (dN ds[i]),nt (dN ds[i]).natAbs,dE ds[i])):=hd.fit (by omega)
 have Hfx:=lid hx
 have lB:=hB.lt
 clear hD hd hx
 obtain ⟨g,hg⟩ : ∃ g,ds[i] = g:=⟨_,rfl⟩
 rw [hg] at Hg HD Hfg
 clear hg
 obtain ⟨W,hW⟩ : ∃ W,w.alloc (.cells #[.bool s,.string (bs m),.int .i64 e] 36) = W:=⟨_,rfl⟩
 have Hb : Hid (Below w.heap.size w W):=by rw [<- hW];exact (Below.refl _ _).alloc (Nat.le_refl _) _
 have Hc : Hid (Blk W w.heap.size 36 [.bool s,.string (bs m),.int .i64 e]):=by rw [<- hW];exact Blk.newAt _ _ _ (by simp)
 have HT:=lid (hT.below Hb.out)
 have HBW:=lid (hB.below Hb.out)
 replace Hg:=lid (Hg.out.below Hb.out)
 have hix:=i78x36 ds.length ds.length i (i : Int) (rfl : (some ⟨bB,0,none⟩ : Option Addr) = _) hid rfl
 rw [Nat.zero_add] at hix
 go_enter Tryz.func34,Tryz.ntmps34
 obtain ⟨c0,c1,c2⟩:=Hc.out.c3
 obtain ⟨g0,g1,g2⟩:=Hg.out.w3
 go_wp2_with fail
 refine wp_region_plan (fun w'=>w'.cell? ⟨w.heap.size,0,none⟩ = some (.bool s) /\ w'.cell? ⟨w.heap.size,1,none⟩ = some (.string (bs m)) /\ w'.cell? ⟨w.heap.size,2,none⟩ = some (.int .i64 e) /\ w'.cell? ⟨bB,i * 3,none⟩ = some (.bool (sgnB (dN g))) /\ w'.cell? ⟨bB,i * 3 + 1,none⟩ = some (.string (bs (nt (dN g).natAbs))) /\ w'.cell? ⟨bB,i * 3 + 2,none⟩ = some (.int .i64 (dE g))) (fun i=>Nat.blt i 10) [(0,true),(1,true),(2,true),(3,true),(4,true),(5,true),(6,true),(7,false),(8,false),(9,true),(10,false)] (by kernel_rfl) (by kernel_rfl) rfl (by kernel_rfl) (fun o c a v w=>by cases o.dst<;>exact id) ⟨c0,c1,c2,g0,g1,g2⟩ ?_
 iterate 7 (refine planT rfl rfl (v:=?_) (fun w' hw'=>?_) ?_;rotate_left;(focus obtain ⟨q0,q1,q2,q3,q4,q5⟩:=hw';go_simp;try with_reducible rfl);try simp only [Act.put,U1,U2,U3])
 refine planF rfl rfl (fun K hK=>?_)
 go_simp
 refine hK _ _ (fun _=>⟨cell_new c0,cell_new c1,cell_new c2,cell_new g0,cell_new g1,cell_new g2⟩) ?_;clear hK K
 try simp only [Act.put,U1,U2,U3]
 refine plan_world (fun W3=>Blk W3 (W.heap.size) 36 [.bool (sgnB (dN g)),.string (bs (nt (dN g).natAbs)),.int .i64 (dE g),.bool s,.string (bs m),.int .i64 e] /\ Below W.heap.size W W3) (by first | exact nw1 | exact nw2) ?_
 rintro W3 ⟨qa,hbn⟩
 clear c0 c1 c2
 clear g0 g1 g2
 have lz_c_W3:=Hc.out.lt
 replace Hc:=kB Hc hbn
 replace Hg:=kW Hg hbn
 have Ha:=lid qa;clear qa
 obtain ⟨c0,c1,c2⟩:=Hc.out.c3
 obtain ⟨g0,g1,g2⟩:=Hg.out.w3
 obtain ⟨a0,a1,a2,a3,a4,a5⟩:=Ha.out.c6
 replace Hb:=bnx Hb hbn;clear hbn
 refine planF rfl rfl (fun K hK=>?_)
 go_simp
 with_reducible refine (dAdd_two (sgnB (dN g)) (nt (dN g).natAbs) (dE g) s m e D B HD.out W.heap.size 2 36 _ Hfg.out Hfx.out hBB Ha.out (by first | exact (hT.below Hb.out) | exact Tab.drew (hT.below Hb.out) | exact Tab.alloc (hT.below Hb.out) _ | exact Tab.drew (Tab.alloc (hT.below Hb.out) _) | exact Tab.alloc (Tab.drew (hT.below Hb.out)) _)).mono ?_
 rintro e w3 ⟨rfl,hq⟩
 have hbn : Below W3.heap.size W3 w3:=by first | exact hq | exact bundrew hq
 clear c0 c1 c2
 clear g0 g1 g2
 clear a0 a1 a2 a3 a4 a5
 replace Hc:=kB Hc hbn
 replace Hg:=kW Hg hbn
 replace Ha:=kB Ha hbn
 obtain ⟨c0,c1,c2⟩:=Hc.out.c3
 obtain ⟨g0,g1,g2⟩:=Hg.out.w3
 obtain ⟨a0,a1,a2,a3,a4,a5⟩:=Ha.out.c6
 replace Hb:=bnx Hb hbn;clear hbn
 refine hK _ _ (fun _=>⟨c0,c1,c2,g0,g1,g2⟩) ?_;clear hK K
 try simp only [Act.put,U1,U2,U3]
 refine planT rfl rfl (v:=?_) (fun w' hw'=>?_) ?_;rotate_left;(focus go_simp;try with_reducible rfl);try simp only [Act.put,U1,U2,U3]
 refine planF rfl rfl (fun K hK=>?_)
 go_simp
 have hB3:=hB.below Hb.out
 have z0 : w3.frozen? ⟨bB,i * 3,none⟩ = false:=hB3.free _
 have z1 : w3.frozen? ⟨bB,i * 3 + 1,none⟩ = false:=hB3.free _
 have z2 : w3.frozen? ⟨bB,i * 3 + 2,none⟩ = false:=hB3.free _
 go_simp
 refine hK _ _ (fun h=>absurd h (by decide)) ?_;clear hK K
 simp only [wpPlan]
 go_end0
 refine ⟨⟨_,rfl⟩,?_,?_⟩
 . have:=((hB3.set (i * 3) (.bool (sgnB (dN D)))).set (i * 3 + 1) (.string (bs (nt (dN D).natAbs)))).set (i * 3 + 2) (.int .i64 (dE D))
   rw [dC_set] at this
   exact this
 . have q:=Hb.out
   refine ⟨q.os,q.tape,q.output,?_,fun k hk hne=>?_⟩
   . exact Nat.le_trans q.size (by simp)
   . have hkb : k ≠ bB:=fun e=>hne (by rw [e])
     refine ((Below.heap_setCell _ _ _ k hkb).trans ((Below.heap_setCell _ _ _ k hkb).trans (Below.heap_setCell _ _ _ k hkb))).trans (q.block k hk)
theorem wpList_copy_by {P : Program} {w : World} {ops : Array Oper} {rest : List Oper} {o : Oper} {a : Act} {Q : Exit -> Act -> World -> Prop} (hgd : o.guard = none) (d s : Operand) (dT sT : TypeId)
 (ho : o.op = .call { callee:=.builtin .copy,args:=#[d,s],argTypes:=#[dT,sT] }) (x y v : Value) (w' : World) (hd : a.eval d = x) (hs : a.eval s = y)
 (hrun : (Builtin.copy_ #[dT,sT] o.type #[x,y]).run P w = .ok v w') (h : wpList P ops Q rest (a.put o.dst v) w') : wpList P ops Q (o :: rest) a w:=by
 refine wpList_plain hgd fun K hK=>?_
 unfold Oper.wp
 simp [execOp,ho,resolve,invoke,builtin,hd,hs,hrun,Result.andThen]
 exact hK _ _ h
theorem copy_str (w : World) (l : List UInt8) (ty : TypeId) :
 (Builtin.copy_ #[67,9] ty #[.slice (some ⟨w.heap.size,0,none⟩) l.length l.length,.string (bs l)]).run Tryz.prog (w.alloc (.cells (ubs l.length fun _=>0).toArray 5)) =
  .ok (.int .i64 (l.length : Int)) (w.alloc (.cells (byteC l).toArray 5)):=by
 have h:=Lib.run_copy_row_string (P:=Tryz.prog) (w.alloc (.cells (ubs l.length fun _=>0).toArray 5)) 67 9 ty 5 w.heap.size 0 l.length l.length (bs l) (ubs l.length fun _=>0).toArray 5 Tryz.underlying67 (by kernel_rfl)
  (heap_alloc_new w _) (by rw [bs_size];exact Nat.le_refl _) (by rw [bs_size];simp [ubs_length])
 rw [h]
 rw [bs_size]
 have e : (List.take 0 (ubs l.length fun _=>0).toArray.toList ++ Lib.byteCells (bs l).data.toList ++ List.drop (0 + l.length) (ubs l.length fun _=>0).toArray.toList) = byteC l:=by
  rw [Nat.zero_add,List.drop_eq_nil_of_le (by simp [ubs_length])]
  simp
  rfl
 rw [e,World.setRow_alloc_new]
 rfl
theorem At.chg {Y : Nat -> Prop} {w w' : World} {a : Option Addr} {cs : List Value} (h : At w a cs) (hc : Chg Y w w') (hy : ∀ b o,a = some ⟨b,o,none⟩ -> ¬ Y b) : At w' a cs:=by
 rcases h with h | ⟨b,o,ha,hcs⟩
 . exact .inl h
 . refine .inr ⟨b,o,ha,fun j hj=>?_⟩
   have h1:=hcs j hj
   rw [List.getElem?_eq_getElem hj] at h1 ⊢
   exact hc.cell h1 (hy b o ha)
theorem keysL_len (v d : Int) : ∀ l ∈ keysL v d,l.length <= 9:=by
 intro l hl
 unfold keysL prodsL at hl
 rw [List.mem_map] at hl
 obtain ⟨x,hx,rfl⟩:=hl
 split at hx
 . rename_i h
   rw [List.length_map,rowsL_length _ _ x hx];omega
 . cases hx
theorem smade_any (v d : Int) (bB nB bm gf : Nat) (lb : Array Value) (fv fd : Int) (a : Option Addr) (capF : Nat) (raws : List Raw) (J : Nat -> World -> Prop) (w : World)
 (hr : raws.length = (keysL fv fd).length) (ha : At w a (raws.flatMap numC)) (hab : ∀ b o,a = some ⟨b,o,none⟩ -> b ≠ bB) (hac : ∀ b o,a = some ⟨b,o,none⟩ -> b < w.heap.size)
 (eg : ∀ args w,(callFunc gf args).run Tryz.prog w = .ok (.enter gf args) w) (hJb : ∀ k W W',J k W -> Chg (fun b=>w.heap.size <= b) W W' -> J k W')
 (hcl : ∀ k (hk : k < (keysL fv fd).length) (hk2 : k < raws.length) W bM,J k W -> Blk W bM 5 (byteC (keysL fv fd)[k]) -> w.heap.size <= bM ->
  Calls Tryz.prog gf (#[.slice (some ⟨bM,0,none⟩) (keysL fv fd)[k].length (keysL fv fd)[k].length,.agg #[.bool raws[k].1,.string (bs raws[k].2.1),.int .i64 raws[k].2.2]] ++ lb) W fun e w'=>(∃ r,e = .returned r) /\ J (k + 1) w' /\ Chg (fun b=>b = bM \/ b = bB) W w')
 (hbB : bB < w.heap.size) (h0 : J 0 w) :
 Calls Tryz.prog 23 #[.agg #[.int .i64 v,.int .i64 d,.slice (some ⟨bB,0,none⟩) nB nB,.map (some bm)],.agg #[.int .i64 fv,.int .i64 fd,.slice a raws.length capF],.func (.func gf) #[] lb] w fun e w'=>
  e = .returned (.agg #[.int .i64 v,.int .i64 d,.slice (some ⟨bB,0,none⟩) nB nB]) /\ J (keysL fv fd).length w' /\ Chg (fun b=>b = bB) w w':=by
 have hlen:=keysL_len fv fd
 have hK5:=keysL_length fv fd
 have hPr:=products_any fv fd
 have ePr : (prodsL fv fd).map (fun x=>Value.string (ex x)) = (keysL fv fd).map (fun l=>Value.string (bs l)):=by unfold keysL;rw [List.map_map];rfl
 have eLn : (prodsL fv fd).length = (keysL fv fd).length:=by unfold keysL;rw [List.length_map]
 rw [ePr,eLn] at hPr
 generalize keysL fv fd = xs at *
 clear ePr eLn
 have HPr:=lid hPr;have Hlen:=lid hlen;have Hcl:=lid hcl;have HJb:=lid hJb;have Ha0:=lid ha;have Hab:=lid hab;have Hac:=lid hac;have Heg:=lid eg;have Hrl:=lid hr;clear hPr hlen hcl hJb ha hab hac eg hr
 obtain ⟨W,hW⟩ : ∃ W,((w.alloc (.cells #[.int .i64 v,.int .i64 d,.slice (some ⟨bB,0,none⟩) nB nB,.map (some bm)] 64)).alloc (.cells #[.int .i64 fv,.int .i64 fd,.slice a raws.length capF] 24)).alloc (.cells #[.int .i64 0,.int .i64 0,.slice none 0 0] 24) = W:=⟨_,rfl⟩
 have Hb : Hid (Below w.heap.size w W):=by rw [<- hW];exact (((Below.refl _ _).alloc (Nat.le_refl _) _).alloc (by simp) _).alloc (by simp<;>omega) _
 have Hx : Hid (Blk W w.heap.size 64 [.int .i64 v,.int .i64 d,.slice (some ⟨bB,0,none⟩) nB nB,.map (some bm)]):=by rw [<- hW];exact ((Blk.new _ _ _).alloc _).alloc _
 have Hf : Hid (Blk W (w.heap.size + 1) 24 [.int .i64 fv,.int .i64 fd,.slice a raws.length capF]):=by rw [<- hW];exact (Blk.newAt _ _ _ (by simp)).alloc _
 have Hr : Hid (Blk W (w.heap.size + 1 + 1) 24 [.int .i64 0,.int .i64 0,.slice none 0 0]):=by rw [<- hW];exact Blk.newAt _ _ _ (by simp)
 have f0 : W.cell? ⟨w.heap.size + 1,0,none⟩ = some (.int .i64 fv):=Hf.out.cell 0
 have f1 : W.cell? ⟨w.heap.size + 1,1,none⟩ = some (.int .i64 fd):=Hf.out.cell 1
 go_enter Tryz.func23,Tryz.ntmps23
 go_wp2_with fail
 refine (HPr.out _).mono ?_
 rintro e w1 ⟨a1,cap,rfl,hat,hba,hbn⟩
 have lz1:=Hx.out.lt;have lz2:=Hf.out.lt;have lz3:=Hr.out.lt
 clear f0 f1
 replace Hx:=lid (Hx.out.below hbn);replace Hf:=lid (Hf.out.below hbn);replace Hr:=lid (Hr.out.below hbn)
 replace Hb:=lid (bnext Hb.out hbn)
 have Hat:=lid hat;have Hba:=lid hba
 have hszW:=hbn.size
 clear hat hba hbn
 have hJ1 : J 0 w1:=HJb.out _ _ _ h0 (Chg.of_below Hb.out)
 have HJ1:=lid hJ1;clear hJ1 h0
 go_wp2_with fail
 go_loopw [16] (fun i wr=>∃ k : Nat,k <= xs.length /\ i = .int .i64 (k : Int) /\ Blk wr w.heap.size 64 [.int .i64 v,.int .i64 d,.slice (some ⟨bB,0,none⟩) nB nB,.map (some bm)] /\ Blk wr (w.heap.size + 1) 24 [.int .i64 fv,.int .i64 fd,.slice a raws.length capF] /\ Blk wr (w.heap.size + 1 + 1) 24 [.int .i64 0,.int .i64 0,.slice none 0 0] /\ J k wr /\ At wr a1 (xs.map fun l=>Value.string (bs l)) /\ At wr a (raws.flatMap numC) /\ Chg (fun b=>b = bB) w wr) (fun i _=>xs.length - (intOf i).toNat)
 case atStart=>exact ⟨0,Nat.zero_le _,rfl,Hx.out,Hf.out,Hr.out,HJ1.out,Hat.out,Ha0.out.below Hb.out,Chg.of_below Hb.out⟩
 case round=>
  obtain ⟨k,hk,rfl,pX,pF,pR,pJ,pA1,pA,pg⟩:=hrel
  by_cases hlt : k < xs.length
  . have hat3 : At wr a1 (xs.flatMap fun l=>[Value.string (bs l)]):=by rw [flat_one];exact pA1
    obtain ⟨b1,o1,hab1,hcs⟩:=hat3.elem (f:=fun l=>[Value.string (bs l)]) (sz:=1) (fun _=>rfl) (by decide) k hlt
    have hc0 : wr.cell? ⟨b1,o1 + k,none⟩ = some (.string (bs xs[k])):=by simpa using hcs 0 (by decide)
    have hix:=i69x9 xs.length cap k (k : Int) hab1 hlt rfl
    rw [Nat.mul_one] at hix
    clear hat3 hcs
    have hk2 : k < raws.length:=by rw [Hrl.out];exact hlt
    obtain ⟨l,hl⟩ : ∃ l,xs[k] = l:=⟨_,rfl⟩
    have hll : l.length <= 9:=by rw [<- hl];exact Hlen.out _ (List.getElem_mem hlt)
    obtain ⟨x,hx⟩ : ∃ x,raws[k] = x:=⟨_,rfl⟩
    obtain ⟨W2,hW2⟩ : ∃ W2,wr.alloc (.cells (byteC l).toArray 5) = W2:=⟨_,rfl⟩
    have hb2 : Below wr.heap.size wr W2:=by rw [<- hW2];exact (Below.refl _ _).alloc (Nat.le_refl _) _
    have qM : Blk W2 wr.heap.size 5 (byteC l):=by rw [<- hW2];exact Blk.new _ _ _
    have hcl1:=Hcl.out k hlt hk2 W2 wr.heap.size (HJb.out _ _ _ pJ (Chg.of_below hb2)) (by rw [hl];exact qM) (by have:=pX.lt;omega)
    rw [hl,hx] at hcl1
    rw [hl] at hc0
    obtain ⟨b2,o2,hab2,hcs2⟩:=(pA.below hb2).elem (f:=numC) (sz:=3) (fun _=>rfl) (by decide) k hk2
    rw [hx] at hcs2
    have y0 : W2.cell? ⟨b2,o2 + k * 3,none⟩ = some (.bool x.1):=by simpa [numC] using hcs2 0 (by decide)
    have y1 : W2.cell? ⟨b2,o2 + k * 3 + 1,none⟩ = some (.string (bs x.2.1)):=by simpa [numC] using hcs2 1 (by decide)
    have y2 : W2.cell? ⟨b2,o2 + k * 3 + 2,none⟩ = some (.int .i64 x.2.2):=by simpa [numC] using hcs2 2 (by decide)
    have hix2:=i22x36 raws.length capF k (k : Int) hab2 hk2 rfl
    have f2 : W2.cell? ⟨w.heap.size + 1,2,none⟩ = some (.slice a raws.length capF):=(pF.below hb2).cell 2
    have hmk:=mk_bytes (l.length : Int) l.length rfl (by omega)
    have hcp:=copy_str wr l
    rw [hW2] at hcp
    have Hcl1:=lid hcl1
    have hbsz : (bs l).size = l.length:=bs_size l
    have Heg2:=Heg.out
    clear hcl1 hcs2 hl hx
    go_wp2_with (first | (at_builtin;refine wpList_copy_by rfl _ _ _ _ rfl _ _ _ _ rfl rfl (hcp _) ?_))
    refine Hcl1.out.mono ?_
    rintro e' w3 ⟨⟨r,rfl⟩,qJ,qg⟩
    have c2 : Chg (fun b=>b = bB) wr w3:=(Chg.of_below hb2).trans qg (fun b h=>by rcases h with h | h;exact .inr (by omega);exact .inl h)
    have hX2:=c2.blk pX (by omega)
    have hF2:=c2.blk pF (by omega)
    have hR2:=c2.blk pR (by omega)
    have hA2:=pA.chg c2 Hab.out
    have hA1:=pA1.chg c2 (fun b o e h=>by have:=Hba.out b o e;omega)
    have hG2:=pg.trans c2 (fun b h=>.inl h)
    have H1:=lid hX2;have H2:=lid hF2;have H3:=lid hR2;have H4:=lid hA2;have H5:=lid hA1;have H6:=lid hG2
    clear hab2 hab1 y0 y1 y2 hix hix2 f2 hc0 hcp hX2 hF2 hR2 hA2 hA1 hG2
    go_wp2
    go_roundw
    case rel=>exact ⟨k + 1,by omega,by go_num,H1.out,H2.out,H3.out,qJ,H5.out,H4.out,H6.out⟩
    case measure=>simp [intOf];omega
  . obtain rfl : k = xs.length:=by omega
    have x0 : wr.cell? ⟨w.heap.size,0,none⟩ = some (.int .i64 v):=pX.cell 0
    have x1 : wr.cell? ⟨w.heap.size,1,none⟩ = some (.int .i64 d):=pX.cell 1
    have x2 : wr.cell? ⟨w.heap.size,2,none⟩ = some (.slice (some ⟨bB,0,none⟩) nB nB):=pX.cell 2
    have r0 : wr.cell? ⟨w.heap.size + 1 + 1,0,none⟩ = some (.int .i64 0):=pR.cell 0
    have r1 : wr.cell? ⟨w.heap.size + 1 + 1,1,none⟩ = some (.int .i64 0):=pR.cell 1
    have r2 : wr.cell? ⟨w.heap.size + 1 + 1,2,none⟩ = some (.slice none 0 0):=pR.cell 2
    have fr0:=pR.free 0;have fr1:=pR.free 1;have fr2:=pR.free 2
    go_wp2
    have cst : Chg (fun b=>b = w.heap.size + 1 + 1) wr (((wr.setCell ⟨w.heap.size + 1 + 1,0,none⟩ (.int .i64 v)).setCell ⟨w.heap.size + 1 + 1,1,none⟩ (.int .i64 d)).setCell ⟨w.heap.size + 1 + 1,2,none⟩ (.slice (some ⟨bB,0,none⟩) nB nB)):=
     ⟨rfl,rfl,rfl,by simp,fun j _ hne=>(Below.heap_setCell _ _ _ j hne).trans ((Below.heap_setCell _ _ _ j hne).trans (Below.heap_setCell _ _ _ j hne))⟩
    refine bodyPost_ret (v:=.agg #[.int .i64 v,.int .i64 d,.slice (some ⟨bB,0,none⟩) nB nB]) (by simp [results,Tryz.results23,go_sem,r0,r1,r2]) rfl ⟨rfl,HJb.out _ _ _ pJ (cst.mono (fun b _ h=>by omega)),pg.trans cst (fun b h=>.inr (by omega))⟩
end Go.Proofs.YtidjljldhdckiaaGreatDoor
namespace Go.Proofs.YtidjljldhdckiaaGreatDoor
theorem mem_rowsL (n s : Nat) (x : List Nat) : x ∈ rowsL (n + 1) s ↔ x.length = n + 1 /\ x.sum = s:=by
 induction n generalizing s x with
 | zero =>
   simp only [rowsL,List.mem_singleton]
   constructor
   . rintro rfl;simp
   . rintro ⟨h1,h2⟩
     match x,h1,h2 with
     | [a],_,h2=>simp at h2;rw [h2]
 | succ n ih =>
   simp only [rowsL,List.mem_flatMap,List.mem_map,List.mem_range]
   constructor
   . rintro ⟨i,hi,y,hy,rfl⟩
     obtain ⟨h1,h2⟩:=(ih i y).1 hy
     exact ⟨by simp [h1],by simp [h2];omega⟩
   . rintro ⟨h1,h2⟩
     match x,h1,h2 with
     | a :: y,h1,h2 =>
       simp at h1 h2
       exact ⟨y.sum,by omega,y,(ih _ y).2 ⟨by omega,rfl⟩,by congr 1;omega⟩
theorem rowsL_nodup (n s : Nat) : (rowsL (n + 1) s).Nodup:=by
 induction n generalizing s with
 | zero=>simp [rowsL]
 | succ n ih =>
   unfold rowsL List.Nodup
   rw [List.pairwise_flatMap]
   refine ⟨fun i _=>?_,?_⟩
   . rw [List.pairwise_map]
     exact (ih i).imp (fun h e=>h (by simpa using e))
   . have h0 : (List.range (s + 1)).Pairwise (· < ·):=List.pairwise_lt_range
     refine List.Pairwise.imp_of_mem ?_ h0
     intro a b ha hb hab x hx y hy e
     rw [List.mem_range] at ha hb
     rw [List.mem_map] at hx hy
     obtain ⟨_,_,rfl⟩:=hx
     obtain ⟨_,_,rfl⟩:=hy
     simp at e
     omega
theorem bytes_inj {x y : List Nat} (hx : ∀ a ∈ x,a <= 255) (hy : ∀ a ∈ y,a <= 255) (h : x.map UInt8.ofNat = y.map UInt8.ofNat) : x = y:=by
 induction x generalizing y with
 | nil=>cases y with
   | nil=>rfl
   | cons b y=>simp at h
 | cons a x ih=>cases y with
   | nil=>simp at h
   | cons b y =>
     simp only [List.map_cons,List.cons.injEq] at h
     have h1:=congrArg UInt8.toNat h.1
     simp at h1
     have:=hx a (by simp);have:=hy b (by simp)
     rw [ih (fun c hc=>hx c (by simp [hc])) (fun c hc=>hy c (by simp [hc])) h.2]
     congr 1;omega
theorem mem_le_sum {x : List Nat} {a : Nat} (h : a ∈ x) : a <= x.sum:=by
 induction x with
 | nil=>cases h
 | cons b x ih =>
   rw [List.mem_cons] at h
   rcases h with rfl | h
   . simp
   . have:=ih h;simp;omega
theorem rows_small {n s : Nat} (hs : s <= 255) {x : List Nat} (h : x ∈ rowsL (n + 1) s) : ∀ a ∈ x,a <= 255:=by
 intro a ha
 have:=mem_le_sum ha
 have:=((mem_rowsL n s x).1 h).2
 omega
theorem keys_nodup {n s : Nat} (hs : s <= 255) : ((rowsL (n + 1) s).map fun x=>x.map UInt8.ofNat).Nodup:=by
 unfold List.Nodup
 rw [List.pairwise_map]
 refine List.Pairwise.imp_of_mem ?_ (rowsL_nodup n s)
 intro a b ha hb hab e
 exact hab (bytes_inj (rows_small hs ha) (rows_small hs hb) e)
theorem place_at (xs : List (List UInt8)) (hn : xs.Nodup) (k q : Nat) (hq : q < k) (hk : k <= xs.length) : place xs k (xs[q]'(by omega)) = q:=by
 induction k with
 | zero=>omega
 | succ k ih =>
   rw [place]
   have e : xs.getD k [] = xs[k]:=by simp [show k < xs.length by omega]
   rw [e]
   by_cases h : q = k
   . subst h;simp
   . rw [if_neg (fun e2=>h (nodup_inj hn e2)),ih (by omega) (by omega)]
theorem place_row {n s : Nat} (hs : s <= 255) {x : List Nat} (h : x ∈ rowsL (n + 1) s) :
 ∃ q,∃ h : q < (rowsL (n + 1) s).length,(rowsL (n + 1) s)[q] = x /\ place ((rowsL (n + 1) s).map fun x=>x.map UInt8.ofNat) (rowsL (n + 1) s).length (x.map UInt8.ofNat) = q:=by
 obtain ⟨q,hq,rfl⟩:=List.mem_iff_getElem.1 h
 refine ⟨q,hq,rfl,?_⟩
 have:=place_at _ (keys_nodup (n:=n) hs) (rowsL (n + 1) s).length q hq (by simp)
 simpa using this
def putAll (f : List UInt8 -> Nat) (ds : List Dyadic) (ps : Puts) : List Dyadic:=ps.foldl (fun ds p=>addAt ds (f (p.1.map UInt8.ofNat)) p.2) ds
theorem putAll_append (f : List UInt8 -> Nat) (ds : List Dyadic) (a b : Puts) : putAll f ds (a ++ b) = putAll f (putAll f ds a) b:=by simp [putAll]
theorem putAll_length (f : List UInt8 -> Nat) (ds : List Dyadic) (ps : Puts) : (putAll f ds ps).length = ds.length:=by
 induction ps generalizing ds with
 | nil=>rfl
 | cons p ps ih=>exact (ih _).trans (addAt_length _ _ _)
theorem putAll_sm {B : Nat} (f : List UInt8 -> Nat) (ds : List Dyadic) (ps : Puts) (hd : ∀ d ∈ ds,Sm B d) (hp : ∀ p ∈ ps,Sm B p.2) : ∀ d ∈ putAll f ds ps,Sm (B + ps.length) d:=by
 induction ps generalizing ds B with
 | nil=>exact hd
 | cons p ps ih =>
   have:=ih (B:=B + 1) (addAt ds (f (p.1.map UInt8.ofNat)) p.2) (addAt_sm hd _ (hp p (by simp))) (fun q hq=>(hp q (by simp [hq])).mono (by omega))
   intro d hdd
   have h1:=this d hdd
   simp only [List.length_cons]
   rw [show B + (ps.length + 1) = B + 1 + ps.length by omega]
   exact h1
theorem putAll_get (R : List (List Nat)) (hR : R.Nodup) (f : List UInt8 -> Nat) (hf : ∀ x ∈ R,∃ q,∃ h : q < R.length,R[q] = x /\ f (x.map UInt8.ofNat) = q) (ps : Puts) (hp : ∀ p ∈ ps,p.1 ∈ R) (ds : List Dyadic) (hd : ds.length = R.length) :
 putAll f ds ps = List.zipWith (· + ·) ds (colL R ps):=by
 induction ps generalizing ds with
 | nil =>
   apply List.ext_getElem (by simp [putAll,colL,hd])
   intro k h1 h2
   simp [putAll,colL,coef,pairE]
 | cons p ps ih =>
   have e : putAll f ds (p :: ps) = putAll f (addAt ds (f (p.1.map UInt8.ofNat)) p.2) ps:=rfl
   rw [e,ih (fun q hq=>hp q (by simp [hq])) _ (by rw [addAt_length,hd])]
   obtain ⟨q,hq,e1,e2⟩:=hf _ (hp p (by simp))
   rw [e2]
   apply List.ext_getElem (by simp [colL,addAt_length])
   intro k h1 h2
   have hk : k < ds.length:=by simp [colL,addAt_length] at h1;omega
   simp only [colL,List.getElem_zipWith,List.getElem_map]
   have e3 : (addAt ds q p.2)[k]'(by rw [addAt_length];exact hk) = ds[k] + p.2 * delta (R[k]'(by omega)) p.1:=by
    unfold addAt delta
    rw [List.getElem_set]
    by_cases h : q = k
    . subst h;rw [if_pos rfl,if_pos e1.symm];simp [hk];grind
    . rw [if_neg h,if_neg (fun h2=>h (nodup_inj hR (e1.trans h2)))];grind
   rw [e3]
   unfold coef
   simp only [pairE];grind
theorem putAll_zero (R : List (List Nat)) (hR : R.Nodup) (f : List UInt8 -> Nat) (hf : ∀ x ∈ R,∃ q,∃ h : q < R.length,R[q] = x /\ f (x.map UInt8.ofNat) = q) (ps : Puts) (hp : ∀ p ∈ ps,p.1 ∈ R) :
 putAll f (List.replicate R.length 0) ps = colL R ps:=by
 rw [putAll_get R hR f hf ps hp _ (by simp)]
 apply List.ext_getElem (by simp [colL])
 intro k h1 h2
 simp
theorem inc_bytes (x : List Nat) (k : Nat) (hk : k < x.length) : (x.map UInt8.ofNat).set k ((x.map UInt8.ofNat).getD k 0 + 1) = (inc x k).map UInt8.ofNat:=by
 unfold inc
 rw [List.map_set]
 congr 1
 simp [hk]
theorem liftTo_put (f : List UInt8 -> Nat) (x : List Nat) (c : Dyadic) (ds : List Dyadic) (k : Nat) (hk : k <= x.length) : liftTo f (x.map UInt8.ofNat) c ds k = putAll f ds ((List.range k).map fun k=>(inc x k,c)):=by
 induction k with
 | zero=>rfl
 | succ k ih =>
   rw [liftTo,ih (by omega),List.range_succ,List.map_append,putAll_append,inc_bytes x k (by omega)]
   rfl
end Go.Proofs.YtidjljldhdckiaaGreatDoor
namespace Go.Proofs.YtidjljldhdckiaaGreatDoor
open Go.RowKit
attribute [local go_sem ↓] Go.wp_at_zero Go.wp_at_succ
theorem byteC_row (y : List Nat) (k : Nat) (hk : k < y.length) (h : y.getD k 0 <= 255) : (byteC (y.map UInt8.ofNat))[k]? = some (.int .u8 (y.getD k 0 : Int)):=by
 rw [byteC_get _ k (by simpa using hk)]
 have e : y[k] = y.getD k 0:=by simp [hk]
 rw [List.getElem_map,e]
 generalize y.getD k 0 = z at *
 congr 3
 simp
 omega
theorem byteC_row_set (y : List Nat) (k v : Nat) (h : v <= 255) : (byteC (y.map UInt8.ofNat)).set k (.int .u8 (v : Int)) = byteC ((y.set k v).map UInt8.ofNat):=by
 have e : (v : Int) = ((UInt8.ofNat v).toNat : Int):=by simp;omega
 rw [e,byteC_set,List.map_set]
theorem mv_step (x : List Nat) (i j t : Nat) (hij : i ≠ j) (hi : i < x.length) (hj : j < x.length) : ((mv x i j t).set i (x.getD i 0 - t - 1)).set j (x.getD j 0 + t + 1) = mv x i j (t + 1):=by
 refine ext_getD (by simp [mv_length]) (fun l _=>?_)
 rw [getD_set _ _ _ _ (by simp [mv_length,hj]),getD_set _ _ _ _ (by simp [mv_length,hi]),getD_mv _ _ _ _ _ hij hi hj,getD_mv _ _ _ _ _ hij hi hj]
 by_cases e1 : j = l
 . subst e1;rw [if_pos rfl,if_pos rfl];omega
 . rw [if_neg e1,if_neg e1,if_neg e1]
   by_cases e2 : i = l
   . subst e2;rw [if_pos rfl,if_pos rfl];omega
   . rw [if_neg e2,if_neg e2,if_neg e2]
theorem mv_zero (x : List Nat) (i j : Nat) (hij : i ≠ j) (hi : i < x.length) (hj : j < x.length) : mv x i j 0 = x:=by
 refine ext_getD (mv_length _ _ _ _) (fun l _=>?_)
 rw [getD_mv _ _ _ _ _ hij hi hj]
 split
 . rfl
 . split<;>rfl
theorem chD_sm (n k : Nat) (hn : n <= 20) : Sm 21 (chD n k):=by
 refine ⟨(ch n k : Int) * 2 ^ 21,?_,?_⟩
 . unfold chD
   rw [<- owp_shift (ch n k : Int) 21 0];rfl
 . have h:=Nat.le_trans (ch_le n k) (Nat.pow_le_pow_right (by decide) hn)
   rw [Int.natAbs_mul]
   simp only [Int.natAbs_natCast]
   have : (2 ^ 21 : Int).natAbs = 2097152:=rfl
   rw [this]
   have : 2 ^ (2 * 21) = 4398046511104:=rfl
   omega
def halfTo (i j : Nat) (x : List Nat) (c : Dyadic) (t : Nat) : Puts:=(List.range t).map fun t=>(mv x i j t,c * chD (x.getD i 0) t * hp (x.getD j 0 + t))
theorem halfTo_succ (i j : Nat) (x : List Nat) (c : Dyadic) (t : Nat) : halfTo i j x c (t + 1) = halfTo i j x c t ++ [(mv x i j t,c * chD (x.getD i 0) t * hp (x.getD j 0 + t))]:=by
 unfold halfTo;rw [List.range_succ,List.map_append];rfl
theorem halfTo_sm {B C i j : Nat} {x : List Nat} {c : Dyadic} (hc : Sm B c) (h : x.sum <= 20) (hij : i ≠ j) (hC : B + 42 <= C) (t : Nat) (ht : t <= x.getD i 0 + 1) : ∀ p ∈ halfTo i j x c t,Sm C p.2:=by
 intro p hp'
 unfold halfTo at hp'
 rw [List.mem_map] at hp'
 obtain ⟨s,hs,rfl⟩:=hp'
 rw [List.mem_range] at hs
 have h2:=getD_two_le x i j hij
 have:=(hc.mul (chD_sm (x.getD i 0) s (by omega))).mul (hp_sm (x.getD j 0 + s))
 exact this.mono (by omega)
theorem half1_any (v d : Int) (bB bm bM bx bi bj capM n B C i j : Nat) (f : List UInt8 -> Nat) (ds : List Dyadic) (x : List Nat) (s : Bool) (m : List UInt8) (e : Int) (w : World)
 (hX : Blk w bx 64 [.int .i64 v,.int .i64 d,.slice (some ⟨bB,0,none⟩) ds.length ds.length,.map (some bm)]) (hI : Blk w bi 3 [.int .i64 (i : Int)]) (hJ : Blk w bj 3 [.int .i64 (j : Int)])
 (hB : Blk w bB 36 (dC ds)) (hm : Mp w bm n f) (hM : Blk w bM 5 (byteC (x.map UInt8.ofNat))) (hl : x.length <= 9) (hs : x.sum <= 20) (hij : i ≠ j) (hi : i < x.length) (hj : j < x.length)
 (hf : ∀ t,t <= x.getD i 0 -> f ((mv x i j t).map UInt8.ofNat) < ds.length) (hx : Fit B (s,m,e)) (hd : ∀ y ∈ ds,Sm C y) (hC : B + 42 <= C) (hCC : 2 * C + 100 <= 268435456) (hT : Tab w)
 (t1 : 0 ≠ bM) (t2 : 0 ≠ bB) :
 Calls Tryz.prog 43 #[.slice (some ⟨bM,0,none⟩) x.length capM,.agg #[.bool s,.string (bs m),.int .i64 e],.pointer (some ⟨bi,0,none⟩),.pointer (some ⟨bx,0,none⟩),.pointer (some ⟨bj,0,none⟩)] w fun ex w'=>
  (∃ r,ex = .returned r) /\ Blk w' bB 36 (dC (putAll f ds (halfR i j x (dval (s,m,e))))) /\ Chg (fun b=>b = bM \/ b = bB) w w':=by
 have nMB : bM ≠ bB:=by rintro rfl;have h:=hM.symm.trans hB;simp at h
 have nMX : bM ≠ bx:=by rintro rfl;have h:=hM.symm.trans hX;simp at h
 have nXB : bx ≠ bB:=by rintro rfl;have h:=hX.symm.trans hB;simp at h
 have nMI : bM ≠ bi:=by rintro rfl;have h:=hM.symm.trans hI;simp at h
 have nBI : bB ≠ bi:=by rintro rfl;have h:=hB.symm.trans hI;simp at h
 have nMJ : bM ≠ bj:=by rintro rfl;have h:=hM.symm.trans hJ;simp at h
 have nBJ : bB ≠ bj:=by rintro rfl;have h:=hB.symm.trans hJ;simp at h
 have nmM : bm ≠ bM:=by
  rintro rfl
  obtain ⟨D,⟨es,clock,hb,_⟩,_⟩:=hm
  have h:=hM.symm.trans hb;simp at h
 have nmB : bm ≠ bB:=by
  rintro rfl
  obtain ⟨D,⟨es,clock,hb,_⟩,_⟩:=hm
  have h:=hB.symm.trans hb;simp at h
 obtain ⟨c,hc⟩ : ∃ c,dval (s,m,e) = c:=⟨_,rfl⟩
 have hsum:=getD_two_le x i j hij
 obtain ⟨p,hp0⟩ : ∃ p,x.getD i 0 = p:=⟨_,rfl⟩
 obtain ⟨q,hq0⟩ : ∃ q,x.getD j 0 = q:=⟨_,rfl⟩
 have hpq : p + q <= 20:=by omega
 have hR : halfR i j x c = halfTo i j x c (p + 1):=by unfold halfR halfTo;rw [hp0]
 rw [hc,hR]
 have lX:=hX.lt;have lB:=hB.lt;have lM:=hM.lt;have lm:=hm.lt;have lI:=hI.lt;have lJ:=hJ.lt
 have Hx0:=lid hx;have Hd:=lid hd;have Hf0:=lid hf;have Hc0:=lid hc;have HT:=lid hT;have Hp0:=lid hp0;have Hq0:=lid hq0;have Hs:=lid hs
 clear hx hd hf hc hT hsum hR hs
 have hmi : (byteC (x.map UInt8.ofNat))[i]? = some (.int .u8 (p : Int)):=by rw [byteC_row x i hi (by omega),Hp0.out]
 have c0 : ∀ W,Below w.heap.size w W -> W.cell? ⟨bM,i,none⟩ = some (.int .u8 (p : Int)):=fun W hW=>by rw [(hM.below hW).cell,hmi]
 obtain ⟨W,hW⟩ : ∃ W,w.alloc (.cells #[.bool s,.string (bs m),.int .i64 e] 36) = W:=⟨_,rfl⟩
 have hb0 : Below w.heap.size w W:=by rw [<- hW];exact (Below.refl _ _).alloc (Nat.le_refl _) _
 have hcb : Blk W w.heap.size 36 [.bool s,.string (bs m),.int .i64 e]:=by rw [<- hW];exact Blk.new _ _ _
 have i0 : W.cell? ⟨bi,0,none⟩ = some (.int .i64 (i : Int)):=(hI.below hb0).cell 0
 have m0:=c0 W hb0
 have hixi:=i67x5 x.length capM i (i : Int) (rfl : (some ⟨bM,0,none⟩ : Option Addr) = _) hi rfl
 have hixj:=i67x5 x.length capM j (j : Int) (rfl : (some ⟨bM,0,none⟩ : Option Addr) = _) hj rfl
 rw [Nat.mul_one,Nat.zero_add] at hixi hixj
 have Hb0:=lid hb0;have Hcb:=lid hcb
 clear hb0 hcb c0 hmi hp0 hq0
 have hlw : W.heap.size = w.heap.size + 1:=by rw [<- hW];simp
 have Hlw:=lid hlw;clear hlw
 go_enter Tryz.func43,Tryz.ntmps43
 go_wp2_with fail
 refine (chosen_any p (by omega) W).mono ?_
 rintro e' w1 ⟨rfl,hrow,hb1⟩
 have Hrow:=lid hrow;have Hb1:=lid hb1
 clear hrow hb1
 have HX1:=lid ((hX.below Hb0.out).below Hb1.out);have HI1:=lid ((hI.below Hb0.out).below Hb1.out);have HJ1:=lid ((hJ.below Hb0.out).below Hb1.out);have HB1:=lid ((hB.below Hb0.out).below Hb1.out);have Hm1:=lid ((hm.below Hb0.out).below Hb1.out);have HM1:=lid ((hM.below Hb0.out).below Hb1.out);have Hc1:=lid (Hcb.out.below Hb1.out)
 have Hbb:=lid (bnext Hb0.out Hb1.out)
 clear hX hI hJ hB hm hM i0 m0
 go_wp2_with fail
 go_loopw [8,16] (fun _ u wr=>∃ t : Nat,t <= p + 1 /\ u = .int .i64 (t : Int) /\ Blk wr w.heap.size 36 [.bool s,.string (bs m),.int .i64 e] /\ Blk wr bx 64 [.int .i64 v,.int .i64 d,.slice (some ⟨bB,0,none⟩) ds.length ds.length,.map (some bm)] /\ Blk wr bi 3 [.int .i64 (i : Int)] /\ Blk wr bj 3 [.int .i64 (j : Int)] /\ Blk wr bM 5 (byteC ((mv x i j (min t p)).map UInt8.ofNat)) /\ Blk wr bB 36 (dC (putAll f ds (halfTo i j x c t))) /\ Mp wr bm n f /\ Blk wr W.heap.size 2 (ils (p + 1) (ch p)) /\ Chg (fun b=>b = bM \/ b = bB) w wr) (fun _ u _=>p + 1 - (intOf u).toNat)
 case atStart=>
  refine ⟨0,Nat.zero_le _,rfl,Hc1.out,HX1.out,HI1.out,HJ1.out,?_,HB1.out,Hm1.out,Hrow.out,Chg.of_below Hbb.out⟩
  rw [Nat.zero_min,mv_zero x i j hij hi hj];exact HM1.out
 case round=>
  clear HX1 HI1 HJ1 HB1 Hm1 HM1 Hc1 Hrow
  obtain ⟨t,ht,rfl,pc,pX,pI,pJ,pM,pB,pm,pr,pg⟩:=hrel
  by_cases hlt : t < p + 1
  . rw [Nat.min_eq_left (by omega)] at pM
    have hrt : wr.cell? ⟨W.heap.size,t,none⟩ = some (.int .i64 (ch p t : Int)):=by rw [pr.cell,ils_get _ _ _ hlt]
    have hixr:=i89x2 (p + 1) (p + 1) t (t : Int) (rfl : (some ⟨W.heap.size,0,none⟩ : Option Addr) = _) hlt rfl
    rw [Nat.mul_one,Nat.zero_add] at hixr
    have hchl : ch p t <= 1048576:=Nat.le_trans (ch_le p t) (Nat.pow_le_pow_right (by decide) (show p <= 20 by omega))
    have hgi : (mv x i j t).getD i 0 = p - t:=by rw [getD_mv _ _ _ _ _ hij hi hj,if_neg (fun e=>hij e.symm),if_pos rfl,Hp0.out]
    have hgj : (mv x i j t).getD j 0 = q + t:=by rw [getD_mv _ _ _ _ _ hij hi hj,if_pos rfl,Hq0.out]
    have hmj : wr.cell? ⟨bM,j,none⟩ = some (.int .u8 ((q + t : Nat) : Int)):=by rw [pM.cell,byteC_row _ j (by rw [mv_length];exact hj) (by omega),hgj]
    have Hmi : Hid ((byteC ((mv x i j t).map UInt8.ofNat))[i]? = some (.int .u8 ((p - t : Nat) : Int))):=by show _ = _;rw [byteC_row _ i (by rw [mv_length];exact hi) (by omega),hgi]
    obtain ⟨y,hy⟩ : ∃ y,mv x i j t = y:=⟨_,rfl⟩
    have hyl : y.length = x.length:=by rw [<- hy,mv_length]
    rw [hy] at pM Hmi
    have hft:=Hf0.out t (by rw [Hp0.out];omega)
    rw [hy] at hft
    obtain ⟨cs,hcs⟩ : ∃ cs,putAll f ds (halfTo i j x c t) = cs:=⟨_,rfl⟩
    have hcl : cs.length = ds.length:=by rw [<- hcs,putAll_length]
    have hcsm : ∀ z ∈ cs,Sm (C + t) z:=by
     rw [<- hcs]
     have:=putAll_sm f ds (halfTo i j x c t) Hd.out (halfTo_sm (by rw [<- Hc0.out];exact Hx0.out.2) Hs.out hij hC t (by rw [Hp0.out];omega))
     intro z hz
     have h1:=this z hz
     have e1 : (halfTo i j x c t).length = t:=by simp [halfTo]
     rw [e1] at h1;exact h1
    rw [hcs] at pB
    obtain ⟨D1,hD1⟩ : ∃ D1,Dyadic.ofIntWithPrec (ch p t : Int) 0 = D1:=⟨_,rfl⟩
    have hD1c : D1 = chD p t:=by rw [<- hD1];rfl
    have hD1s : Sm 21 D1:=by rw [hD1c];exact chD_sm p t (by omega)
    obtain ⟨D2,hD2⟩ : ∃ D2,c * D1 = D2:=⟨_,rfl⟩
    have hcS : Sm B c:=by rw [<- Hc0.out];exact Hx0.out.2
    have hD2s : Sm (B + 21) D2:=by rw [<- hD2];exact hcS.mul hD1s
    obtain ⟨D3,hD3⟩ : ∃ D3,D2 * hp (q + t) = D3:=⟨_,rfl⟩
    have hD3s : Sm C D3:=by rw [<- hD3];exact (hD2s.mul (hp_sm (q + t))).mono (by omega)
    have HD1:=lid hD1
    have HD2 : Hid (dval (s,m,e) * dval (sgnB (dN D1),nt (dN D1).natAbs,dE D1) = D2):=by
     show dval (s,m,e) * dval (canon D1) = D2
     rw [dval_canon,Hc0.out];exact hD2
    have HD3 : Hid (dval (sgnB (dN D2),nt (dN D2).natAbs,dE D2 + -((q + t : Nat) : Int)) = D3):=by show _ = _;rw [shift_half];exact hD3
    have HF1 : Hid (Fit (B + 21) (sgnB (dN D1),nt (dN D1).natAbs,dE D1)):=(hD1s.mono (by omega)).fit (by omega)
    have HFx : Hid (Fit (B + 21) (s,m,e)):=Hx0.out.mono (by omega)
    have HO2 : Hid (Ok (sgnB (dN D2),nt (dN D2).natAbs,dE D2)):=hD2s.ok (by omega)
    have HF3 : Hid (Fit (C + t) (sgnB (dN D3),nt (dN D3).natAbs,dE D3)):=(hD3s.mono (by omega)).fit (by omega)
    obtain ⟨Dn,hDn⟩ : ∃ Dn,cs[f (y.map UInt8.ofNat)]'(by omega) + D3 = Dn:=⟨_,rfl⟩
    have Hst : Hid (cs.set (f (y.map UInt8.ofNat)) Dn = putAll f ds (halfTo i j x c (t + 1))):=by
     show _ = _
     rw [halfTo_succ,putAll_append,hcs,<- hDn]
     show _ = addAt _ _ _
     unfold addAt
     rw [hy,Hp0.out,Hq0.out,<- hD3,<- hD2,hD1c]
     congr 1
     have : f (y.map UInt8.ofNat) < cs.length:=by omega
     simp [this]
    have Hcsm:=lid hcsm
    have Hhcs:=lid hcs
    have HDn : Hid (cs[f (y.map UInt8.ofNat)]'(by omega) + dval (sgnB (dN D3),nt (dN D3).natAbs,dE D3) = Dn):=by
     show _ + dval (canon D3) = _
     rw [dval_canon];exact hDn
    have hTr : Tab wr:=pg.tab HT.out (by rintro (h | h);exact t1 h;exact t2 h)
    have Hput:=fun W' hW'=>put_any v d bB bm bM capM n (f (y.map UInt8.ofNat)) (C + t) f cs (y.map UInt8.ofNat) (sgnB (dN D3)) (nt (dN D3).natAbs) (dE D3) Dn W' (pB.below hW') (pm.below hW') (pM.below hW') (by simp;omega) rfl (by omega) HF3.out (Hcsm.out _ (List.getElem_mem _)) (by omega) HDn.out (hTr.below hW')
    rw [List.length_map,hyl,hcl] at Hput
    replace Hput:=lid Hput
    have Hc:=lid pc;have Hx:=lid pX;have Hj:=lid pJ;have HpI:=lid pI;have HpM:=lid pM;have HpB:=lid pB;have Hpm:=lid pm;have Hpr:=lid pr;have Hpg:=lid pg;have HTr:=lid hTr
    have Hk : Hid (Win wr bM j [.int .u8 ((q + t : Nat) : Int)]):=fun k hk=>by
     obtain rfl : k = 0:=by simp at hk;omega
     exact hmj
    have Hy:=lid hy
    clear pc pX pI pJ pM pB pm pr pg hD1 hD2 hD3 hDn hD1c hcs hy hgi hgj hmj hTr hcsm hcS hD1s hD2s hD3s
    obtain ⟨z,hz⟩ : ∃ z : Int,((q + t : Nat) : Int) = z:=⟨_,rfl⟩
    have hzb : 0 <= z /\ z <= 20:=by omega
    rw [hz] at Hk HD3
    have Hz:=lid hz;clear hz
    obtain ⟨ct,hct⟩ : ∃ ct : Int,(ch p t : Int) = ct:=⟨_,rfl⟩
    have hctb : 0 <= ct /\ ct <= 1048576:=by omega
    rw [hct] at hrt HD1
    clear hct hchl
    have Hb : Hid (Below wr.heap.size wr wr):=Below.refl _ _
    have hwz1 : IntKind.i64.wrap z = z:=by rw [IntKind.wrap_i64];omega
    have hwz2 : IntKind.i64.wrap (-z) = -z:=by rw [IntKind.wrap_i64];omega
    go_wp2_with fail
    obtain ⟨c0,c1,c2⟩:=Hc.out.c3
    obtain ⟨x0,x1,x2,x3⟩:=Hx.out.c4
    have j0:=Hj.out.c1
    have k0:=Hk.out.w1
    refine wp_region_plan (fun w'=>w'.cell? ⟨w.heap.size,0,none⟩ = some (.bool s) /\ w'.cell? ⟨w.heap.size,1,none⟩ = some (.string (bs m)) /\ w'.cell? ⟨w.heap.size,2,none⟩ = some (.int .i64 e) /\ w'.cell? ⟨bx,0,none⟩ = some (.int .i64 v) /\ w'.cell? ⟨bx,1,none⟩ = some (.int .i64 d) /\ w'.cell? ⟨bx,2,none⟩ = some (.slice (some ⟨bB,0,none⟩) ds.length ds.length) /\ w'.cell? ⟨bx,3,none⟩ = some (.map (some bm)) /\ w'.cell? ⟨bj,0,none⟩ = some (.int .i64 (j : Int)) /\ w'.cell? ⟨bM,j,none⟩ = some (.int .u8 z)) (fun i=>Nat.blt i 100000) [(0,true),(1,true),(2,true),(3,true),(7,true),(8,true),(9,true),(10,true),(11,true),(12,true),(4,false),(5,false),(6,false),(13,false),(14,false)] (by kernel_rfl) (by kernel_rfl) rfl (by kernel_rfl) (fun o c a v w=>by cases o.dst<;>exact id) ⟨c0,c1,c2,x0,x1,x2,x3,j0,k0⟩ ?_
    iterate 10 (refine planT rfl rfl (v:=?_) (fun w' hw'=>?_) ?_;rotate_left;(focus obtain ⟨q0,q1,q2,q3,q4,q5,q6,q7,q8⟩:=hw';go_simp;try with_reducible rfl);try simp only [Act.put,U1,U2,U3])
    refine planF rfl rfl (fun K hK=>?_)
    go_simp
    with_reducible refine (dOf_any ct D1 HD1.out _ (by omega) (by first | exact (HTr.out.below Hb.out) | exact Tab.drew (HTr.out.below Hb.out) | exact Tab.alloc (HTr.out.below Hb.out) _ | exact Tab.drew (Tab.alloc (HTr.out.below Hb.out) _) | exact Tab.alloc (Tab.drew (HTr.out.below Hb.out)) _)).mono ?_
    rintro e w3 ⟨rfl,hq⟩
    have hbn : Below wr.heap.size wr w3:=by first | exact hq | exact bundrew hq
    clear c0 c1 c2
    clear x0 x1 x2 x3
    clear j0
    clear k0
    replace Hc:=kB Hc hbn
    replace Hx:=kB Hx hbn
    replace Hj:=kB Hj hbn
    replace Hk:=kW Hk hbn
    obtain ⟨c0,c1,c2⟩:=Hc.out.c3
    obtain ⟨x0,x1,x2,x3⟩:=Hx.out.c4
    have j0:=Hj.out.c1
    have k0:=Hk.out.w1
    replace Hb:=bnx Hb hbn;clear hbn
    refine hK _ _ (fun _=>⟨c0,c1,c2,x0,x1,x2,x3,j0,k0⟩) ?_;clear hK K
    try simp only [Act.put,U1,U2,U3]
    refine planF rfl rfl (fun K hK=>?_)
    go_simp
    refine hK _ _ (fun _=>⟨cell_new c0,cell_new c1,cell_new c2,cell_new x0,cell_new x1,cell_new x2,cell_new x3,cell_new j0,cell_new k0⟩) ?_;clear hK K
    try simp only [Act.put,U1,U2,U3]
    refine plan_world (fun w4=>Blk w4 (w3.heap.size) 36 [.bool s,.string (bs m),.int .i64 e,.bool (sgnB (dN D1)),.string (bs (nt (dN D1).natAbs)),.int .i64 (dE D1)] /\ Below w3.heap.size w3 w4) (by first | exact nw1 | exact nw2) ?_
    rintro w4 ⟨qa,hbn⟩
    clear c0 c1 c2
    clear x0 x1 x2 x3
    clear j0
    clear k0
    have lz_c_w4:=Hc.out.lt
    have lz_x_w4:=Hx.out.lt
    have lz_j_w4:=Hj.out.lt
    replace Hc:=kB Hc hbn
    replace Hx:=kB Hx hbn
    replace Hj:=kB Hj hbn
    replace Hk:=kW Hk hbn
    have Ha:=lid qa;clear qa
    obtain ⟨c0,c1,c2⟩:=Hc.out.c3
    obtain ⟨x0,x1,x2,x3⟩:=Hx.out.c4
    have j0:=Hj.out.c1
    have k0:=Hk.out.w1
    obtain ⟨a0,a1,a2,a3,a4,a5⟩:=Ha.out.c6
    replace Hb:=bnx Hb hbn;clear hbn
    refine planF rfl rfl (fun K hK=>?_)
    go_simp
    with_reducible refine (dMul_two s m e (sgnB (dN D1)) (nt (dN D1).natAbs) (dE D1) D2 (B + 21) HD2.out w3.heap.size 2 36 _ HFx.out HF1.out (by omega) Ha.out (by first | exact (HTr.out.below Hb.out) | exact Tab.drew (HTr.out.below Hb.out) | exact Tab.alloc (HTr.out.below Hb.out) _ | exact Tab.drew (Tab.alloc (HTr.out.below Hb.out) _) | exact Tab.alloc (Tab.drew (HTr.out.below Hb.out)) _)).mono ?_
    rintro e w5 ⟨rfl,hq⟩
    have hbn : Below w4.heap.size w4 w5:=by first | exact hq | exact bundrew hq
    clear c0 c1 c2
    clear x0 x1 x2 x3
    clear j0
    clear k0
    clear a0 a1 a2 a3 a4 a5
    replace Hc:=kB Hc hbn
    replace Hx:=kB Hx hbn
    replace Hj:=kB Hj hbn
    replace Hk:=kW Hk hbn
    replace Ha:=kB Ha hbn
    obtain ⟨c0,c1,c2⟩:=Hc.out.c3
    obtain ⟨x0,x1,x2,x3⟩:=Hx.out.c4
    have j0:=Hj.out.c1
    have k0:=Hk.out.w1
    obtain ⟨a0,a1,a2,a3,a4,a5⟩:=Ha.out.c6
    replace Hb:=bnx Hb hbn;clear hbn
    refine hK _ _ (fun _=>⟨c0,c1,c2,x0,x1,x2,x3,j0,k0⟩) ?_;clear hK K
    try simp only [Act.put,U1,U2,U3]
    refine planF rfl rfl (fun K hK=>?_)
    go_simp
    with_reducible refine (shift_any (sgnB (dN D2)) (nt (dN D2).natAbs) (dE D2) (-z) D3 HD3.out _ HO2.out (by omega) (by first | exact (HTr.out.below Hb.out) | exact Tab.drew (HTr.out.below Hb.out) | exact Tab.alloc (HTr.out.below Hb.out) _ | exact Tab.drew (Tab.alloc (HTr.out.below Hb.out) _) | exact Tab.alloc (Tab.drew (HTr.out.below Hb.out)) _)).mono ?_
    rintro e w6 ⟨rfl,hq⟩
    have hbn : Below w5.heap.size w5 w6:=by first | exact hq | exact bundrew hq
    clear c0 c1 c2
    clear x0 x1 x2 x3
    clear j0
    clear k0
    clear a0 a1 a2 a3 a4 a5
    replace Hc:=kB Hc hbn
    replace Hx:=kB Hx hbn
    replace Hj:=kB Hj hbn
    replace Hk:=kW Hk hbn
    replace Ha:=kB Ha hbn
    obtain ⟨c0,c1,c2⟩:=Hc.out.c3
    obtain ⟨x0,x1,x2,x3⟩:=Hx.out.c4
    have j0:=Hj.out.c1
    have k0:=Hk.out.w1
    obtain ⟨a0,a1,a2,a3,a4,a5⟩:=Ha.out.c6
    replace Hb:=bnx Hb hbn;clear hbn
    refine hK _ _ (fun _=>⟨c0,c1,c2,x0,x1,x2,x3,j0,k0⟩) ?_;clear hK K
    try simp only [Act.put,U1,U2,U3]
    refine planF rfl rfl (fun K hK=>?_)
    go_simp
    refine (Hput.out w6 Hb.out).mono ?_
    rintro e' w7 ⟨⟨r,rfl⟩,qB,qg⟩
    have kp : ∀ b,b ≠ bB -> some b ≠ some bB:=fun b h e=>h (by cases e;rfl)
    have C7 : Chg (fun b=>b = bM \/ b = bB) w w7:=(Hpg.out.trans (Chg.of_below (Y:=fun b=>b = bM \/ b = bB) Hb.out) (fun b h=>.inl h)).trans (Chg.of_grown (Y:=fun b=>b = bM \/ b = bB) qg (fun b e=>by cases e;exact .inr rfl)) (fun b h=>.inl h)
    have z6:=Hb.out.size
    have lw1:=Hpr.out.lt;have lw0:=Hlw.out
    have Gc:=lid (Hc.out.grown qg (kp _ (by omega)));have Gx:=lid (Hx.out.grown qg (kp _ nXB));have Gj:=lid (Hj.out.grown qg (kp _ (fun e=>nBJ e.symm)))
    have Gi:=lid ((HpI.out.below Hb.out).grown qg (kp _ (fun e=>nBI e.symm)));have GM:=lid ((HpM.out.below Hb.out).grown qg (kp _ nMB));have Gr:=lid ((Hpr.out.below Hb.out).grown qg (kp _ (by omega)))
    have Gm:=lid ((Hpm.out.below Hb.out).kept qg (kp _ nmB))
    rw [Hst.out] at qB
    have GB:=lid qB;have HC7:=lid C7
    clear lw1 lw0 z6
    refine hK _ _ (fun _=>⟨Gc.out.cell 0,Gc.out.cell 1,Gc.out.cell 2,Gx.out.cell 0,Gx.out.cell 1,Gx.out.cell 2,Gx.out.cell 3,Gj.out.cell 0,grownBy_cell qg k0 (kp _ nMB)⟩) ?_
    have k7 : w7.cell? ⟨bM,j,none⟩ = some (.int .u8 z):=grownBy_cell qg k0 (kp _ nMB)
    clear hK K c0 c1 c2 x0 x1 x2 x3 j0 k0 qg qB C7 Hput Hb Ha
    try simp only [Act.put,U1,U2,U3]
    simp only [wpPlan]
    obtain ⟨u,hu⟩ : ∃ u : Int,((p - t : Nat) : Int) = u:=⟨_,rfl⟩
    have hub : 0 <= u /\ u <= 20:=by omega
    have i7 : w7.cell? ⟨bi,0,none⟩ = some (.int .i64 (i : Int)):=Gi.out.cell 0
    have m7 : w7.cell? ⟨bM,i,none⟩ = some (.int .u8 u):=by rw [GM.out.cell,Hmi.out,hu]
    have j7 : w7.cell? ⟨bj,0,none⟩ = some (.int .i64 (j : Int)):=Gj.out.cell 0
    have fi : w7.frozen? ⟨bM,i,none⟩ = false:=GM.out.free _
    by_cases hpt : t < p
    . have hu1 : 0 < u:=by omega
      have hwu : IntKind.u8.wrap (u - 1) = u - 1:=by rw [IntKind.wrap_u8];omega
      have hwz : IntKind.u8.wrap (z + 1) = z + 1:=by rw [IntKind.wrap_u8];omega
      obtain ⟨W8,hW8⟩ : ∃ W8,w7.setCell ⟨bM,i,none⟩ (.int .u8 (u - 1)) = W8:=⟨_,rfl⟩
      have GM8 : Hid (Blk W8 bM 5 (byteC ((y.set i (p - t - 1)).map UInt8.ofNat))):=by
       show Blk _ _ _ _
       rw [<- hW8,<- byteC_row_set y i (p - t - 1) (by omega),show ((p - t - 1 : Nat) : Int) = u - 1 by omega]
       exact GM.out.set i _
      have j8 : W8.cell? ⟨bj,0,none⟩ = some (.int .i64 (j : Int)):=by rw [<- hW8];exact (Gj.out.set_other ⟨bM,i,none⟩ nMJ _).cell 0
      have k8 : W8.cell? ⟨bM,j,none⟩ = some (.int .u8 z):=by rw [<- hW8];exact cell_set_at (.inr (fun e=>hij e.symm)) k7
      have fj : W8.frozen? ⟨bM,j,none⟩ = false:=GM8.out.free _
      obtain ⟨W9,hW9⟩ : ∃ W9,W8.setCell ⟨bM,j,none⟩ (.int .u8 (z + 1)) = W9:=⟨_,rfl⟩
      have GM9 : Hid (Blk W9 bM 5 (byteC ((mv x i j (min (t + 1) p)).map UInt8.ofNat))):=by
       show Blk _ _ _ _
       rw [Nat.min_eq_left (by omega),<- mv_step x i j t hij hi hj,Hy.out,Hp0.out,Hq0.out,<- hW9,<- byteC_row_set _ j (q + t + 1) (by omega),show ((q + t + 1 : Nat) : Int) = z + 1 by have:=Hz.out;omega]
       exact GM8.out.set j _
      have so : ∀ {b : Nat} {ty : TypeId} {cs : List Value},bM ≠ b -> Blk w7 b ty cs -> Blk W9 b ty cs:=fun h1 h2=>by
       rw [<- hW9,<- hW8];exact (h2.set_other ⟨bM,i,none⟩ h1 _).set_other ⟨bM,j,none⟩ h1 _
      have Gm9 : Hid (Mp W9 bm n f):=by
       show Mp _ _ _ _
       rw [<- hW9,<- hW8];exact (Gm.out.set ⟨bM,i,none⟩ nmM _).set ⟨bM,j,none⟩ nmM _
      have GC9 : Hid (Chg (fun b=>b = bM \/ b = bB) w W9):=by
       show Chg _ _ _
       rw [<- hW9,<- hW8]
       exact (HC7.out.trans (Chg.of_grown (Y:=fun b=>b = bM \/ b = bB) (grownBy_set bM rfl _) (fun b e=>by cases e;exact .inl rfl)) (fun b h=>.inl h)).trans (Chg.of_grown (Y:=fun b=>b = bM \/ b = bB) (grownBy_set bM rfl _) (fun b e=>by cases e;exact .inl rfl)) (fun b h=>.inl h)
      have lw0:=Hlw.out
      have K1:=lid (so (by omega) Gc.out);have K2:=lid (so nMX Gx.out);have K3:=lid (so nMI Gi.out);have K4:=lid (so nMJ Gj.out);have K5:=lid (so nMB GB.out);have K6:=lid (so (by omega) Gr.out)
      clear so lw0 k7 j7 hu
      go_wp2
      go_roundw
      case rel=>exact ⟨t + 1,by omega,by go_num,K1.out,K2.out,K3.out,K4.out,GM9.out,K5.out,Gm9.out,K6.out,GC9.out⟩
      case measure=>simp [intOf];omega
    . obtain rfl : t = p:=by omega
      have hu1 : u = 0:=by omega
      subst hu1
      go_wp2
      go_roundw
      case rel=>
       refine ⟨t + 1,by omega,by go_num,Gc.out,Gx.out,Gi.out,Gj.out,?_,GB.out,Gm.out,Gr.out,HC7.out⟩
       rw [Nat.min_eq_right (by omega),Hy.out];exact GM.out
      case measure=>simp [intOf]
  . obtain rfl : t = p + 1:=by omega
    go_wp2
    go_end0
    exact ⟨⟨_,rfl⟩,pB,pg⟩
theorem keysL_rows (V D : Nat) (hV : 1 <= V) (hV2 : V <= 8) (hD : D <= 20) (hc : cnt V D <= 512) : keysL (V : Int) (D : Int) = (rowsL (V + 1) D).map fun x=>x.map UInt8.ofNat:=by
 unfold keysL prodsL
 rw [if_pos ⟨by omega,by omega,by omega,by omega,by simpa using hc⟩]
 simp
def putsTo (P : Nat -> Puts) (k : Nat) : Puts:=(List.range k).flatMap P
theorem putsTo_succ (P : Nat -> Puts) (k : Nat) : putsTo P (k + 1) = putsTo P k ++ P k:=by
 unfold putsTo;rw [List.range_succ,List.flatMap_append];simp
theorem putsTo_len (P : Nat -> Puts) (N n k : Nat) (hk : k <= n) (h : ∀ k,k < n -> (P k).length <= N) : (putsTo P k).length <= k * N:=by
 induction k with
 | zero=>simp [putsTo]
 | succ k ih=>rw [putsTo_succ,List.length_append,Nat.add_mul,Nat.one_mul];have:=ih (by omega);have:=h k (by omega);omega
theorem putsTo_all {Q : List Nat × Dyadic -> Prop} (P : Nat -> Puts) (n k : Nat) (hk : k <= n) (h : ∀ k,k < n -> ∀ p ∈ P k,Q p) : ∀ p ∈ putsTo P k,Q p:=by
 intro p hp
 unfold putsTo at hp
 rw [List.mem_flatMap] at hp
 obtain ⟨q,hq,hp⟩:=hp
 rw [List.mem_range] at hq
 exact h q (by omega) p hp
theorem dval_raws (ds : List Dyadic) : (ds.map canon).map dval = ds:=by
 rw [List.map_map]
 conv=>rhs;rw [<- List.map_id ds]
 exact List.map_congr_left (fun d _=>dval_canon d)
theorem halfR_len (i j : Nat) (x : List Nat) (c : Dyadic) : (halfR i j x c).length = x.getD i 0 + 1:=by simp [halfR]
theorem halfR_halfTo (i j : Nat) (x : List Nat) (c : Dyadic) : halfR i j x c = halfTo i j x c (x.getD i 0 + 1):=rfl
theorem half_any (V D : Nat) (a : Option Addr) (cap : Nat) (raws : List Raw) (i j B : Nat) (w : World) (hV : 1 <= V) (hV2 : V <= 8) (hD : D <= 20) (hc : cnt V D <= 512) (hlen : raws.length = cnt V D) (hi : i <= V) (hj : j <= V) (hij : i ≠ j)
 (hfit : ∀ x ∈ raws,Fit B x) (hBB : B <= 1000000) (ha : At w a (raws.flatMap numC)) (hT : Tab w) :
 Calls Tryz.prog 21 #[.agg #[.int .i64 (V : Int),.int .i64 (D : Int),.slice a raws.length cap],.int .i64 (i : Int),.int .i64 (j : Int)] w fun e w'=>∃ r,
  e = .returned (.agg #[.int .i64 (V : Int),.int .i64 (D : Int),.slice (some ⟨r,0,none⟩) raws.length raws.length]) /\ Blk w' r 36 (dC (colL (rowsL (V + 1) D) (halfP i j (rowsL (V + 1) D) (raws.map dval)))) /\ w.heap.size <= r /\ Below w.heap.size w w':=by
 have hRl : (rowsL (V + 1) D).length = raws.length:=by rw [rowsL_count,hlen]
 have hkeys:=keysL_rows V D hV hV2 hD hc
 have hbeg:=begin_any (V : Int) (D : Int) (fun l hl=>Nat.le_trans (keysL_len _ _ l hl) (by decide))
 obtain ⟨R,hR⟩ : ∃ R,rowsL (V + 1) D = R:=⟨_,rfl⟩
 obtain ⟨f,hf⟩ : ∃ f,place (R.map fun x=>x.map UInt8.ofNat) R.length = f:=⟨_,rfl⟩
 have hkl : (keysL (V : Int) (D : Int)).length = raws.length:=by rw [hkeys,List.length_map,hRl]
 have hplace : ∀ x ∈ R,∃ q,∃ h : q < R.length,R[q] = x /\ f (x.map UInt8.ofNat) = q:=by
  intro x hx
  rw [<- hR] at hx
  have:=place_row (n:=V) (s:=D) (by omega) hx
  subst hR;subst hf
  exact this
 have hpl : place (keysL (V : Int) (D : Int)) raws.length = f:=by rw [hkeys,<- hRl,hR,hf]
 rw [hkl,hpl] at hbeg
 rw [hR] at hRl ⊢
 have hmem : ∀ x ∈ R,x.length = V + 1 /\ x.sum = D:=fun x hx=>(mem_rowsL V D x).1 (by rw [hR];exact hx)
 have hmem2 : ∀ x,x.length = V + 1 -> x.sum = D -> x ∈ R:=fun x h1 h2=>by rw [<- hR];exact (mem_rowsL V D x).2 ⟨h1,h2⟩
 have hnd : R.Nodup:=by rw [<- hR];exact rowsL_nodup V D
 have Hbeg:=lid hbeg;have Hkeys:=lid hkeys;have Hplace:=lid hplace;have Hmem:=lid hmem;have Hmem2:=lid hmem2;have Hnd:=lid hnd;have HRl:=lid hRl;have Hfit:=lid hfit;have Hlen:=lid hlen;have HA:=lid ha;have HT:=lid hT;have HR:=lid hR;have Hkl:=lid hkl
 have Hal : Hid (∀ b o,a = some ⟨b,o,none⟩ -> b < w.heap.size):=by
  intro b o e
  subst e
  refine ha.lt (fun h0=>?_)
  have h1:=congrArg List.length h0
  rw [flat_length numC 3 (fun _=>rfl)] at h1
  have:=cnt_pos V D
  rw [List.length_nil] at h1
  omega
 clear hbeg hkeys hplace hmem hmem2 hnd hRl hfit hlen ha hT hR hf hpl hkl
 obtain ⟨W,hW⟩ : ∃ W,(((w.alloc (.cells #[.int .i64 (V : Int),.int .i64 (D : Int),.slice a raws.length cap] 24)).alloc (.cells #[.int .i64 (i : Int)] 3)).alloc (.cells #[.int .i64 (j : Int)] 3)).alloc (.cells #[.int .i64 0,.int .i64 0,.slice none 0 0] 24) = W:=⟨_,rfl⟩
 have Hb : Hid (Below w.heap.size w W):=by rw [<- hW];exact ((((Below.refl _ _).alloc (Nat.le_refl _) _).alloc (by simp) _).alloc (by simp<;>omega) _).alloc (by simp<;>omega) _
 have Hq : Hid (Blk W w.heap.size 24 [.int .i64 (V : Int),.int .i64 (D : Int),.slice a raws.length cap]):=by rw [<- hW];exact (((Blk.new _ _ _).alloc _).alloc _).alloc _
 have Hi : Hid (Blk W (w.heap.size + 1) 3 [.int .i64 (i : Int)]):=by rw [<- hW];exact ((Blk.newAt _ _ _ (by simp)).alloc _).alloc _
 have Hj : Hid (Blk W (w.heap.size + 1 + 1) 3 [.int .i64 (j : Int)]):=by rw [<- hW];exact (Blk.newAt _ _ _ (by simp)).alloc _
 have Hr : Hid (Blk W (w.heap.size + 1 + 1 + 1) 24 [.int .i64 0,.int .i64 0,.slice none 0 0]):=by rw [<- hW];exact Blk.newAt _ _ _ (by simp)
 have q0 : W.cell? ⟨w.heap.size,0,none⟩ = some (.int .i64 (V : Int)):=Hq.out.cell 0
 have q1 : W.cell? ⟨w.heap.size,1,none⟩ = some (.int .i64 (D : Int)):=Hq.out.cell 1
 go_enter Tryz.func21,Tryz.ntmps21
 go_wp2_with fail
 refine (Hbeg.out W).mono ?_
 rintro e w1 ⟨bB,bm,rfl,⟨hB,lB,hm,lm⟩,hbn⟩
 have lz1:=Hq.out.lt;have lz2:=Hi.out.lt;have lz3:=Hj.out.lt;have lz4:=Hr.out.lt
 replace Hq:=lid (Hq.out.below hbn);replace Hi:=lid (Hi.out.below hbn);replace Hj:=lid (Hj.out.below hbn);replace Hr:=lid (Hr.out.below hbn)
 replace Hb:=lid (bnext Hb.out hbn)
 clear q0 q1 hbn
 have lB1:=hB.lt;have lm1:=hm.lt;have sz1:=Hb.out.size
 obtain ⟨W3,hW3⟩ : ∃ W3,w1.alloc (.cells #[.int .i64 (V : Int),.int .i64 (D : Int),.slice (some ⟨bB,0,none⟩) raws.length raws.length,.map (some bm)] 64) = W3:=⟨_,rfl⟩
 have hb3 : Below w1.heap.size w1 W3:=by rw [<- hW3];exact (Below.refl _ _).alloc (Nat.le_refl _) _
 have Hx : Hid (Blk W3 w1.heap.size 64 [.int .i64 (V : Int),.int .i64 (D : Int),.slice (some ⟨bB,0,none⟩) raws.length raws.length,.map (some bm)]):=by rw [<- hW3];exact Blk.new _ _ _
 replace Hq:=lid (Hq.out.below hb3);replace Hi:=lid (Hi.out.below hb3);replace Hj:=lid (Hj.out.below hb3);replace Hr:=lid (Hr.out.below hb3)
 replace Hb:=lid (bnext Hb.out hb3)
 have HB:=lid (hB.below hb3);have Hm:=lid (hm.below hb3)
 clear hB hm hb3
 have q0 : W3.cell? ⟨w.heap.size,0,none⟩ = some (.int .i64 (V : Int)):=Hq.out.cell 0
 have q1 : W3.cell? ⟨w.heap.size,1,none⟩ = some (.int .i64 (D : Int)):=Hq.out.cell 1
 have q2 : W3.cell? ⟨w.heap.size,2,none⟩ = some (.slice a raws.length cap):=Hq.out.cell 2
 have x0 : W3.cell? ⟨w1.heap.size,0,none⟩ = some (.int .i64 (V : Int)):=Hx.out.cell 0
 have x1 : W3.cell? ⟨w1.heap.size,1,none⟩ = some (.int .i64 (D : Int)):=Hx.out.cell 1
 have x2 : W3.cell? ⟨w1.heap.size,2,none⟩ = some (.slice (some ⟨bB,0,none⟩) raws.length raws.length):=Hx.out.cell 2
 have x3 : W3.cell? ⟨w1.heap.size,3,none⟩ = some (.map (some bm)):=Hx.out.cell 3
 have sz3 : W3.heap.size = w1.heap.size + 1:=by rw [<- hW3];simp
 have Hsz3:=lid sz3;clear sz3
 obtain ⟨cs,hcs⟩ : ∃ cs,raws.map dval = cs:=⟨_,rfl⟩
 obtain ⟨P,hP⟩ : ∃ P : Nat -> Puts,(fun k=>halfR i j (R.getD k []) (cs.getD k 0)) = P:=⟨_,rfl⟩
 have hPl : ∀ k,k < R.length -> (P k).length <= 21:=by
  intro k hk
  have hm:=Hmem.out _ (List.getElem_mem hk)
  have e : R.getD k [] = R[k]:=by simp [hk]
  have:=getD_le_sum R[k] i
  rw [<- hP]
  dsimp only
  rw [halfR_len,e];omega
 have hcv : ∀ k (h : k < raws.length),cs.getD k 0 = dval raws[k]:=fun k h=>by rw [<- hcs];simp [h]
 have hPs : ∀ k,k < R.length -> ∀ p ∈ P k,Sm (B + 42) p.2:=by
  intro k hk
  have hm:=Hmem.out _ (List.getElem_mem hk)
  have e : R.getD k [] = R[k]:=by simp [hk]
  rw [<- hP]
  dsimp only
  have hk2 : k < raws.length:=by rw [<- HRl.out];exact hk
  rw [halfR_halfTo,e,hcv k hk2]
  exact halfTo_sm (Hfit.out _ (List.getElem_mem hk2)).2 (by omega) hij (Nat.le_refl _) _ (Nat.le_refl _)
 have hPr : ∀ k,k < R.length -> ∀ p ∈ P k,p.1 ∈ R:=by
  intro k hk p hp
  have hm:=Hmem.out _ (List.getElem_mem hk)
  have e : R.getD k [] = R[k]:=by simp [hk]
  rw [<- hP] at hp
  dsimp only at hp
  unfold halfR at hp
  rw [e,List.mem_map] at hp
  obtain ⟨t,ht,rfl⟩:=hp
  rw [List.mem_range] at ht
  exact Hmem2.out _ (by rw [mv_length];exact hm.1) (by rw [mv_sum _ _ _ _ hij (by omega) (by omega) (by omega)];exact hm.2)
 have Htb : Hid (0 < w.heap.size):=HT.out.lt
 have hmade:=smade_any (V : Int) (D : Int) bB raws.length bm 43 #[.pointer (some ⟨w.heap.size + 1,0,none⟩),.pointer (some ⟨w1.heap.size,0,none⟩),.pointer (some ⟨w.heap.size + 1 + 1,0,none⟩)] (V : Int) (D : Int) a cap raws
  (fun k W=>Blk W w1.heap.size 64 [.int .i64 (V : Int),.int .i64 (D : Int),.slice (some ⟨bB,0,none⟩) raws.length raws.length,.map (some bm)] /\ Blk W (w.heap.size + 1) 3 [.int .i64 (i : Int)] /\ Blk W (w.heap.size + 1 + 1) 3 [.int .i64 (j : Int)] /\ Blk W bB 36 (dC (putAll f (List.replicate raws.length 0) (putsTo P k))) /\ Mp W bm raws.length f /\ Tab W) W3
  Hkl.out.symm (HA.out.below Hb.out) ?hab ?hac (enters_of Tryz.func43 (by kernel_rfl) rfl) ?hJb ?hcl ?hbB ⟨Hx.out,Hi.out,Hj.out,HB.out,Hm.out,HT.out.below Hb.out⟩
 rotate_right 5
 case hbB=>have:=Hsz3.out;omega
 case hab=>
  intro b o e
  have:=Hal.out b o e;omega
 case hac=>
  intro b o e
  have:=Hal.out b o e;have:=Hb.out.size;omega
 case hJb=>
  rintro k W' W'' ⟨j1,j2,j3,j4,j5,j6⟩ hch
  have hs:=Hsz3.out
  have:=Htb.out;have:=Hb.out.size
  exact ⟨hch.blk j1 (by omega),hch.blk j2 (by omega),hch.blk j3 (by omega),hch.blk j4 (by omega),hch.mp j5 (by omega),hch.tab j6 (by omega)⟩
 case hcl=>
  rintro k hk hk2 W' bM ⟨j1,j2,j3,j4,j5,j6⟩ hM hbM
  have hs:=Hsz3.out
  have hkR : k < R.length:=by rw [HRl.out];exact hk2
  have hm:=Hmem.out _ (List.getElem_mem hkR)
  have ek : (keysL (V : Int) (D : Int))[k] = (R[k]).map UInt8.ofNat:=by
   have:=Hkeys.out;rw [HR.out] at this;simp only [this,List.getElem_map]
  rw [ek] at hM ⊢
  rw [List.length_map]
  obtain ⟨ds,hds⟩ : ∃ ds,putAll f (List.replicate raws.length 0) (putsTo P k) = ds:=⟨_,rfl⟩
  have hdl : ds.length = raws.length:=by rw [<- hds,putAll_length,List.length_replicate]
  rw [hds] at j4
  have nmB : bm ≠ bB:=by
   rintro rfl
   obtain ⟨D,⟨es,clock,hb,_⟩,_⟩:=j5
   have h:=j4.symm.trans hb;simp at h
  have hpl:=putsTo_len P 21 R.length k (by omega) hPl
  have hkb : k * 21 <= 10752:=by have:=Hlen.out;omega
  have hds2 : ∀ y ∈ ds,Sm (B + 42 + 10752) y:=by
   rw [<- hds]
   intro y hy
   have:=putAll_sm (B:=B + 42) f (List.replicate raws.length 0) (putsTo P k) (fun d hd=>by rw [List.eq_of_mem_replicate hd];exact Sm.zero _) (putsTo_all P R.length k (by omega) hPs) y hy
   exact this.mono (by omega)
  have hfx:=Hfit.out _ (List.getElem_mem hk2)
  have hh:=half1_any (V : Int) (D : Int) bB bm bM w1.heap.size (w.heap.size + 1) (w.heap.size + 1 + 1) R[k].length raws.length B (B + 42 + 10752) i j f ds R[k] raws[k].1 raws[k].2.1 raws[k].2.2 W' (by rw [hdl];exact j1) j2 j3 j4 j5 hM (by omega) (by omega) hij (by omega) (by omega)
   (fun t ht=>by
    have hmm : mv R[k] i j t ∈ R:=Hmem2.out _ (by rw [mv_length];exact hm.1) (by rw [mv_sum _ _ _ _ hij (by omega) (by omega) ht];exact hm.2)
    obtain ⟨q,hq,_,e2⟩:=Hplace.out _ hmm
    rw [e2,hdl,<- HRl.out];exact hq) hfx hds2 (by omega) (by omega) j6 (by have:=Htb.out;have:=Hb.out.size;omega) (by have:=Htb.out;omega)
  refine hh.mono ?_
  rintro e' w' ⟨he,hB',hch⟩
  refine ⟨he,⟨hch.blk j1 (by omega),hch.blk j2 (by omega),hch.blk j3 (by omega),?_,hch.mp j5 (by omega),hch.tab j6 (by have:=Htb.out;have:=Hb.out.size;omega)⟩,hch⟩
  rw [putsTo_succ,putAll_append,hds]
  have eP : P k = halfR i j R[k] (dval raws[k]):=by
   rw [<- hP]
   dsimp only
   rw [hcv k hk2]
   simp [hkR]
  rw [eP];exact hB'
 have Hmade:=lid hmade;clear hmade
 go_wp2_with fail
 refine Hmade.out.mono ?_
 rintro e w4 ⟨rfl,⟨_,_,_,hB4,_,_⟩,hch⟩
 have hs:=Hsz3.out
 have hr4 : Blk w4 (w.heap.size + 1 + 1 + 1) 24 [.int .i64 0,.int .i64 0,.slice none 0 0]:=hch.blk Hr.out (by omega)
 have r0 : w4.cell? ⟨w.heap.size + 1 + 1 + 1,0,none⟩ = some (.int .i64 0):=hr4.cell 0
 have r1 : w4.cell? ⟨w.heap.size + 1 + 1 + 1,1,none⟩ = some (.int .i64 0):=hr4.cell 1
 have r2 : w4.cell? ⟨w.heap.size + 1 + 1 + 1,2,none⟩ = some (.slice none 0 0):=hr4.cell 2
 have fr0:=hr4.free 0;have fr1:=hr4.free 1;have fr2:=hr4.free 2
 have hfin : putAll f (List.replicate raws.length 0) (putsTo P (keysL (V : Int) (D : Int)).length) = colL R (halfP i j R cs):=by
  rw [Hkl.out,<- HRl.out]
  have e : putsTo P R.length = halfP i j R cs:=by rw [<- hP];rfl
  rw [e]
  exact putAll_zero R Hnd.out f Hplace.out _ (by rw [<- e];exact putsTo_all P R.length R.length (Nat.le_refl _) hPr)
 rw [hfin] at hB4
 have HB4:=lid hB4;have Hch:=lid hch
 have Hbz:=lid (Hb.out.trans (Hch.out.below (by have:=Hb.out.size;omega) (fun b e=>by omega)))
 clear hB4 hch hr4 q0 q1 q2 x0 x1 x2 x3 hs
 go_wp2
 refine bodyPost_ret (v:=.agg #[.int .i64 (V : Int),.int .i64 (D : Int),.slice (some ⟨bB,0,none⟩) raws.length raws.length]) (by simp [results,Tryz.results21,go_sem,r0,r1,r2]) rfl ⟨bB,rfl,?_,by omega,?_⟩
 . have:=((HB4.out.set_other ⟨w.heap.size + 1 + 1 + 1,0,none⟩ (by dsimp only;omega) (.int .i64 (V : Int))).set_other ⟨w.heap.size + 1 + 1 + 1,1,none⟩ (by dsimp only;omega) (.int .i64 (D : Int))).set_other ⟨w.heap.size + 1 + 1 + 1,2,none⟩ (by dsimp only;omega) (.slice (some ⟨bB,0,none⟩) raws.length raws.length)
   rw [hcs];exact this
 . exact (((Hbz.out.setCell (by dsimp only;omega) _).setCell (by dsimp only;omega) _).setCell (by dsimp only;omega) _)
end Go.Proofs.YtidjljldhdckiaaGreatDoor
namespace Go.Proofs.YtidjljldhdckiaaGreatDoor
def sqF (x y : Nat -> Dyadic) : Nat -> Dyadic
 | 0=>0
 | k + 1=>sqF x y k + (x k - y k) * (x k - y k)
theorem sqF_congr {x y x' y' : Nat -> Dyadic} (n : Nat) (hx : ∀ k,k < n -> x k = x' k) (hy : ∀ k,k < n -> y k = y' k) : sqF x y n = sqF x' y' n:=by
 induction n with
 | zero=>rfl
 | succ n ih=>unfold sqF;rw [ih (fun k h=>hx k (by omega)) (fun k h=>hy k (by omega)),hx n (by omega),hy n (by omega)]
theorem sqF_comm (x y : Nat -> Dyadic) (n : Nat) : sqF x y n = sqF y x n:=by
 induction n with
 | zero=>rfl
 | succ n ih=>unfold sqF;rw [ih];grind
theorem sqF_self (x : Nat -> Dyadic) (n : Nat) : sqF x x n = 0:=by
 induction n with
 | zero=>rfl
 | succ n ih=>unfold sqF;rw [ih];grind
theorem dsq_nonneg (x : Dyadic) : 0 <= x * x:=by
 rw [<- Dyadic.toRat_le_toRat_iff,Dyadic.toRat_mul,Dyadic.toRat_zero]
 generalize x.toRat = q
 by_cases h : 0 <= q
 . exact Rat.mul_nonneg h h
 . have h2 : 0 <= -q:=by grind
   have h3:=Rat.mul_nonneg h2 h2
   have e : -q * -q = q * q:=by grind
   rwa [e] at h3
theorem sqF_nonneg (x y : Nat -> Dyadic) (n : Nat) : 0 <= sqF x y n:=by
 induction n with
 | zero=>exact dsq_nonneg 0
 | succ n ih=>unfold sqF;have:=dsq_nonneg (x n - y n);grind
theorem sqF_mid (x y z : Nat -> Dyadic) (h : Dyadic) (hh : h + h = 1) (n : Nat) : sqF (fun k=>(x k + y k) * h) z n + sqF (fun k=>(x k + y k) * h) z n + sqF (fun k=>(x k + y k) * h) z n + sqF (fun k=>(x k + y k) * h) z n = sqF x z n + sqF x z n + sqF y z n + sqF y z n - sqF x y n:=by
 induction n with
 | zero=>simp [sqF];grind
 | succ n ih =>
   unfold sqF
   have e : ((x n + y n) * h - z n) * ((x n + y n) * h - z n) + ((x n + y n) * h - z n) * ((x n + y n) * h - z n) + ((x n + y n) * h - z n) * ((x n + y n) * h - z n) + ((x n + y n) * h - z n) * ((x n + y n) * h - z n) =
    (x n - z n) * (x n - z n) + (x n - z n) * (x n - z n) + (y n - z n) * (y n - z n) + (y n - z n) * (y n - z n) - (x n - y n) * (x n - y n):=by
    have e1 : ((x n + y n) * h - z n) + ((x n + y n) * h - z n) = (x n - z n) + (y n - z n):=by grind
    generalize (x n + y n) * h - z n = m at *
    have e2 : m * m + m * m + m * m + m * m = (m + m) * (m + m):=by grind
    rw [e2,e1];grind
   grind
def sqP (n : Nat) (p : Nat -> Nat -> Dyadic) (a b : Nat) : Dyadic:=sqF (p a) (p b) n
def Kear (n : Nat) (m : Dyadic) (c : Nat) (p : Nat -> Nat -> Dyadic) : Prop:=
 (∀ a b,a <= n -> b <= n -> sqP n p a b <= m) /\ ∃ old : List Nat,old.length <= c /\ old.Nodup /\ ∀ a b,a <= n -> b <= n -> a ≠ b -> ¬ (a ∈ old /\ b ∈ old) -> sqP n p a b + sqP n p a b + sqP n p a b + sqP n p a b <= m + m + m
theorem Kear.start (n : Nat) (m : Dyadic) (p : Nat -> Nat -> Dyadic) (h : ∀ a b,a <= n -> b <= n -> sqP n p a b <= m) : Kear n m (n + 1) p:=
 ⟨h,List.range (n + 1),by simp,List.nodup_range,fun a b ha hb hab hn=>absurd ⟨by simp;omega,by simp;omega⟩ hn⟩
theorem Kear.done {n : Nat} {m : Dyadic} {c : Nat} {p : Nat -> Nat -> Dyadic} (h : Kear n m c p) (hc : c <= 1) (a b : Nat) (ha : a <= n) (hb : b <= n) (hab : a ≠ b) : sqP n p a b + sqP n p a b + sqP n p a b + sqP n p a b <= m + m + m:=by
 obtain ⟨_,old,h1,h2,h3⟩:=h
 refine h3 a b ha hb hab (fun ⟨h4,h5⟩=>?_)
 match old,h1,h4,h5 with
 | [],_,h4,_=>cases h4
 | [x],_,h4,h5=>simp at h4 h5;omega
 | x :: y :: l,h1,_,_=>simp at h1;omega
theorem mid_sq (n : Nat) (p : Nat -> Nat -> Dyadic) (h : Dyadic) (hh : h + h = 1) (i j v b : Nat) (hb : b ≠ v) : sqP n (midP p h i j v) v b + sqP n (midP p h i j v) v b + sqP n (midP p h i j v) v b + sqP n (midP p h i j v) v b = sqP n p i b + sqP n p i b + sqP n p j b + sqP n p j b - sqP n p i j:=by
 have e1 : midP p h i j v v = fun k=>(p i k + p j k) * h:=by funext k;unfold midP;rw [if_pos rfl]
 have e2 : midP p h i j v b = p b:=by funext k;unfold midP;rw [if_neg hb]
 unfold sqP
 rw [e1,e2]
 exact sqF_mid (p i) (p j) (p b) h hh n
theorem mid_off (n : Nat) (p : Nat -> Nat -> Dyadic) (h : Dyadic) (i j v a b : Nat) (ha : a ≠ v) (hb : b ≠ v) : sqP n (midP p h i j v) a b = sqP n p a b:=by
 have e1 : midP p h i j v a = p a:=by funext k;unfold midP;rw [if_neg ha]
 have e2 : midP p h i j v b = p b:=by funext k;unfold midP;rw [if_neg hb]
 unfold sqP;rw [e1,e2]
theorem sqP_comm (n : Nat) (p : Nat -> Nat -> Dyadic) (a b : Nat) : sqP n p a b = sqP n p b a:=sqF_comm _ _ _
theorem Kear.step {n : Nat} {m : Dyadic} {c : Nat} {p : Nat -> Nat -> Dyadic} (h0 : Kear n m c p) (h : Dyadic) (hh : h + h = 1) (i j v : Nat) (hij : i ≠ j) (hi : i <= n) (hj : j <= n) (hv : v = i \/ v = j) (hmax : ∀ a b,a <= n -> b <= n -> sqP n p a b <= sqP n p i j) :
 Kear n m (c - 1) (midP p h i j v):=by
 obtain ⟨h1,old,h2,h3,h4⟩:=h0
 have hY0 : 0 <= sqP n p i j:=sqF_nonneg _ _ _
 have hYm:=h1 i j hi hj
 have hnew : ∀ b,b <= n -> b ≠ v -> sqP n (midP p h i j v) v b + sqP n (midP p h i j v) v b + sqP n (midP p h i j v) v b + sqP n (midP p h i j v) v b <= sqP n p i j + sqP n p i j + sqP n p i j:=by
  intro b hb hbv
  rw [mid_sq n p h hh i j v b hbv]
  have a1:=hmax i b hi hb
  have a2:=hmax j b hj hb
  grind
 have hself : ∀ (q : Nat -> Nat -> Dyadic) a,sqP n q a a = 0:=fun q a=>sqF_self _ _
 have hnn : ∀ (q : Nat -> Nat -> Dyadic) a b,0 <= sqP n q a b:=fun q a b=>sqF_nonneg _ _ _
 have hall : ∀ a b,a <= n -> b <= n -> sqP n (midP p h i j v) a b <= sqP n p i j:=by
  intro a b ha hb
  by_cases ea : a = v
  . by_cases eb : b = v
    . rw [ea,eb,hself];exact hY0
    . subst ea;have:=hnew b hb eb;grind
  . by_cases eb : b = v
    . subst eb;rw [sqP_comm];have:=hnew a ha ea;grind
    . rw [mid_off n p h i j v a b ea eb];exact hmax a b ha hb
 refine ⟨fun a b ha hb=>by have:=hall a b ha hb;grind,?_⟩
 by_cases hsm : sqP n p i j + sqP n p i j + sqP n p i j + sqP n p i j <= m + m + m
 . exact ⟨[],Nat.zero_le _,List.nodup_nil,fun a b ha hb _ _=>by have:=hall a b ha hb;grind⟩
 . have hio : i ∈ old /\ j ∈ old:=Classical.byContradiction fun hc=>hsm (h4 i j hi hj hij hc)
   have hvo : v ∈ old:=by rcases hv with rfl | rfl<;>simp [hio]
   refine ⟨old.erase v,by rw [List.length_erase_of_mem hvo];omega,h3.erase _,fun a b ha hb hab hn=>?_⟩
   by_cases ea : a = v
   . subst ea;have:=hnew b hb (fun e=>hab e.symm);grind
   . by_cases eb : b = v
     . subst eb;rw [sqP_comm];have:=hnew a ha ea;grind
     . rw [mid_off n p h i j v a b ea eb]
       refine h4 a b ha hb hab (fun ⟨h5,h6⟩=>hn ⟨?_,?_⟩)
       . exact (List.mem_erase_of_ne ea).2 h5
       . exact (List.mem_erase_of_ne eb).2 h6
end Go.Proofs.YtidjljldhdckiaaGreatDoor
