/- Package mat: bareiss' test of a row. -/
import Derived.Test.YtidjljldhdckiaaGreatDoorZ15
import Derived.Test.YtidjljldhdckiaaGreatDoorZ21
import Derived.Test.YtidjljldhdckiaaGreatDoorZ6
import Derived.Test.YtidjljldhdckiaaGreatDoorZ7
import Derived.Test.YtidjljldhdckiaaGreatDoorZ12
import Derived.Test.YtidjljldhdckiaaGreatDoorZ14
set_option maxRecDepth 100000
set_option maxHeartbeats 16000000
namespace Go.Proofs.YtidjljldhdckiaaGreatDoor
open Go.RowKit
attribute [local go_sem ↓] Go.wp_at_zero Go.wp_at_succ
theorem bareiss1_any (bk k g n c : Nat) (z : Int) (w : World) (hk : w.cell? ⟨bk,0,none⟩ = some (.int .i64 (k : Int))) (hkn : k < n) (h0 : w.cell? ⟨g,k * 2,none⟩ = some (.bool (sgnB z))) (h1 : w.cell? ⟨g,k * 2 + 1,none⟩ = some (.string (bs (nt z.natAbs)))) (hz : (nt z.natAbs).length <= 1099511627776) :
 Calls Tryz.prog 125 #[.slice (some ⟨g,0,none⟩) n c,.pointer (some ⟨bk,0,none⟩)] w fun e w'=>e = .returned (.bool (decide (z ≠ 0))) /\ Below w.heap.size w w':=by
 have hix:=i123x34 n c k (k : Int) (show some (⟨g,0,none⟩ : Addr) = some ⟨g,0,none⟩ from rfl) hkn rfl
 rw [Nat.zero_add] at hix
 have Hz:=lid hz
 obtain ⟨s,hs⟩ : ∃ s,sgnB z = s:=⟨_,rfl⟩
 obtain ⟨l,hl⟩ : ∃ l,nt z.natAbs = l:=⟨_,rfl⟩
 have hsg:=fun W=>wSign_any (sgnB z) (nt z.natAbs) W hz
 rw [iv_int] at hsg
 rw [hs,hl] at hsg
 rw [hs] at h0
 rw [hl] at h1
 obtain ⟨t,ht⟩ : ∃ t,sgnI z = t:=⟨_,rfl⟩
 rw [ht] at hsg
 have hd : decide (z ≠ 0) = decide (t ≠ 0):=by
  rw [<- ht]
  unfold sgnI
  by_cases h : z = 0
  . simp [h]
  . by_cases h2 : z < 0
    . simp [h,h2]
    . simp [h,h2]
 rw [hd]
 have Hsg:=lid hsg
 clear hsg hd ht hs hl hz Hz
 have Hb : Hid (Below w.heap.size w w):=Below.refl _ _
 go_enter Tryz.func125,Tryz.ntmps125
 go_wp2_with fail
 refine (Hsg.out _).mono ?_
 rintro e w1 ⟨rfl,hbn⟩
 replace Hb:=bnx Hb hbn;clear hbn
 clear h0 h1 hk hix
 go_wp2
 refine bodyPost_ret (results_tmp rfl _ _ _) rfl ⟨?_,Hb.out⟩
 by_cases h : t = 0<;>simp [h]
theorem idx_find (p : Value -> Bool) (vs : List Value) (q : Nat -> Bool) (c : Nat) (h : ∀ i (hi : i < vs.length),p vs[i] = q i) :
 idxFrom p vs c = match (List.range vs.length).find? q with | none=>-1 | some m=>((c + m : Nat) : Int):=by
 induction vs generalizing c q with
 | nil=>rfl
 | cons v vs ih =>
   have h0:=h 0 (by simp)
   have hs:=ih (fun i=>q (i + 1)) (c + 1) (fun i hi=>h (i + 1) (by simpa using hi))
   simp only [List.getElem_cons_zero] at h0
   rw [List.length_cons,List.range_succ_eq_map,List.find?_cons]
   unfold idxFrom
   rw [h0]
   cases hq : q 0 with
   | true=>simp
   | false =>
     rw [hs,List.find?_map]
     simp only [Bool.false_eq_true,if_false]
     have e : (q ∘ Nat.succ) = fun i=>q (i + 1):=rfl
     rw [e]
     cases (List.range vs.length).find? fun i=>q (i + 1) with
     | none=>rfl
     | some m=>simp only [Option.map_some];congr 1;omega
theorem pivF_idx (p : Value -> Bool) (vals : List Value) (f : Nat -> Nat -> Int) (n k : Nat) (hn : vals.length = n) (h : ∀ i (hi : i < vals.length),p vals[i] = decide (f i k ≠ 0)) :
 idxFrom p (vals.drop k) 0 = match pivF f n k with | none=>-1 | some m=>(m : Int):=by
 rw [idx_find p (vals.drop k) (fun i=>f (k + i) k != 0) 0 (fun i hi=>by
  rw [List.getElem_drop,h]
  simp [bne,Bool.beq_eq_decide_eq])]
 unfold pivF
 rw [List.length_drop,hn]
 simp only [Nat.zero_add]
theorem wDivI (x y : Int) (w : World) (hx : (nt x.natAbs).length <= 34359738368) (hy : (nt y.natAbs).length <= 34359738368) (h0 : y ≠ 0) (hd : y ∣ x) :
 Calls Tryz.prog 126 #[.agg #[.bool (sgnB x),.string (bs (nt x.natAbs))],.agg #[.bool (sgnB y),.string (bs (nt y.natAbs))]] w fun e w'=>∃ r,e = .returned (.tuple #[intV (x / y),r,.bool true]) /\ Below w.heap.size w w':=by
 have h:=wDiv_any (sgnB x) (sgnB y) (nt x.natAbs) (nt y.natAbs) w hx hy (by rw [nv_nt];omega) (by rw [nv_nt,nv_nt];exact Nat.mod_eq_zero_of_dvd (Int.natAbs_dvd_natAbs.2 hd))
 rw [iv_int,iv_int] at h
 exact h
end Go.Proofs.YtidjljldhdckiaaGreatDoor
namespace Go.Proofs.YtidjljldhdckiaaGreatDoor
open Go.RowKit
def tabF (f : Nat -> Nat -> Int) (n : Nat) : List (List Int):=(List.range n).map fun a=>(List.range n).map (f a)
theorem tabF_len (f : Nat -> Nat -> Int) (n : Nat) : (tabF f n).length = n:=by simp [tabF]
theorem tabF_row (f : Nat -> Nat -> Int) (n i : Nat) (h : i < n) : (tabF f n).getD i [] = (List.range n).map (f i):=by
 simp [tabF,List.getD_eq_getElem?_getD,h]
theorem tabF_num (f : Nat -> Nat -> Int) (n i j : Nat) (h : i < n) (h' : j < n) : ((tabF f n).getD i []).getD j 0 = f i j:=by
 rw [tabF_row f n i h]
 simp [List.getD_eq_getElem?_getD,h']
theorem tabF_set (f : Nat -> Nat -> Int) (n i j : Nat) (y : Int) (h : i < n) : (tabF f n).set i (((tabF f n).getD i []).set j y) = tabF (fun a b=>if a = i /\ b = j then y else f a b) n:=by
 rw [tabF_row f n i h]
 apply List.ext_getElem
 . simp [tabF]
 . intro a h1 h2
   have ha : a < n:=by simpa [tabF] using h2
   rw [List.getElem_set]
   split
   . rename_i e
     subst e
     apply List.ext_getElem
     . simp [tabF]
     . intro b h3 h4
       have hb : b < n:=by simpa [tabF] using h4
       rw [List.getElem_set]
       by_cases e2 : j = b
       . subst e2;simp [tabF]
       . have e3 : ¬ b = j:=fun e=>e2 e.symm
         simp [tabF,e2,e3]
   . rename_i e
     have e3 : ¬ a = i:=fun e'=>e e'.symm
     simp [tabF,e3]
theorem tabF_swap (f : Nat -> Nat -> Int) (n k m : Nat) (h : k < n) (h' : m < n) : ((tabF f n).set k ((tabF f n).getD m [])).set m ((tabF f n).getD k []) = tabF (swapF f k m) n:=by
 apply List.ext_getElem
 . simp [tabF]
 . intro a h1 h2
   have ha : a < n:=by simpa [tabF] using h2
   have hs:=set_set_getD (tabF f n) [] k m (by rw [tabF_len];exact h) (by rw [tabF_len];exact h') a (by rw [tabF_len];exact ha)
   rw [List.getD_eq_getElem?_getD,List.getElem?_eq_getElem h1] at hs
   simp only [Option.getD_some] at hs
   rw [hs,tabF_row f n _ (swp_lt h h' ha)]
   simp [tabF,swapF,swp]
theorem own_blk {w : World} {base : Nat} {e : TypeId} {size n cap g : Nat} {xs : List Value} (h : w.ownsRow base e size (.slice (some ⟨g,0,none⟩) n cap) n xs) : base <= g /\ ∃ cur,Blk w g e cur:=by
 rcases h.2 with ⟨h1,_⟩ | ⟨g',cap',cur,h1,hb,hg,_,_,_,hx⟩
 . simp at h1
 . simp only [Value.slice.injEq,Option.some.injEq,Addr.mk.injEq,and_true,true_and] at h1
   obtain ⟨rfl,rfl⟩:=h1
   exact ⟨hb,cur.toList,by unfold Blk;simpa using hg⟩
theorem own_some {w : World} {base : Nat} {e : TypeId} {size n : Nat} {v : Value} {xs : List Value} (h : w.ownsRow base e size v n xs) (hn : 1 <= n) : ∃ g cap,v = .slice (some ⟨g,0,none⟩) n cap:=by
 rcases h.2 with ⟨h1,h2⟩ | ⟨g',cap',cur,h1,_⟩
 . omega
 . exact ⟨g',cap',h1⟩
theorem tabF_congr {f g : Nat -> Nat -> Int} (n : Nat) (h : ∀ a b,a < n -> b < n -> f a b = g a b) : tabF f n = tabF g n:=by
 unfold tabF
 refine List.map_congr_left (fun a ha=>List.map_congr_left (fun b hb=>h a b (List.mem_range.1 ha) (List.mem_range.1 hb)))
def TopB (w : World) (go L top : Nat) : Prop:=go < top /\ ∀ m g n c,m < L -> w.cell? ⟨go,m,none⟩ = some (.slice (some ⟨g,0,none⟩) n c) -> g < top
def BS (w0 w : World) (base n go cap top : Nat) (f : Nat -> Nat -> Int) : Prop:=
 OwnM w base n (tabF f n) n (.slice (some ⟨go,0,none⟩) n cap) /\ TopB w go n top /\ Below base w0 w /\ top <= w.heap.size
theorem BS.begin {w : World} {base n : Nat} {f : Nat -> Nat -> Int} {v : Value} (h : OwnM w base n (tabF f n) n v) (hn : 1 <= n) : ∃ go cap,v = .slice (some ⟨go,0,none⟩) n cap /\ n <= cap /\ BS w w base n go cap w.heap.size f:=by
 have h0:=h
 obtain ⟨vals,hl,ho,hv,_⟩:=h
 obtain ⟨go,cap,rfl⟩:=own_some ho hn
 refine ⟨go,cap,rfl,ownsRow_cap ho,h0,⟨?_,fun m g n' c hm hc=>?_⟩,Below.refl _ _,Nat.le_refl _⟩
 . obtain ⟨_,cur,hb⟩:=own_blk ho
   exact hb.lt
 . have hm2 : m < vals.length:=by omega
   rw [own_cell ho m hm2] at hc
   simp only [Option.some.injEq] at hc
   have hrow:=hv m hm2
   obtain ⟨g',cap',e⟩:=own_some hrow hn
   rw [e] at hrow hc
   simp at hc
   obtain ⟨rfl,rfl,rfl⟩:=hc
   exact (own_blk hrow).2.choose_spec.lt
theorem BS.below {w0 w w' : World} {base n go cap top : Nat} {f : Nat -> Nat -> Int} (h : BS w0 w base n go cap top f) (hb : Below w.heap.size w w') (hbt : base <= top) : BS w0 w' base n go cap top f:=by
 obtain ⟨h1,⟨h2,h3⟩,h4,h5⟩:=h
 have hs:=hb.size
 refine ⟨h1.below hb,⟨h2,fun m g n' c hm hc=>h3 m g n' c hm ?_⟩,?_,by omega⟩
 . rw [World.cell?_of_block (a:=⟨go,m,none⟩) (w:=w) (hb.block go (by omega))] at hc
   exact hc
 . exact h4.trans (hb.mono (by omega))
theorem BS.congr {w0 w : World} {base n go cap top : Nat} {f g : Nat -> Nat -> Int} (h : BS w0 w base n go cap top f) (he : ∀ a b,a < n -> b < n -> f a b = g a b) : BS w0 w base n go cap top g:=by
 unfold BS at *
 rw [<- tabF_congr n he];exact h
theorem BS.row {w0 w : World} {base n go cap top : Nat} {f : Nat -> Nat -> Int} (h : BS w0 w base n go cap top f) (i : Nat) (hi : i < n) :
 ∃ g c,base <= g /\ g < top /\ w.cell? ⟨go,i,none⟩ = some (.slice (some ⟨g,0,none⟩) n c) /\ (∀ j,j < n -> w.cell? ⟨g,j * 2,none⟩ = some (.bool (sgnB (f i j))) /\ w.cell? ⟨g,j * 2 + 1,none⟩ = some (.string (bs (nt (f i j).natAbs)))) /\
  (∀ q,w.frozen? ⟨g,q,none⟩ = false) /\
  ∀ j,j < n -> ∀ y : Int,BS w0 ((w.setCell ⟨g,j * 2,none⟩ (.bool (sgnB y))).setCell ⟨g,j * 2 + 1,none⟩ (.string (bs (nt y.natAbs)))) base n go cap top (fun a b=>if a = i /\ b = j then y else f a b):=by
 obtain ⟨h1,⟨h2,h3⟩,h4,h5⟩:=h
 have hR : (tabF f n).length = n:=tabF_len f n
 have hr : ((tabF f n).getD i []).length = n:=by rw [tabF_row f n i hi];simp
 obtain ⟨vals,hl,ho,hv,hd⟩:=id h1
 have hi2 : i < vals.length:=by omega
 have hrow:=hv i hi2
 obtain ⟨g,c,e⟩:=own_some hrow (by omega)
 rw [e] at hrow
 obtain ⟨hbg,cur,hblk⟩:=own_blk hrow
 have hc0 : w.cell? ⟨go,i,none⟩ = some (.slice (some ⟨g,0,none⟩) n c):=by rw [own_cell ho i hi2,e]
 refine ⟨g,c,hbg,h3 i g n c hi hc0,hc0,fun j hj=>?_,fun q=>hblk.free q,fun j hj y=>?_⟩
 . obtain ⟨go',cap',g',c',e0,_,_,_,e1,e2,e3,_⟩:=h1.num i j hi hj hR hr
   simp at e0
   obtain ⟨rfl,rfl⟩:=e0
   rw [hc0] at e1
   simp at e1
   obtain ⟨rfl,rfl⟩:=e1
   rw [tabF_num f n i j hi hj] at e2 e3
   exact ⟨e2,e3⟩
 . obtain ⟨go',cap',g',c',e0,hb1,hb2,hne,e1,e2,e3,hw⟩:=h1.num i j hi hj hR hr
   simp at e0
   obtain ⟨rfl,rfl⟩:=e0
   rw [hc0] at e1
   simp at e1
   obtain ⟨rfl,rfl⟩:=e1
   have h6:=hw y
   rw [tabF_set f n i j y hi] at h6
   refine ⟨h6,⟨h2,fun m g' n' c' hm hc=>h3 m g' n' c' hm ?_⟩,(h4.setCell hb2 _).setCell hb2 _,by simpa using h5⟩
   rw [World.cell?_setCell_far _ _ _ _ (by simpa using hne),World.cell?_setCell_far _ _ _ _ (by simpa using hne)] at hc
   exact hc
theorem BS.swap {w0 w : World} {base n go cap top : Nat} {f : Nat -> Nat -> Int} (h : BS w0 w base n go cap top f) (i m : Nat) (hi : i < n) (hm : m < n) :
 ∃ g1 c1 g2 c2,w.cell? ⟨go,i,none⟩ = some (.slice (some ⟨g1,0,none⟩) n c1) /\ w.cell? ⟨go,m,none⟩ = some (.slice (some ⟨g2,0,none⟩) n c2) /\ (∀ q,w.frozen? ⟨go,q,none⟩ = false) /\
  BS w0 ((w.setCell ⟨go,i,none⟩ (.slice (some ⟨g2,0,none⟩) n c2)).setCell ⟨go,m,none⟩ (.slice (some ⟨g1,0,none⟩) n c1)) base n go cap top (swapF f i m):=by
 have hb:=h
 obtain ⟨g1,c1,_,t1,e1,_⟩:=hb.row i hi
 obtain ⟨g2,c2,_,t2,e2,_⟩:=hb.row m hm
 obtain ⟨h1,⟨h2,h3⟩,h4,h5⟩:=h
 obtain ⟨_,_,ho,_,_⟩:=id h1
 obtain ⟨hbo,cur,hblk⟩:=own_blk ho
 obtain ⟨x,y,q1,q2,hw⟩:=h1.swap i m hi hm (tabF_len f n)
 rw [e1] at q1
 rw [e2] at q2
 simp only [Option.some.injEq] at q1 q2
 subst q1 q2
 rw [tabF_swap f n i m hi hm] at hw
 refine ⟨g1,c1,g2,c2,e1,e2,fun q=>hblk.free q,hw,⟨h2,fun m' g' n' c' hm' hc=>?_⟩,(h4.setCell hbo _).setCell hbo _,by simpa using h5⟩
 by_cases h7 : m' = m
 . subst h7
   rw [Blk.cell ((hblk.set i _).set m' _)] at hc
   rw [List.getElem?_set_self'] at hc
   have : g' = g1:=by
    cases hq : (cur.set i (.slice (some ⟨g2,0,none⟩) n c2))[m']? with
    | none=>rw [hq] at hc;simp at hc
    | some z=>rw [hq] at hc;simp at hc;exact hc.1.symm
   omega
 . rw [World.cell?_setCell_other _ _ _ _ (show (⟨go,m,none⟩ : Addr) ≠ ⟨go,m',none⟩ from fun e=>h7 (by simpa using e.symm))] at hc
   by_cases h8 : m' = i
   . subst h8
     rw [Blk.cell (hblk.set m' _),List.getElem?_set_self'] at hc
     have : g' = g2:=by
      cases hq : cur[m']? with
      | none=>rw [hq] at hc;simp at hc
      | some z=>rw [hq] at hc;simp at hc;exact hc.1.symm
     omega
   . rw [World.cell?_setCell_other _ _ _ _ (show (⟨go,i,none⟩ : Addr) ≠ ⟨go,m',none⟩ from fun e=>h8 (by simpa using e.symm))] at hc
     exact h3 m' g' n' c' hm' hc
end Go.Proofs.YtidjljldhdckiaaGreatDoor
namespace Go.Proofs.YtidjljldhdckiaaGreatDoor
open Go.RowKit
attribute [local go_sem ↓] Go.wp_at_zero Go.wp_at_succ
def BT (w0 w : World) (base n go cap top : Nat) (f : Nat -> Nat -> Int) (r l kb : Nat) (last : Int) (k : Nat) : Prop:=
 BS w0 w base n go cap top f /\ Blk w r 34 [.bool false,.string ⟨#[]⟩] /\ Blk w l 34 [.bool (sgnB last),.string (bs (nt last.natAbs))] /\ Blk w kb 3 [.int .i64 (k : Int)] /\ base <= top /\ top <= r /\ top <= l /\ top <= kb
theorem BT.below {w0 w w' : World} {base n go cap top : Nat} {f : Nat -> Nat -> Int} {r l kb : Nat} {last : Int} {k : Nat} (h : BT w0 w base n go cap top f r l kb last k) (hb : Below w.heap.size w w') : BT w0 w' base n go cap top f r l kb last k:=by
 obtain ⟨h1,h2,h3,h4,h5,h6⟩:=h
 exact ⟨h1.below hb h5,h2.below hb,h3.below hb,h4.below hb,h5,h6⟩
theorem BT.congr {w0 w : World} {base n go cap top : Nat} {f g : Nat -> Nat -> Int} {r l kb : Nat} {last : Int} {k : Nat} (h : BT w0 w base n go cap top f r l kb last k) (he : ∀ a b,a < n -> b < n -> f a b = g a b) : BT w0 w base n go cap top g r l kb last k:=
 ⟨h.1.congr he,h.2⟩
theorem BT.drew {w0 w : World} {base n go cap top : Nat} {f : Nat -> Nat -> Int} {r l kb : Nat} {last : Int} {k : Nat} (h : BT w0 w base n go cap top f r l kb last k) : BT w0 w.drew base n go cap top f r l kb last k:=h.below ((Below.refl _ _).drew)
theorem BT.row {w0 w : World} {base n go cap top : Nat} {f : Nat -> Nat -> Int} {r l kb : Nat} {last : Int} {k : Nat} (h : BT w0 w base n go cap top f r l kb last k) (i : Nat) (hi : i < n) :
 ∃ g c,g < w.heap.size /\ g < top /\ w.cell? ⟨go,i,none⟩ = some (.slice (some ⟨g,0,none⟩) n c) /\ (∀ j,j < n -> w.cell? ⟨g,j * 2,none⟩ = some (.bool (sgnB (f i j))) /\ w.cell? ⟨g,j * 2 + 1,none⟩ = some (.string (bs (nt (f i j).natAbs)))) /\
  (∀ q,w.frozen? ⟨g,q,none⟩ = false) /\
  ∀ j,j < n -> ∀ y : Int,BT w0 ((w.setCell ⟨g,j * 2,none⟩ (.bool (sgnB y))).setCell ⟨g,j * 2 + 1,none⟩ (.string (bs (nt y.natAbs)))) base n go cap top (fun a b=>if a = i /\ b = j then y else f a b) r l kb last k:=by
 obtain ⟨h1,h2,h3,h4,h5,h6,h7,h8⟩:=h
 have h9:=h1.2.2.2
 obtain ⟨g,c,hb,ht,e1,e2,e3,hw⟩:=h1.row i hi
 refine ⟨g,c,by omega,ht,e1,e2,e3,fun j hj y=>⟨hw j hj y,?_,?_,?_,h5,h6,h7,h8⟩⟩
 . exact (h2.so _ _ (by omega) _).so _ _ (by omega) _
 . exact (h3.so _ _ (by omega) _).so _ _ (by omega) _
 . exact (h4.so _ _ (by omega) _).so _ _ (by omega) _
theorem BT.swap {w0 w : World} {base n go cap top : Nat} {f : Nat -> Nat -> Int} {r l kb : Nat} {last : Int} {k : Nat} (h : BT w0 w base n go cap top f r l kb last k) (i m : Nat) (hi : i < n) (hm : m < n) :
 ∃ g1 c1 g2 c2,w.cell? ⟨go,i,none⟩ = some (.slice (some ⟨g1,0,none⟩) n c1) /\ w.cell? ⟨go,m,none⟩ = some (.slice (some ⟨g2,0,none⟩) n c2) /\ (∀ q,w.frozen? ⟨go,q,none⟩ = false) /\
  BT w0 ((w.setCell ⟨go,i,none⟩ (.slice (some ⟨g2,0,none⟩) n c2)).setCell ⟨go,m,none⟩ (.slice (some ⟨g1,0,none⟩) n c1)) base n go cap top (swapF f i m) r l kb last k:=by
 obtain ⟨h1,h2,h3,h4,h5,h6,h7,h8⟩:=h
 have h9:=h1.2.1.1
 obtain ⟨g1,c1,g2,c2,e1,e2,e3,hw⟩:=h1.swap i m hi hm
 refine ⟨g1,c1,g2,c2,e1,e2,e3,hw,?_,?_,?_,h5,h6,h7,h8⟩
 . exact (h2.so _ _ (by omega) _).so _ _ (by omega) _
 . exact (h3.so _ _ (by omega) _).so _ _ (by omega) _
 . exact (h4.so _ _ (by omega) _).so _ _ (by omega) _
theorem BT.row2 {w0 w : World} {base n go cap top : Nat} {f : Nat -> Nat -> Int} {r l kb : Nat} {last : Int} {k : Nat} (h : BT w0 w base n go cap top f r l kb last k) (i : Nat) (hi : i < n) :
 ∃ g c,g < w.heap.size /\ g < top /\ w.cell? ⟨go,i,none⟩ = some (.slice (some ⟨g,0,none⟩) n c) /\ (∀ j,j < n -> w.cell? ⟨g,j * 2,none⟩ = some (.bool (sgnB (f i j))) /\ w.cell? ⟨g,j * 2 + 1,none⟩ = some (.string (bs (nt (f i j).natAbs)))) /\
  ∀ w',Below w.heap.size w w' -> (∀ q,w'.frozen? ⟨g,q,none⟩ = false) /\ ∀ j,j < n -> ∀ y : Int,BT w0 ((w'.setCell ⟨g,j * 2,none⟩ (.bool (sgnB y))).setCell ⟨g,j * 2 + 1,none⟩ (.string (bs (nt y.natAbs)))) base n go cap top (fun a b=>if a = i /\ b = j then y else f a b) r l kb last k:=by
 obtain ⟨g,c,h1,h2,h3,h4,_,_⟩:=h.row i hi
 refine ⟨g,c,h1,h2,h3,h4,fun w' hb=>?_⟩
 obtain ⟨g',c',_,_,e3,_,e5,e6⟩:=(h.below hb).row i hi
 have:=cell_later hb h3
 rw [e3] at this
 simp at this
 obtain ⟨rfl,rfl⟩:=this
 exact ⟨e5,e6⟩
theorem BS.setOther {w0 w : World} {base n go cap top : Nat} {f : Nat -> Nat -> Int} (h : BS w0 w base n go cap top f) (hbt : base <= top) (p o : Nat) (u : Value) (hp : top <= p) : BS w0 (w.setCell ⟨p,o,none⟩ u) base n go cap top f:=by
 have hbs:=h
 obtain ⟨⟨vals,hl,ho,hv,hd⟩,⟨h2,h3⟩,h4,h5⟩:=h
 refine ⟨⟨vals,hl,ownsRow_setCell_other ho (by simp [Value.ownBlock];omega) _,fun i hi=>?_,hd⟩,⟨h2,fun m g n' c hm hc=>h3 m g n' c hm ?_⟩,h4.setCell (by dsimp only;omega) _,by simpa using h5⟩
 . obtain ⟨g,c,_,ht,e,_⟩:=hbs.row i (by omega)
   rw [own_cell ho i hi] at e
   have e1 : vals[i] = .slice (some ⟨g,0,none⟩) n c:=by simpa using e
   exact ownsRow_setCell_other (hv i hi) (by rw [e1];simp [Value.ownBlock];omega) _
 . rw [World.cell?_setCell_far _ _ _ _ (by dsimp only;omega)] at hc
   exact hc
theorem BT.setLast {w0 w : World} {base n go cap top : Nat} {f : Nat -> Nat -> Int} {r l kb : Nat} {last : Int} {k : Nat} (h : BT w0 w base n go cap top f r l kb last k) (x : Int) (h1 : l ≠ r) (h2 : l ≠ kb) :
 BT w0 ((w.setCell ⟨l,0,none⟩ (.bool (sgnB x))).setCell ⟨l,1,none⟩ (.string (bs (nt x.natAbs)))) base n go cap top f r l kb x k:=by
 obtain ⟨q1,q2,q3,q4,q5,q6,q7,q8⟩:=h
 exact ⟨(q1.setOther q5 l 0 _ q7).setOther q5 l 1 _ q7,(q2.so _ _ h1 _).so _ _ h1 _,(q3.set 0 _).set 1 _,(q4.so _ _ h2 _).so _ _ h2 _,q5,q6,q7,q8⟩
theorem wSubI (x y N : Int) (h : x - y = N) (w : World) (hx : (nt x.natAbs).length <= 34359738368) (hy : (nt y.natAbs).length <= 34359738368) :
 Calls Tryz.prog 94 #[.agg #[.bool (sgnB x),.string (bs (nt x.natAbs))],.agg #[.bool (sgnB y),.string (bs (nt y.natAbs))]] w fun e w'=>e = .returned (intV N) /\ Below w.heap.size w w':=by
 have:=wSub_any (sgnB x) (nt x.natAbs) (sgnB y) (nt y.natAbs) w hx hy
 rw [iv_int,iv_int,h] at this
 exact this
theorem wMulI (x y N : Int) (h : x * y = N) (b cap : Nat) (ty : TypeId) (w : World) (hx : (nt x.natAbs).length <= 17179869184) (hy : (nt y.natAbs).length <= 17179869184) (ha : Blk w b ty [.bool (sgnB x),.string (bs (nt x.natAbs)),.bool (sgnB y),.string (bs (nt y.natAbs))]) :
 Calls Tryz.prog 64 #[.slice (some ⟨b,0,none⟩) 2 cap] w fun e w'=>e = .returned (intV N) /\ Below w.heap.size w w':=
 wMul_two _ _ _ _ N (by rw [iv_int,iv_int,h]) b cap ty w hx hy ha
theorem BS.row_ne {w0 w : World} {base n go cap top : Nat} {f : Nat -> Nat -> Int} (h : BS w0 w base n go cap top f) (i : Nat) (hi : i < n) {g c : Nat} (hc : w.cell? ⟨go,i,none⟩ = some (.slice (some ⟨g,0,none⟩) n c)) : g ≠ go:=by
 obtain ⟨⟨vals,hl,ho,hv,hd⟩,_⟩:=h
 have hi2 : i < vals.length:=by omega
 rw [own_cell ho i hi2] at hc
 simp only [Option.some.injEq] at hc
 have hrow:=hv i hi2
 rw [hc] at hrow
 obtain ⟨_,c1,b1⟩:=own_blk hrow
 obtain ⟨_,c2,b2⟩:=own_blk ho
 rintro rfl
 have:=b1.symm.trans b2
 simp at this
def pivI (f : Nat -> Nat -> Int) (n k : Nat) : Int:=match pivF f n k with | none=>-1 | some m=>(m : Int)
open Classical in
theorem BS.index {w0 w : World} {base n go cap top : Nat} {f : Nat -> Nat -> Int} (h : BS w0 w base n go cap top f) (k kb : Nat) (hk : k < n) (hn : n <= 8) (hkb : w.cell? ⟨kb,0,none⟩ = some (.int .i64 (k : Int))) (hz : ∀ a b,a < n -> b < n -> (nt (f a b).natAbs).length <= 1099511627776) :
 Calls Tryz.prog 124 #[.slice (some ⟨go,k,none⟩) (n - k) (cap - k),.func (.func 125) #[] #[.pointer (some ⟨kb,0,none⟩)]] w fun e w'=>e = .returned (.int .i64 (pivI f n k)) /\ Below w.heap.size w w':=by
 have hbs:=h
 obtain ⟨h1,_,_,_⟩:=h
 obtain ⟨vals,hl,ho,hv,hd⟩:=h1
 have hrow : ∀ i (hi : i < vals.length),∃ g c,vals[i] = .slice (some ⟨g,0,none⟩) n c /\ ∀ j,j < n -> w.cell? ⟨g,j * 2,none⟩ = some (.bool (sgnB (f i j))) /\ w.cell? ⟨g,j * 2 + 1,none⟩ = some (.string (bs (nt (f i j).natAbs))):=by
  intro i hi
  obtain ⟨g,c,_,_,e1,e2,_⟩:=hbs.row i (by omega)
  rw [own_cell ho i hi] at e1
  exact ⟨g,c,by simpa using e1,e2⟩
 have hinj : ∀ i j (hi : i < vals.length) (hj : j < vals.length),vals[i] = vals[j] -> i = j:=by
  intro i j hi hj e
  obtain ⟨g,c,e1,_⟩:=hrow i hi
  exact hd i j hi hj g (by rw [e1];rfl) (by rw [<- e,e1];rfl)
 obtain ⟨p,hp⟩ : ∃ p : Value -> Bool,∀ i (hi : i < vals.length),p vals[i] = decide (f i k ≠ 0):=by
  refine ⟨fun v=>decide (∃ i,∃ hi : i < vals.length,vals[i] = v /\ f i k ≠ 0),fun i hi=>?_⟩
  by_cases h0 : f i k ≠ 0
  . have : ∃ j,∃ hj : j < vals.length,vals[j] = vals[i] /\ f j k ≠ 0:=⟨i,hi,rfl,h0⟩
    show decide _ = decide _
    rw [decide_eq_true this,decide_eq_true h0]
  . have : ¬ ∃ j,∃ hj : j < vals.length,vals[j] = vals[i] /\ f j k ≠ 0:=by
     rintro ⟨j,hj,e,h2⟩
     exact h0 (by rw [<- hinj j i hj hi e];exact h2)
    simp only [this,h0,decide_false]
 have hpv:=pivF_idx p vals f n k (by omega) hp
 have hat : At w (some ⟨go,k,none⟩) (vals.drop k):=by
  refine .inr ⟨go,k,rfl,fun j hj=>?_⟩
  rw [List.length_drop] at hj
  rw [own_cell ho (k + j) (by omega),List.getElem?_drop,List.getElem?_eq_getElem]
 have:=idxI_any (some ⟨go,k,none⟩) (n - k) (cap - k) (vals.drop k) 125 #[.pointer (some ⟨kb,0,none⟩)] p w (by rw [List.length_drop,hl]) (by omega) hat (enters_of Tryz.func125 (by kernel_rfl) rfl) (fun v hv W hb=>by
  obtain ⟨i,hi,rfl⟩:=List.mem_iff_getElem.1 hv
  rw [List.getElem_drop]
  have hi2 : k + i < vals.length:=by rw [List.length_drop] at hi;omega
  obtain ⟨g,c,e1,e2⟩:=hrow (k + i) hi2
  obtain ⟨e3,e4⟩:=e2 k hk
  rw [hp (k + i) hi2,e1]
  exact bareiss1_any kb k g n c (f (k + i) k) W (cell_later hb hkb) hk (cell_later hb e3) (cell_later hb e4) (hz _ _ (by omega) hk))
 rw [hpv] at this
 exact this
def Bs (w0 w : World) (base n go cap top r l K : Nat) (Z : Int) (k : Nat) (f : Nat -> Nat -> Int) (last : Int) (t : Bool) : Prop:=
 BS w0 w base n go cap top f /\ Blk w r 34 [.bool false,.string ⟨#[]⟩] /\ Blk w l 34 [.bool (sgnB last),.string (bs (nt last.natAbs))] /\ exactF n (n - k) k f last /\ bareF n (n - k) k f last t = Z /\ last ≠ 0 /\
  ∃ Q,Q + 1 <= 2 ^ k * (K + 1) /\ last.natAbs < 2 ^ Q /\ ∀ a b,a < n -> b < n -> (f a b).natAbs < 2 ^ Q
theorem swapF_self (f : Nat -> Nat -> Int) (k : Nat) : swapF f k (k + 0) = f:=by
 funext a b;unfold swapF
 simp only [Nat.add_zero]
 by_cases h : a = k
 . rw [if_pos h,h]
 . rw [if_neg h,if_neg h]
theorem Bs.none {w0 w : World} {base n go cap top r l K k : Nat} {Z : Int} {f : Nat -> Nat -> Int} {last : Int} {t : Bool} (h : Bs w0 w base n go cap top r l K Z k f last t) (hk : k < n) (hp : pivF f n k = none) : Z = 0:=by
 obtain ⟨_,_,_,_,h2,_⟩:=h
 rw [show n - k = n - (k + 1) + 1 by omega] at h2
 unfold bareF at h2
 rw [hp] at h2
 exact h2.symm
theorem Bs.some {w0 w : World} {base n go cap top r l K k m : Nat} {Z : Int} {f : Nat -> Nat -> Int} {last : Int} {t : Bool} (h : Bs w0 w base n go cap top r l K Z k f last t) (hk : k < n) (hp : pivF f n k = some m) :
 ∃ g,g = swapF f k (k + m) /\ g k k ≠ 0 /\ (∀ a b,k < a -> a < n -> k < b -> b < n -> last ∣ numF g k a b) /\ exactF n (n - (k + 1)) (k + 1) (stepF g k last) (g k k) /\ bareF n (n - (k + 1)) (k + 1) (stepF g k last) (g k k) (t != decide (0 < m)) = Z /\
  ∃ Q,2 * Q + 2 <= 2 ^ (k + 1) * (K + 1) /\ last.natAbs < 2 ^ Q /\ (∀ a b,a < n -> b < n -> (g a b).natAbs < 2 ^ Q) /\ (g k k).natAbs < 2 ^ (2 * Q + 1) /\ ∀ a b,a < n -> b < n -> (stepF g k last a b).natAbs < 2 ^ (2 * Q + 1):=by
 obtain ⟨_,_,_,h1,h2,h3,Q,hQ,hl,hf⟩:=h
 have hpm:=pivF_some hp
 rw [show n - k = n - (k + 1) + 1 by omega] at h1 h2
 unfold exactF at h1
 unfold bareF at h2
 rw [hp] at h1 h2
 simp only at h1 h2
 obtain ⟨g,hg⟩ : ∃ g,g = swapF f k (k + m):=⟨_,rfl⟩
 rw [<- hg] at h1 h2
 have hgQ : ∀ a b,a < n -> b < n -> (g a b).natAbs < 2 ^ Q:=by
  intro a b ha hb
  rw [hg];unfold swapF
  refine hf _ _ ?_ hb
  split
  . omega
  . split
    . omega
    . exact ha
 have hQ1 : 2 ^ Q <= 2 ^ (2 * Q + 1):=Nat.pow_le_pow_right (by decide) (by omega)
 refine ⟨g,hg,?_,h1.1,h1.2,h2,Q,?_,hl,hgQ,Nat.lt_of_lt_of_le (hgQ k k hk hk) hQ1,fun a b ha hb=>?_⟩
 . rw [hg];unfold swapF;rw [if_pos rfl];exact hpm.2
 . rw [Nat.pow_succ]
   have : 2 ^ k * 2 * (K + 1) = 2 * (2 ^ k * (K + 1)):=by rw [Nat.mul_comm (2 ^ k) 2,Nat.mul_assoc]
   omega
 . unfold stepF
   split
   . rename_i h4
     have h5:=(num_lt g k a b Q (hgQ a b ha hb) (hgQ k k hk hk) (hgQ a k ha hk) (hgQ k b hk hb)).2.2
     rcases div_lt _ last _ h5 with h6 | h6
     . exact h6
     . exact absurd (h1.1 a b h4.1 ha h4.2 hb) h6
   . exact Nat.lt_of_lt_of_le (hgQ a b ha hb) hQ1
theorem Bs.next {w0 w : World} {base n go cap top r l kb K k : Nat} {Z : Int} {f g : Nat -> Nat -> Int} {x : Int} {t : Bool} (h : BT w0 w base n go cap top f r l kb x k) (hf : ∀ a b,a < n -> b < n -> f a b = g a b) (hx : x ≠ 0) (h1 : exactF n (n - (k + 1)) (k + 1) g x) (h2 : bareF n (n - (k + 1)) (k + 1) g x t = Z)
 (h3 : ∃ Q,Q + 1 <= 2 ^ (k + 1) * (K + 1) /\ x.natAbs < 2 ^ Q /\ ∀ a b,a < n -> b < n -> (g a b).natAbs < 2 ^ Q) : Bs w0 w base n go cap top r l K Z (k + 1) g x t:=
 ⟨(h.congr hf).1,h.2.1,h.2.2.1,h1,h2,hx,h3⟩
def StA (a0 : Act) (w0 : World) (cs : List (Addr × Value)) (x1 x2 x3 x4 P1 P2 N : Int) (dn : Nat -> Bool) (a : Act) (w : World) : Prop:=
 ∃ v1 v2 v3 v4 v5 v6 : Value,a = (((((a0.put (some 76) v1).put (some 77) v2).put (some 92) v3).put (some 93) v4).put (some 94) v5).put (some 10) v6 /\ Keeps cs w /\ Below w0.heap.size w0 w /\
  (dn 14 = true -> ∃ b,v1 = .slice (some ⟨b,0,none⟩) 2 2 /\ Blk w b 34 [.bool (sgnB x1),.string (bs (nt x1.natAbs)),.bool (sgnB x2),.string (bs (nt x2.natAbs))]) /\ (dn 15 = true -> v2 = intV P1) /\
  (dn 30 = true -> ∃ b,v3 = .slice (some ⟨b,0,none⟩) 2 2 /\ Blk w b 34 [.bool (sgnB x3),.string (bs (nt x3.natAbs)),.bool (sgnB x4),.string (bs (nt x4.natAbs))]) /\ (dn 31 = true -> v4 = intV P2) /\ (dn 32 = true -> v5 = intV N) /\
  (dn 33 = true -> ∃ b,v6 = .pointer (some ⟨b,0,none⟩) /\ w0.heap.size <= b /\ Blk w b 34 [.bool false,.string ⟨#[]⟩])
theorem StA.init (a : Act) (w0 w : World) (cs : List (Addr × Value)) (x1 x2 x3 x4 P1 P2 N : Int) (hk : Keeps cs w) (hb : Below w0.heap.size w0 w) : StA a w0 cs x1 x2 x3 x4 P1 P2 N (fun _=>false) a w:=
 ⟨a.tmps.getD 76 undef,a.tmps.getD 77 undef,a.tmps.getD 92 undef,a.tmps.getD 93 undef,a.tmps.getD 94 undef,a.tmps.getD 10 undef,by rw [put_self,put_self,put_self,put_self,put_self,put_self],hk,hb,(fun h=>by cases h),(fun h=>by cases h),(fun h=>by cases h),(fun h=>by cases h),(fun h=>by cases h),(fun h=>by cases h)⟩
theorem bareiss_any (base n K : Nat) (f : Nat -> Nat -> Int) (v : Value) (w : World) (hn : 1 <= n) (hn4 : n <= 4) (hO : OwnM w base n (tabF f n) n v) (hbw : base <= w.heap.size) (hK1 : 1 <= K) (hK : ∀ a b,a < n -> b < n -> (f a b).natAbs < 2 ^ K) (hK2 : K <= 100000000) :
 Calls Tryz.prog 101 #[v] w fun e w'=>e = .returned (intV (bareF n n 0 f 1 false)) /\ Below base w w':=by
 obtain ⟨go,cap,rfl,hcap,hbs⟩:=BS.begin hO hn
 obtain ⟨Z,hZ⟩ : ∃ Z,bareF n n 0 f 1 false = Z:=⟨_,rfl⟩
 have hex:=exactN n hn hn4 f
 have hsz : ∀ k Q : Nat,k <= n -> Q + 1 <= 2 ^ k * (K + 1) -> Q <= 1800000000:=by
  intro k Q h1 h2
  have h3 : 2 ^ k <= 2 ^ 4:=Nat.pow_le_pow_right (by decide) (by omega)
  have h4:=Nat.mul_le_mul_right (K + 1) h3
  omega
 rw [hZ]
 have Hbs:=lid hbs;have HZ:=lid hZ;have Hex:=lid hex;have Hsz:=lid hsz;have HK:=lid hK
 clear hO hbs hZ hex hsz hK
 have Hb : Hid (Below w.heap.size w w):=Below.refl _ _
 go_enter Tryz.func101,Tryz.ntmps101
 go_wp2_with fail
 obtain ⟨R,hR⟩ : ∃ R : World -> Prop,(fun W=>Blk W (w.heap.size) 34 [.bool false,.string ⟨#[]⟩] /\ Below w.heap.size w W) = R:=⟨_,rfl⟩
 first | refine wp_world R ?hR ?_ | refine calls_world R ?hR ?_
 case hR=>subst hR;exact ⟨(Blk.newAt w _ _ (b:=w.heap.size) rfl),((Below.refl _ _).alloc (Nat.le_refl _) _)⟩
 subst hR
 rintro W ⟨qr,hbn⟩
 have Hr:=lid qr;clear qr
 obtain ⟨r0,fr0,r1,fr1⟩:=Hr.out.g2
 replace Hb:=bnx Hb hbn;clear hbn
 go_wp2_with fail
 refine (wOf_any 1 _ (by decide) (by decide)).mono ?_
 rintro e w1 ⟨rfl,hbn⟩
 clear r0 fr0 r1 fr1
 replace Hr:=kB Hr hbn
 obtain ⟨r0,fr0,r1,fr1⟩:=Hr.out.g2
 replace Hb:=bnx Hb hbn;clear hbn
 have lz_r_W2:=Hr.out.lt
 obtain ⟨W2,hW_W2⟩ : ∃ W2,(w1.alloc (.cells #[.bool (sgnB 1),.string (bs (nt 1))] 34)) = W2:=⟨_,rfl⟩
 have hbn : Below w1.heap.size w1 W2:=by rw [<- hW_W2];exact ((Below.refl _ _).alloc (Nat.le_refl _) _)
 clear r0 fr0 r1 fr1
 replace Hr:=kB Hr hbn
 have Hl : Hid (Blk W2 (w1.heap.size) 34 [.bool (sgnB 1),.string (bs (nt 1))]):=by rw [<- hW_W2];exact Blk.newAt _ _ _ (by simp)
 obtain ⟨r0,fr0,r1,fr1⟩:=Hr.out.g2
 obtain ⟨l0,fl0,l1,fl1⟩:=Hl.out.g2
 replace Hb:=bnx Hb hbn;clear hbn
 have HBS:=lid (Hbs.out.below Hb.out (by omega))
 have hlb2 : w.heap.size < w1.heap.size:=lz_r_W2
 have hq0:=Hr.out;have hq1:=Hl.out
 clear r0 r1 fr0 fr1 l0 l1 fl0 fl1
 have hst : Bs w W2 base n go cap w.heap.size w.heap.size w1.heap.size K Z 0 f 1 false:=⟨HBS.out,hq0,hq1,Hex.out,HZ.out,by decide,K,by omega,by rw [show (1 : Int).natAbs = 1 from rfl];exact Nat.one_lt_two_pow (by omega),HK.out⟩
 clear hq0 hq1
 have Hst:=lid hst
 have szW:=Hb.out.size
 clear hst HBS Hb Hr Hl Hbs HK Hex HZ
 go_wp2_with fail
 go_loopw [5,15] (fun s5 x wr=>∃ (k : Nat) (f' : Nat -> Nat -> Int) (last : Int) (t : Bool),k <= n /\ x = .int .i64 (k : Int) /\ s5 = .bool t /\ Bs w wr base n go cap w.heap.size w.heap.size w1.heap.size K Z k f' last t) (fun _ x _=>n - (intOf x).toNat)
 case atStart=>exact ⟨0,f,1,false,Nat.zero_le _,rfl,rfl,Hst.out⟩
 case round=>
  clear Hst
  obtain ⟨k,f',last,t,hk,rfl,rfl,hS⟩:=hrel
  obtain ⟨wk,hwk⟩ : ∃ wk,wk = wr:=⟨_,rfl⟩
  subst hwk
  by_cases hlt : k < n
  . obtain ⟨Q0,hQ0,_,hQf⟩:=hS.2.2.2.2.2.2
    have hQb:=Hsz.out k Q0 hk hQ0
    have hlen : ∀ a b,a < n -> b < n -> (nt (f' a b).natAbs).length <= 1099511627776:=fun a b ha hb=>len_of_bits (hQf a b ha hb) (by omega)
    have hkc : k < cap:=by omega
    have HS:=lid hS;have Hlen:=lid hlen
    have sz1:=hS.1.2.2.2
    clear hS hQ0 hQf hQb hlen
    have Hb : Hid (Below wk.heap.size wk wk):=Below.refl _ _
    have Hr:=lid HS.out.2.1;have Hl:=lid HS.out.2.2.1
    obtain ⟨r0,fr0,r1,fr1⟩:=Hr.out.g2
    obtain ⟨l0,fl0,l1,fl1⟩:=Hl.out.g2
    have lz_r_W3:=Hr.out.lt
    have lz_l_W3:=Hl.out.lt
    obtain ⟨W3,hW_W3⟩ : ∃ W3,(wk.alloc (.cells #[.int .i64 (k : Int)] 3)) = W3:=⟨_,rfl⟩
    have hbn : Below wk.heap.size wk W3:=by rw [<- hW_W3];exact ((Below.refl _ _).alloc (Nat.le_refl _) _)
    clear r0 fr0 r1 fr1
    replace Hr:=kB Hr hbn
    clear l0 fl0 l1 fl1
    replace Hl:=kB Hl hbn
    have Hkq : Hid (Blk W3 (wk.heap.size) 3 [.int .i64 (k : Int)]):=by rw [<- hW_W3];exact Blk.newAt _ _ _ (by simp)
    obtain ⟨r0,fr0,r1,fr1⟩:=Hr.out.g2
    obtain ⟨l0,fl0,l1,fl1⟩:=Hl.out.g2
    have kq0:=Hkq.out.c1
    replace Hb:=bnx Hb hbn;clear hbn
    have HB3:=lid (HS.out.1.below Hb.out (by omega))
    go_wp2_with fail
    refine (HB3.out.index k wk.heap.size hlt (by omega) kq0 Hlen.out).mono ?_
    rintro e w4 ⟨rfl,hbn⟩
    clear r0 fr0 r1 fr1
    clear l0 fl0 l1 fl1
    clear kq0
    replace Hr:=kB Hr hbn
    replace Hl:=kB Hl hbn
    replace Hkq:=kB Hkq hbn
    obtain ⟨r0,fr0,r1,fr1⟩:=Hr.out.g2
    obtain ⟨l0,fl0,l1,fl1⟩:=Hl.out.g2
    have kq0:=Hkq.out.c1
    replace Hb:=bnx Hb hbn;clear hbn
    cases hp : pivF f' n k with
    | none =>
      have hpv : pivI f' n k = -1:=by unfold pivI;rw [hp]
      have hz:=HS.out.none hlt hp
      rw [hpv]
      have Hbb:=lid (HS.out.1.2.2.1.trans (Hb.out.mono (by omega)))
      clear HS Hlen HB3 hp
      go_wp2
      refine bodyPost_ret (v:=.agg #[.bool false,.string ⟨#[]⟩]) (by simp [results,Tryz.results101,go_sem,r0,r1]) rfl ⟨by rw [hz];rfl,?_⟩
      exact (Hbb.out.setCell (by dsimp only;omega) _).setCell (by dsimp only;omega) _
    | some m =>
      have hpv : pivI f' n k = (m : Int):=by unfold pivI;rw [hp]
      rw [hpv]
      obtain ⟨hm1,_⟩:=pivF_some hp
      obtain ⟨g,hg,hgk,hdv,hex2,hba2,Q,hQ,hlQ,hgQ,hgk2,hst2⟩:=HS.out.some hlt hp
      have hl0:=HS.out.2.2.2.2.2.1
      have hbt : BT w w4 base n go cap w.heap.size f' w.heap.size w1.heap.size wk.heap.size last k:=⟨HS.out.1.below Hb.out (by omega),Hr.out,Hl.out,Hkq.out,by omega,Nat.le_refl _,by omega,by omega⟩
      have Hbt:=lid hbt;have Hdv:=lid hdv;have Hex2:=lid hex2;have Hba2:=lid hba2;have HQ:=lid hQ;have HlQ:=lid hlQ;have HgQ:=lid hgQ;have Hgk2:=lid hgk2;have Hst2:=lid hst2;have Hg:=lid hg;have Hgk:=lid hgk;have Hl0:=lid hl0
      clear hbt hdv hex2 hba2 hQ hlQ hgQ hgk2 hst2 hg hgk hl0 hpv hp HS Hlen HB3 Hb Hr Hl Hkq r0 r1 fr0 fr1 l0 l1 fl0 fl1 kq0
      have hm0 : ¬ (m : Int) < 0:=by omega
      go_upto_if 27 with fail
      go_cut [5] (fun s5 wx=>s5 = .bool (t != decide (0 < m)) /\ BT w wx base n go cap w.heap.size g w.heap.size w1.heap.size wk.heap.size last k)
      case first=>
       by_cases hm : 0 < m
       . have hmi : (0 : Int) < (m : Int):=by omega
         obtain ⟨g1,c1,g2,c2,e1,e2,e3,hsw⟩:=Hbt.out.swap k (k + m) hlt (by omega)
         rw [<- Hg.out] at hsw
         have Hsw:=lid hsw
         have hix1:=i155x123 n cap k (k : Int) (rfl : (some ⟨go,0,none⟩ : Option Addr) = _) hlt rfl
         have hix2:=i155x123 n cap (k + m) ((k + m : Nat) : Int) (rfl : (some ⟨go,0,none⟩ : Option Addr) = _) (by omega) rfl
         rw [Nat.zero_add,Nat.mul_one] at hix1 hix2
         have hwm : IntKind.i64.wrap ((k : Int) + (m : Int)) = ((k + m : Nat) : Int):=by rw [IntKind.wrap_i64];omega
         obtain ⟨km,hkm⟩ : ∃ km,k + m = km:=⟨_,rfl⟩
         rw [hkm] at e2 hix2 hwm Hsw
         have Hkq:=lid Hbt.out.2.2.2.1
         have Hxa : Hid (Win w4 go k [.slice (some ⟨g1,0,none⟩) n c1]):=fun j hj=>by
          obtain rfl : j = 0:=by simp at hj;omega
          exact e1
         have Hxb : Hid (Win w4 go km [.slice (some ⟨g2,0,none⟩) n c2]):=fun j hj=>by
          obtain rfl : j = 0:=by simp at hj;omega
          exact e2
         have z1 : w4.drew.frozen? ⟨go,k,none⟩ = false:=e3 k
         have z2 : w4.drew.frozen? ⟨go,km,none⟩ = false:=e3 km
         have z3 : w4.frozen? ⟨go,km,none⟩ = false:=e3 km
         have y2 : (w4.setCell ⟨go,k,none⟩ (.slice (some ⟨g2,0,none⟩) n c2)).cell? ⟨go,km,none⟩ = some (.slice (some ⟨g2,0,none⟩) n c2):=cell_set_at (.inr (by dsimp only;omega)) e2
         have Hkm:=lid hkm
         clear hsw e1 e2 e3 hkm
         go_wp2_with fail
         have kq0:=Hkq.out.c1
         have xa0:=Hxa.out.w1
         have xb0:=Hxb.out.w1
         have hgo : go < wk.heap.size:=by have:=Hbt.out.1.2.1.1;omega
         refine wp_region_planT (fun w'=>w'.cell? ⟨wk.heap.size,0,none⟩ = some (.int .i64 (k : Int))) (fun i=>Nat.blt i 19) (.rd 0 (.rd 1 (.rd 2 (.rd 3 (.rd 4 (.rd 5 (.rd 6 (.rd 7 (.rd 8 (.rd 9 (.rd 10 (.rd 12 (.rd 13 (.rd 14 (.br 11 15 (.lin [(15,false),(16,true),(17,false),(18,false),(19,false)]) (.lin [(11,false),(16,true),(17,false),(18,false),(19,false)])))))))))))))))) (by kernel_rfl) (by kernel_rfl) rfl (by kernel_rfl) (fun o c a v w=>by cases o.dst<;>exact id) kq0 ?_
         iterate 14 (refine planTT rfl rfl (v:=?_) (fun w' hw'=>?_) ?_;rotate_left;(focus go_simp;try with_reducible rfl);try simp only [Act.put,U1,U2,U3])
         refine planTBr rfl rfl rfl rfl rfl rfl  (fun K hK=>?_) (fun K hK=>?_) 
         . go_simp
           refine hK _ _ (by first | exact fun _=>kq0 | exact fun _=>cell_set_ne (by first | (dsimp only;omega) | (show _ ≠ _;omega) | (simp<;>omega)) kq0) ?_;clear hK K
           try simp only [Act.put,U1,U2,U3]
           refine planTL ?_
           refine planF rfl rfl (fun K hK=>?_)
           go_simp
           refine hK _ _ (by first | exact fun h=>absurd h (by decide) | exact fun _=>kq0 | exact fun _=>cell_set_ne (by first | (dsimp only;omega) | (show _ ≠ _;omega) | (simp<;>omega)) kq0) ?_;clear hK K
           try simp only [Act.put,U1,U2,U3]
           refine planT rfl rfl (v:=?_) (fun w' hw'=>?_) ?_;rotate_left;(focus go_simp;try with_reducible rfl);try simp only [Act.put,U1,U2,U3]
           refine planF rfl rfl (fun K hK=>?_)
           go_simp
           refine hK _ _ (by first | exact fun h=>absurd h (by decide) | exact fun _=>kq0 | exact fun _=>cell_set_ne (by first | (dsimp only;omega) | (show _ ≠ _;omega) | (simp<;>omega)) kq0) ?_;clear hK K
           try simp only [Act.put,U1,U2,U3]
           refine planF rfl rfl (fun K hK=>?_)
           go_simp
           refine hK _ _ (by first | exact fun h=>absurd h (by decide) | exact fun _=>kq0 | exact fun _=>cell_set_ne (by first | (dsimp only;omega) | (show _ ≠ _;omega) | (simp<;>omega)) kq0) ?_;clear hK K
           try simp only [Act.put,U1,U2,U3]
           refine planF rfl rfl (fun K hK=>?_)
           go_simp
           refine hK _ _ (by first | exact fun h=>absurd h (by decide) | exact fun _=>kq0 | exact fun _=>cell_set_ne (by first | (dsimp only;omega) | (show _ ≠ _;omega) | (simp<;>omega)) kq0) ?_;clear hK K
           try simp only [Act.put,U1,U2,U3]
           simp only [wpPlan]
           go_wp2_with fail
           go_meet
           exact ⟨by simp [hm],Hsw.out.drew⟩
         . go_simp
           refine hK _ _ (by first | exact fun _=>kq0 | exact fun _=>cell_set_ne (by first | (dsimp only;omega) | (show _ ≠ _;omega) | (simp<;>omega)) kq0) ?_;clear hK K
           try simp only [Act.put,U1,U2,U3]
           refine planTL ?_
           refine planF rfl rfl (fun K hK=>?_)
           go_simp
           refine hK _ _ (by first | exact fun h=>absurd h (by decide) | exact fun _=>kq0 | exact fun _=>cell_set_ne (by first | (dsimp only;omega) | (show _ ≠ _;omega) | (simp<;>omega)) kq0) ?_;clear hK K
           try simp only [Act.put,U1,U2,U3]
           refine planT rfl rfl (v:=?_) (fun w' hw'=>?_) ?_;rotate_left;(focus go_simp;try with_reducible rfl);try simp only [Act.put,U1,U2,U3]
           refine planF rfl rfl (fun K hK=>?_)
           go_simp
           refine hK _ _ (by first | exact fun h=>absurd h (by decide) | exact fun _=>kq0 | exact fun _=>cell_set_ne (by first | (dsimp only;omega) | (show _ ≠ _;omega) | (simp<;>omega)) kq0) ?_;clear hK K
           try simp only [Act.put,U1,U2,U3]
           refine planF rfl rfl (fun K hK=>?_)
           go_simp
           refine hK _ _ (by first | exact fun h=>absurd h (by decide) | exact fun _=>kq0 | exact fun _=>cell_set_ne (by first | (dsimp only;omega) | (show _ ≠ _;omega) | (simp<;>omega)) kq0) ?_;clear hK K
           try simp only [Act.put,U1,U2,U3]
           refine planF rfl rfl (fun K hK=>?_)
           go_simp
           refine hK _ _ (by first | exact fun h=>absurd h (by decide) | exact fun _=>kq0 | exact fun _=>cell_set_ne (by first | (dsimp only;omega) | (show _ ≠ _;omega) | (simp<;>omega)) kq0) ?_;clear hK K
           try simp only [Act.put,U1,U2,U3]
           simp only [wpPlan]
           go_wp2_with fail
           go_meet
           exact ⟨by simp [hm],Hsw.out.drew⟩
       . have hm2 : ¬ (0 : Int) < (m : Int):=by omega
         obtain rfl : m = 0:=by omega
         go_wp2_with fail
         go_meet
         refine ⟨by simp,?_⟩
         rw [Hg.out,swapF_self]
         exact Hbt.out
      case rest=>
       obtain ⟨rfl,hbt⟩:=hcut
       have Hbt:=lid hbt
       have hQb:=Hsz.out (k + 1) (2 * Q + 1) (by omega) (by have:=HQ.out;omega)
       clear hbt
       have kq0 : wc.cell? ⟨wk.heap.size,0,none⟩ = some (.int .i64 (k : Int)):=Hbt.out.2.2.2.1.cell 0
       go_wp2_with fail
       go_loopw [8] (fun x wr=>∃ i : Nat,k < i /\ i <= n /\ x = .int .i64 (i : Int) /\ BT w wr base n go cap w.heap.size (partF g k last i (k + 1)) w.heap.size w1.heap.size wk.heap.size last k) (fun x _=>n - (intOf x).toNat)
       case atStart=>exact ⟨k + 1,by omega,by omega,by go_num,by rw [partF_start];exact Hbt.out⟩
       case round=>
        clear kq0 Hbt
        obtain ⟨i,hki,hin,rfl,hT⟩:=hrel
        have Hbi:=lid hT
        clear hT
        have kq0 : wr.cell? ⟨wk.heap.size,0,none⟩ = some (.int .i64 (k : Int)):=Hbi.out.2.2.2.1.cell 0
        by_cases hlt2 : i < n
        . obtain ⟨wi,hwi⟩ : ∃ wi,wi = wr:=⟨_,rfl⟩
          subst hwi
          go_wp2_with fail
          go_loopw [9] (fun x wr=>∃ j : Nat,k < j /\ j <= n /\ x = .int .i64 (j : Int) /\ BT w wr base n go cap w.heap.size (partF g k last i j) w.heap.size w1.heap.size wk.heap.size last k) (fun x _=>n - (intOf x).toNat)
          case atStart=>exact ⟨k + 1,by omega,by omega,by go_num,Hbi.out⟩
          case round=>
           clear kq0 Hbi
           obtain ⟨j,hkj,hjn,rfl,hT⟩:=hrel
           by_cases hlt3 : j < n
           . have Hbj:=lid hT
             clear hT
             obtain ⟨gi,ci,li,ti,ei,ri,_⟩:=Hbj.out.row i hlt2
             obtain ⟨gk,ck,lk,tk,ek,rk,_⟩:=Hbj.out.row k hlt
             obtain ⟨p1,p2,p3,p4⟩:=partF_at g k last i j
             obtain ⟨aa,aa'⟩:=ri j hlt3
             obtain ⟨ab,ab'⟩:=rk k hlt
             obtain ⟨ac,ac'⟩:=ri k hlt
             obtain ⟨ad,ad'⟩:=rk j hlt3
             rw [p1] at aa aa'
             rw [p2] at ab ab'
             rw [p3] at ac ac'
             rw [p4] at ad ad'
             have hgQ:=HgQ.out
             have q1:=hgQ i j hlt2 hlt3;have q2:=hgQ k k hlt hlt;have q3:=hgQ i k hlt2 hlt;have q4:=hgQ k j hlt hlt3
             obtain ⟨m1,m2,m3⟩:=num_lt g k i j Q q1 q2 q3 q4
             have hdv:=Hdv.out i j hki hlt2 hkj hlt3
             have hnext:=fun a b=>congrFun (congrFun (partF_next g k last i j hki hkj) a) b
             have hN : g i j * g k k - g i k * g k j = numF g k i j:=rfl
             generalize numF g k i j = N at *
             obtain ⟨x1,hx1⟩ : ∃ x,g i j = x:=⟨_,rfl⟩
             obtain ⟨x2,hx2⟩ : ∃ x,g k k = x:=⟨_,rfl⟩
             obtain ⟨x3,hx3⟩ : ∃ x,g i k = x:=⟨_,rfl⟩
             obtain ⟨x4,hx4⟩ : ∃ x,g k j = x:=⟨_,rfl⟩
             rw [hx1] at q1 m1 hN aa aa'
             rw [hx2] at q2 m1 hN ab ab'
             rw [hx3] at q3 m2 hN ac ac'
             rw [hx4] at q4 m2 hN ad ad'
             obtain ⟨P1,hP1⟩ : ∃ x,x1 * x2 = x:=⟨_,rfl⟩
             obtain ⟨P2,hP2⟩ : ∃ x,x3 * x4 = x:=⟨_,rfl⟩
             rw [hP1] at m1 hN
             rw [hP2] at m2 hN
             have L1 : (nt x1.natAbs).length <= 17179869184:=len_of_bits q1 (by omega)
             have L2 : (nt x2.natAbs).length <= 17179869184:=len_of_bits q2 (by omega)
             have L3 : (nt x3.natAbs).length <= 17179869184:=len_of_bits q3 (by omega)
             have L4 : (nt x4.natAbs).length <= 17179869184:=len_of_bits q4 (by omega)
             have L5 : (nt P1.natAbs).length <= 34359738368:=len_of_bits m1 (by omega)
             have L6 : (nt P2.natAbs).length <= 34359738368:=len_of_bits m2 (by omega)
             have L7 : (nt N.natAbs).length <= 34359738368:=len_of_bits m3 (by omega)
             have L8 : (nt last.natAbs).length <= 34359738368:=len_of_bits HlQ.out (by omega)
             have HL1:=lid L1;have HL2:=lid L2;have HL3:=lid L3;have HL4:=lid L4;have HL5:=lid L5;have HL6:=lid L6;have HL7:=lid L7;have HL8:=lid L8
             have HP1:=lid hP1;have HP2:=lid hP2;have HN:=lid hN;have Hdn:=lid hdv;have Hnext:=lid hnext
             clear L1 L2 L3 L4 L5 L6 L7 L8 hP1 hP2 hN hdv hnext q1 q2 q3 q4 m1 m2 m3 hx1 hx2 hx3 hx4 hgQ p1 p2 p3 p4 ri rk
             have win2 : ∀ (b o : Nat) (u v : Value),wr.cell? ⟨b,o,none⟩ = some u -> wr.cell? ⟨b,o + 1,none⟩ = some v -> Win wr b o [u,v]:=by
              intro b o u v h1 h2 j hj
              rcases j with _ | _ | j
              . exact h1
              . exact h2
              . simp at hj;omega
             have win1 : ∀ (b o : Nat) (u : Value),wr.cell? ⟨b,o,none⟩ = some u -> Win wr b o [u]:=by
              intro b o u h1 j hj
              obtain rfl : j = 0:=by simp at hj;omega
              exact h1
             have Hkq:=lid Hbj.out.2.2.2.1
             have Hxi:=lid (win1 _ _ _ ei);have Hxk:=lid (win1 _ _ _ ek)
             have Haa:=lid (win2 _ _ _ _ aa aa');have Hab:=lid (win2 _ _ _ _ ab ab');have Hac:=lid (win2 _ _ _ _ ac ac');have Had:=lid (win2 _ _ _ _ ad ad')
             clear win1 win2 ei ek aa aa' ab ab' ac ac' ad ad'
             have ixi:=i155x123 n cap i (i : Int) (rfl : (some ⟨go,0,none⟩ : Option Addr) = _) hlt2 rfl
             have ixk:=i155x123 n cap k (k : Int) (rfl : (some ⟨go,0,none⟩ : Option Addr) = _) hlt rfl
             rw [Nat.zero_add,Nat.mul_one] at ixi ixk
             have iij:=i123x34 n ci j (j : Int) (rfl : (some ⟨gi,0,none⟩ : Option Addr) = _) hlt3 rfl
             have iik:=i123x34 n ci k (k : Int) (rfl : (some ⟨gi,0,none⟩ : Option Addr) = _) hlt rfl
             have ikj:=i123x34 n ck j (j : Int) (rfl : (some ⟨gk,0,none⟩ : Option Addr) = _) hlt3 rfl
             have ikk:=i123x34 n ck k (k : Int) (rfl : (some ⟨gk,0,none⟩ : Option Addr) = _) hlt rfl
             rw [Nat.zero_add] at iij iik ikj ikk
             go_upto_region 18 with fail
             go_cut [10] (fun s10 wx=>∃ b : Nat,s10 = .pointer (some ⟨b,0,none⟩) /\ Blk wx b 34 [.bool (sgnB N),.string (bs (nt N.natAbs))] /\ Below wr.heap.size wr wx)
             case first=>
              clear HgQ HQ HlQ Hgk2 Hst2 Hg Hba2 Hex2 Hnext Hdn Hgk Hbj
              obtain ⟨w0,hw0⟩ : ∃ w0,w0 = w:=⟨_,rfl⟩
              subst hw0
              obtain ⟨w,hww⟩ : ∃ w,w = wr:=⟨_,rfl⟩
              subst hww
              have Hb : Hid (Below w.heap.size w w):=Below.refl _ _
              have kq0:=Hkq.out.c1
              have xi0:=Hxi.out.w1
              have xk0:=Hxk.out.w1
              obtain ⟨aa0,aa1⟩:=Haa.out.w2
              obtain ⟨ab0,ab1⟩:=Hab.out.w2
              obtain ⟨ac0,ac1⟩:=Hac.out.w2
              obtain ⟨ad0,ad1⟩:=Had.out.w2
              obtain ⟨cs,hcs⟩ : ∃ cs : List (Addr × Value),[(⟨wk.heap.size,0,none⟩,.int .i64 (k : Int)),(⟨go,i,none⟩,.slice (some ⟨gi,0,none⟩) n ci),(⟨go,k,none⟩,.slice (some ⟨gk,0,none⟩) n ck),(⟨gi,j * 2,none⟩,.bool (sgnB x1)),(⟨gi,j * 2 + 1,none⟩,.string (bs (nt x1.natAbs))),(⟨gk,k * 2,none⟩,.bool (sgnB x2)),(⟨gk,k * 2 + 1,none⟩,.string (bs (nt x2.natAbs))),(⟨gi,k * 2,none⟩,.bool (sgnB x3)),(⟨gi,k * 2 + 1,none⟩,.string (bs (nt x3.natAbs))),(⟨gk,j * 2,none⟩,.bool (sgnB x4)),(⟨gk,j * 2 + 1,none⟩,.string (bs (nt x4.natAbs)))] = cs:=⟨_,rfl⟩
              have HRd : ∀ w',Keeps cs w' -> w'.cell? ⟨wk.heap.size,0,none⟩ = some (.int .i64 (k : Int)) /\ w'.cell? ⟨go,i,none⟩ = some (.slice (some ⟨gi,0,none⟩) n ci) /\ w'.cell? ⟨go,k,none⟩ = some (.slice (some ⟨gk,0,none⟩) n ck) /\ w'.cell? ⟨gi,j * 2,none⟩ = some (.bool (sgnB x1)) /\ w'.cell? ⟨gi,j * 2 + 1,none⟩ = some (.string (bs (nt x1.natAbs))) /\ w'.cell? ⟨gk,k * 2,none⟩ = some (.bool (sgnB x2)) /\ w'.cell? ⟨gk,k * 2 + 1,none⟩ = some (.string (bs (nt x2.natAbs))) /\ w'.cell? ⟨gi,k * 2,none⟩ = some (.bool (sgnB x3)) /\ w'.cell? ⟨gi,k * 2 + 1,none⟩ = some (.string (bs (nt x3.natAbs))) /\ w'.cell? ⟨gk,j * 2,none⟩ = some (.bool (sgnB x4)) /\ w'.cell? ⟨gk,j * 2 + 1,none⟩ = some (.string (bs (nt x4.natAbs))):=by subst hcs;intro w' h;exact ⟨h.hd,h.tl.hd,h.tl.tl.hd,h.tl.tl.tl.hd,h.tl.tl.tl.tl.hd,h.tl.tl.tl.tl.tl.hd,h.tl.tl.tl.tl.tl.tl.hd,h.tl.tl.tl.tl.tl.tl.tl.hd,h.tl.tl.tl.tl.tl.tl.tl.tl.hd,h.tl.tl.tl.tl.tl.tl.tl.tl.tl.hd,h.tl.tl.tl.tl.tl.tl.tl.tl.tl.tl.hd⟩
              have HKS : Hid (Keeps cs w):=by subst hcs;show Keeps _ _;intro p hp;simp only [List.mem_cons,List.not_mem_nil,or_false] at hp;rcases hp with rfl | rfl | rfl | rfl | rfl | rfl | rfl | rfl | rfl | rfl | rfl<;>assumption
              refine wp_region_planA (fun w'=>Keeps cs w') (fun i=>Nat.blt i 34) [14,15,30,31,32,33] (fun k=>if k = 15 then [14] else if k = 31 then [15,30] else if k = 32 then [15,31] else []) [(34,false)] [0,1,2,3,4,5,6,7,8,9,10,11,12,13,16,17,18,19,20,21,22,23,24,25,26,27,28,29] (by kernel_rfl) (by kernel_rfl) rfl (by kernel_rfl) (fun o c a v w=>by cases o.dst<;>exact id) HKS.out.drew ?_
              iterate 28 (refine planAT rfl rfl (v:=?_) (fun w' hw'=>?_) ?_;rotate_left;(focus have hw':=HRd w' hw';obtain ⟨q0,q1,q2,q3,q4,q5,q6,q7,q8,q9,q10⟩:=hw';go_simp;try with_reducible rfl);try simp only [Act.put,U1,U2,U3])
              clear kq0
              clear xi0
              clear xk0
              clear aa0 aa1
              clear ab0 ab1
              clear ac0 ac1
              clear ad0 ad1
              clear Hkq Hxi Hxk Haa Hab Hac Had HRd hcs
              refine planAI (fun a0=>StA a0 w cs x1 x2 x3 x4 P1 P2 N) (StA.init _ _ _ _ _ _ _ _ _ _ _ HKS.out.drew (Below.refl _ _).drew) ?_ ?_ ?_
              . rintro dn a' w' ⟨_,_,_,_,_,_,_,h,_⟩
                exact h
              . intro k0 hk0 dn a' w' _ hD hI
                obtain ⟨v1,v2,v3,v4,v5,v6,rfl,hK0,hB0,f1,f2,f3,f4,f5,f6⟩:=hI
                simp only [List.mem_cons,List.not_mem_nil,or_false] at hk0
                rcases hk0 with rfl | rfl | rfl | rfl | rfl | rfl
                . have hK1:=hK0.alloc (.cells #[.bool (sgnB x1),.string (bs (nt x1.natAbs)),.bool (sgnB x2),.string (bs (nt x2.natAbs))] 34)
                  have hal:=(Below.refl w'.heap.size w').alloc (Nat.le_refl _) (.cells #[.bool (sgnB x1),.string (bs (nt x1.natAbs)),.bool (sgnB x2),.string (bs (nt x2.natAbs))] 34)
                  refine opF rfl rfl (fun K hK=>?_)
                  clear f1
                  simp only [Act.put,U1,U2,U3]
                  go_simp
                  refine hK _ _ ⟨.slice (some ⟨w'.heap.size,0,none⟩) 2 2,v2,v3,v4,v5,v6,by simp only [Act.put,U1,U2,U3],hK1,bnext hB0 hal,fun _=>⟨_,rfl,Blk.new _ _ _⟩,fun h=>f2 (by simpa using h),fun h=>?_,fun h=>f4 (by simpa using h),fun h=>f5 (by simpa using h),fun h=>?_⟩
                  . obtain ⟨b,e,q⟩:=f3 (by simpa using h)
                    exact ⟨b,e,q.below hal⟩
                  . obtain ⟨b,e,hb,q⟩:=f6 (by simpa using h)
                    exact ⟨b,e,hb,q.below hal⟩
                . obtain ⟨b,rfl,q⟩:=f1 (hD 14 (by simp))
                  refine opF rfl rfl (fun K hK=>?_)
                  clear f1
                  simp only [Act.put,U1,U2,U3]
                  go_simp
                  with_reducible refine (wMulI x1 x2 P1 HP1.out b 2 _ _ HL1.out HL2.out q).mono ?_
                  rintro e w2 ⟨rfl,hq⟩
                  refine hK _ _ ⟨_,intV P1,v3,v4,v5,v6,by simp only [Act.put,U1,U2,U3],hK0.below hq,bnext hB0 hq,fun _=>⟨b,rfl,q.below hq⟩,fun _=>rfl,fun h=>?_,fun h=>f4 (by simpa using h),fun h=>f5 (by simpa using h),fun h=>?_⟩
                  . obtain ⟨b,e,q⟩:=f3 (by simpa using h)
                    exact ⟨b,e,q.below hq⟩
                  . obtain ⟨b,e,hb,q⟩:=f6 (by simpa using h)
                    exact ⟨b,e,hb,q.below hq⟩
                . have hK1:=hK0.alloc (.cells #[.bool (sgnB x3),.string (bs (nt x3.natAbs)),.bool (sgnB x4),.string (bs (nt x4.natAbs))] 34)
                  have hal:=(Below.refl w'.heap.size w').alloc (Nat.le_refl _) (.cells #[.bool (sgnB x3),.string (bs (nt x3.natAbs)),.bool (sgnB x4),.string (bs (nt x4.natAbs))] 34)
                  refine opF rfl rfl (fun K hK=>?_)
                  clear f3
                  simp only [Act.put,U1,U2,U3]
                  go_simp
                  refine hK _ _ ⟨v1,v2,.slice (some ⟨w'.heap.size,0,none⟩) 2 2,v4,v5,v6,by simp only [Act.put,U1,U2,U3],hK1,bnext hB0 hal,fun h=>?_,fun h=>f2 (by simpa using h),fun _=>⟨_,rfl,Blk.new _ _ _⟩,fun h=>f4 (by simpa using h),fun h=>f5 (by simpa using h),fun h=>?_⟩
                  . obtain ⟨b,e,q⟩:=f1 (by simpa using h)
                    exact ⟨b,e,q.below hal⟩
                  . obtain ⟨b,e,hb,q⟩:=f6 (by simpa using h)
                    exact ⟨b,e,hb,q.below hal⟩
                . obtain ⟨b,rfl,q⟩:=f3 (hD 30 (by simp))
                  obtain rfl:=f2 (hD 15 (by simp))
                  refine opF rfl rfl (fun K hK=>?_)
                  clear f3
                  simp only [Act.put,U1,U2,U3]
                  go_simp
                  with_reducible refine (wMulI x3 x4 P2 HP2.out b 2 _ _ HL3.out HL4.out q).mono ?_
                  rintro e w2 ⟨rfl,hq⟩
                  refine hK _ _ ⟨v1,intV P1,.slice (some ⟨b,0,none⟩) 2 2,intV P2,v5,v6,by simp only [Act.put,U1,U2,U3],hK0.below hq,bnext hB0 hq,fun h=>?_,fun _=>rfl,fun _=>⟨b,rfl,q.below hq⟩,fun _=>rfl,fun h=>f5 (by simpa using h),fun h=>?_⟩
                  . obtain ⟨b,e,q⟩:=f1 (by simpa using h)
                    exact ⟨b,e,q.below hq⟩
                  . obtain ⟨b,e,hb,q⟩:=f6 (by simpa using h)
                    exact ⟨b,e,hb,q.below hq⟩
                . obtain rfl:=f2 (hD 15 (by simp))
                  obtain rfl:=f4 (hD 31 (by simp))
                  refine opF rfl rfl (fun K hK=>?_)
                  clear f2 f4
                  simp only [Act.put,U1,U2,U3]
                  go_simp
                  with_reducible refine (wSubI P1 P2 N HN.out _ HL5.out HL6.out).mono ?_
                  rintro e w2 ⟨rfl,hq⟩
                  refine hK _ _ ⟨v1,_,v3,_,intV N,v6,by simp only [Act.put,U1,U2,U3],hK0.below hq,bnext hB0 hq,fun h=>?_,fun _=>rfl,fun h=>?_,fun _=>rfl,fun _=>rfl,fun h=>?_⟩
                  . obtain ⟨b,e,q⟩:=f1 (by simpa using h)
                    exact ⟨b,e,q.below hq⟩
                  . obtain ⟨b,e,q⟩:=f3 (by simpa using h)
                    exact ⟨b,e,q.below hq⟩
                  . obtain ⟨b,e,hb,q⟩:=f6 (by simpa using h)
                    exact ⟨b,e,hb,q.below hq⟩
                . have hK1:=hK0.alloc (.cells #[.bool false,.string ⟨#[]⟩] 34)
                  have hal:=(Below.refl w'.heap.size w').alloc (Nat.le_refl _) (.cells #[.bool false,.string ⟨#[]⟩] 34)
                  refine opF rfl rfl (fun K hK=>?_)
                  clear f6
                  simp only [Act.put,U1,U2,U3]
                  go_simp
                  refine hK _ _ ⟨v1,v2,v3,v4,v5,.pointer (some ⟨w'.heap.size,0,none⟩),by simp only [Act.put,U1,U2,U3],hK1,bnext hB0 hal,fun h=>?_,fun h=>f2 (by simpa using h),fun h=>?_,fun h=>f4 (by simpa using h),fun h=>f5 (by simpa using h),fun _=>⟨_,rfl,hB0.size,Blk.new _ _ _⟩⟩
                  . obtain ⟨b,e,q⟩:=f1 (by simpa using h)
                    exact ⟨b,e,q.below hal⟩
                  . obtain ⟨b,e,q⟩:=f3 (by simpa using h)
                    exact ⟨b,e,q.below hal⟩
              . intro dn a' w' hall hI
                obtain ⟨v1,v2,v3,v4,v5,v6,rfl,hK0,hB0,f1,f2,f3,f4,f5,f6⟩:=hI
                obtain rfl:=f5 (hall 32 (by simp))
                obtain ⟨b,rfl,hb,q⟩:=f6 (hall 33 (by simp))
                obtain ⟨nb0,fnb0,nb1,fnb1⟩:=q.g2
                have hQ9:=(q.set 0 (.bool (sgnB N))).set 1 (.string (bs (nt N.natAbs)))
                have hB9:=(hB0.sc b 0 hb (.bool (sgnB N))).sc b 1 hb (.string (bs (nt N.natAbs)))
                clear f1 f2 f3 f4 f5 f6
                refine planF rfl rfl (fun K hK=>?_)
                simp only [Act.put,U1,U2,U3]
                go_simp
                refine hK _ _ (fun h=>absurd h (by decide)) ?_;clear hK K
                simp only [wpPlan]
                go_wp2_with fail
                go_meet
                exact ⟨b,rfl,hQ9,hB9⟩
             case rest=>
              obtain ⟨bx,rfl,qx,qb⟩:=hcut
              have Hbk:=lid (Hbj.out.below qb)
              have Hnb:=lid qx
              clear qx qb Hbj Hkq Hxi Hxk Haa Hab Hac Had ixk iik ikj ikk iij HL1 HL2 HL3 HL4 HL5 HL6 HP1 HP2 HN li lk ti tk
              obtain ⟨g9,c9,lt9,lu9,e9,r9,f9⟩:=Hbk.out.row2 i hlt2
              have ne9:=Hbk.out.1.row_ne i hlt2 e9
              have nx9 : bx ≠ g9:=by
               rintro rfl
               have h1:=(r9 1 (by omega)).1
               rw [Hnb.out.cell] at h1
               simp at h1
              obtain ⟨r90,r91⟩:=r9 j hlt3
              obtain ⟨y,hy⟩ : ∃ y,partF g k last i j i j = y:=⟨_,rfl⟩
              rw [hy] at r90 r91
              have Hxi : Hid (Win wc go i [.slice (some ⟨g9,0,none⟩) n c9]):=fun j hj=>by
               obtain rfl : j = 0:=by simp at hj;omega
               exact e9
              have Haa : Hid (Win wc g9 (j * 2) [.bool (sgnB y),.string (bs (nt y.natAbs))]):=fun j' hj=>by
               rcases j' with _ | _ | j'
               . exact r90
               . exact r91
               . simp at hj;omega
              have Hl:=lid Hbk.out.2.2.1
              have iij:=i123x34 n c9 j (j : Int) (rfl : (some ⟨g9,0,none⟩ : Option Addr) = _) hlt3 rfl
              rw [Nat.zero_add] at iij
              obtain ⟨Dv,hDv⟩ : ∃ Dv,N / last = Dv:=⟨_,rfl⟩
              have hdc : Calls Tryz.prog 126 #[.agg #[.bool (sgnB N),.string (bs (nt N.natAbs))],.agg #[.bool (sgnB last),.string (bs (nt last.natAbs))]] wc.drew fun e w'=>∃ r,e = .returned (.tuple #[intV Dv,r,.bool true]) /\ (w'.frozen? ⟨g9,j * 2,none⟩ = false /\ w'.frozen? ⟨g9,j * 2 + 1,none⟩ = false) /\ Below wc.drew.heap.size wc.drew w':=
               (wDivI N last wc.drew HL7.out HL8.out Hl0.out Hdn.out).mono (fun e w' ⟨r,he,hb⟩=>⟨r,by rw [he,hDv],⟨(f9 w' (bundrew hb)).1 _,(f9 w' (bundrew hb)).1 _⟩,hb⟩)
              have Hf9:=lid f9;have Hdc:=lid hdc;have HDv:=lid hDv
              clear r90 r91 hy e9 r9 f9 hdc hDv HL7 HL8 Hdn
              have Hb : Hid (Below wc.heap.size wc wc):=Below.refl _ _
              go_wp2_with fail
              have xi0:=Hxi.out.w1
              obtain ⟨aa0,aa1⟩:=Haa.out.w2
              obtain ⟨nb0,nb1⟩:=Hnb.out.c2
              obtain ⟨l0,l1⟩:=Hl.out.c2
              refine wp_region_plan (fun w'=>w'.cell? ⟨go,i,none⟩ = some (.slice (some ⟨g9,0,none⟩) n c9) /\ w'.cell? ⟨bx,0,none⟩ = some (.bool (sgnB N)) /\ w'.cell? ⟨bx,1,none⟩ = some (.string (bs (nt N.natAbs))) /\ w'.cell? ⟨w1.heap.size,0,none⟩ = some (.bool (sgnB last)) /\ w'.cell? ⟨w1.heap.size,1,none⟩ = some (.string (bs (nt last.natAbs)))) (fun i=>Nat.blt i 100000) [(0,true),(1,true),(2,true),(3,true),(4,true),(5,true),(6,true),(7,false),(8,true),(9,true),(10,true),(11,true),(12,true),(13,false)] (by kernel_rfl) (by kernel_rfl) rfl (by kernel_rfl) (fun o c a v w=>by cases o.dst<;>exact id) ⟨xi0,nb0,nb1,l0,l1⟩ ?_
              iterate 7 (refine planT rfl rfl (v:=?_) (fun w' hw'=>?_) ?_;rotate_left;(focus obtain ⟨q0,q1,q2,q3,q4⟩:=hw';go_simp;try with_reducible rfl);try simp only [Act.put,U1,U2,U3])
              refine planF rfl rfl (fun K hK=>?_)
              go_simp
              with_reducible refine (Hdc.out).mono ?_
              rintro e w5 ⟨rr,rfl,⟨z0,z1⟩,hq⟩
              have hbn : Below wc.heap.size wc w5:=by first | exact hq | exact bundrew hq
              clear xi0
              clear aa0 aa1
              clear nb0 nb1
              clear l0 l1
              replace Hxi:=kW Hxi hbn
              replace Haa:=kW Haa hbn
              replace Hnb:=kB Hnb hbn
              replace Hl:=kB Hl hbn
              have xi0:=Hxi.out.w1
              obtain ⟨aa0,aa1⟩:=Haa.out.w2
              obtain ⟨nb0,nb1⟩:=Hnb.out.c2
              obtain ⟨l0,l1⟩:=Hl.out.c2
              replace Hb:=bnx Hb hbn;clear hbn
              refine hK _ _ (fun _=>⟨xi0,nb0,nb1,l0,l1⟩) ?_;clear hK K
              try simp only [Act.put,U1,U2,U3]
              iterate 5 (refine planT rfl rfl (v:=?_) (fun w' hw'=>?_) ?_;rotate_left;(focus go_simp;try with_reducible rfl);try simp only [Act.put,U1,U2,U3])
              refine planF rfl rfl (fun K hK=>?_)
              go_simp
              refine hK _ _ (by first | exact fun h=>absurd h (by decide) | exact fun _=>⟨xi0,nb0,nb1,l0,l1⟩ | exact fun _=>⟨(by first | exact xi0 | exact cell_set_at (by first | (dsimp only;omega) | (simp<;>omega)) xi0 | exact cell_set_at (by first | (dsimp only;omega) | (simp<;>omega)) (cell_set_at (by first | (dsimp only;omega) | (simp<;>omega)) xi0) | exact cell_set_at (by first | (dsimp only;omega) | (simp<;>omega)) (cell_set_at (by first | (dsimp only;omega) | (simp<;>omega)) (cell_set_at (by first | (dsimp only;omega) | (simp<;>omega)) xi0))),(by first | exact nb0 | exact cell_set_at (by first | (dsimp only;omega) | (simp<;>omega)) nb0 | exact cell_set_at (by first | (dsimp only;omega) | (simp<;>omega)) (cell_set_at (by first | (dsimp only;omega) | (simp<;>omega)) nb0) | exact cell_set_at (by first | (dsimp only;omega) | (simp<;>omega)) (cell_set_at (by first | (dsimp only;omega) | (simp<;>omega)) (cell_set_at (by first | (dsimp only;omega) | (simp<;>omega)) nb0))),(by first | exact nb1 | exact cell_set_at (by first | (dsimp only;omega) | (simp<;>omega)) nb1 | exact cell_set_at (by first | (dsimp only;omega) | (simp<;>omega)) (cell_set_at (by first | (dsimp only;omega) | (simp<;>omega)) nb1) | exact cell_set_at (by first | (dsimp only;omega) | (simp<;>omega)) (cell_set_at (by first | (dsimp only;omega) | (simp<;>omega)) (cell_set_at (by first | (dsimp only;omega) | (simp<;>omega)) nb1))),(by first | exact l0 | exact cell_set_at (by first | (dsimp only;omega) | (simp<;>omega)) l0 | exact cell_set_at (by first | (dsimp only;omega) | (simp<;>omega)) (cell_set_at (by first | (dsimp only;omega) | (simp<;>omega)) l0) | exact cell_set_at (by first | (dsimp only;omega) | (simp<;>omega)) (cell_set_at (by first | (dsimp only;omega) | (simp<;>omega)) (cell_set_at (by first | (dsimp only;omega) | (simp<;>omega)) l0))),(by first | exact l1 | exact cell_set_at (by first | (dsimp only;omega) | (simp<;>omega)) l1 | exact cell_set_at (by first | (dsimp only;omega) | (simp<;>omega)) (cell_set_at (by first | (dsimp only;omega) | (simp<;>omega)) l1) | exact cell_set_at (by first | (dsimp only;omega) | (simp<;>omega)) (cell_set_at (by first | (dsimp only;omega) | (simp<;>omega)) (cell_set_at (by first | (dsimp only;omega) | (simp<;>omega)) l1)))⟩) ?_;clear hK K
              try simp only [Act.put,U1,U2,U3]
              simp only [wpPlan]
              go_wp2
              go_roundw
              case rel=>
               have h9:=(Hf9.out w5 Hb.out).2 j hlt3 Dv
               rw [<- HDv.out] at h9
               exact ⟨j + 1,by omega,by omega,by go_num,by rw [HDv.out] at h9;exact h9.congr (fun a b _ _=>by rw [<- HDv.out];exact Hnext.out a b)⟩
              case measure=>simp [intOf];omega
           . obtain rfl : j = n:=by omega
             have HT:=lid hT
             clear hT
             go_wp2
             go_roundw
             case rel=>exact ⟨i + 1,by omega,by omega,by go_num,HT.out.congr (fun a b _ hb=>partF_row g k last i j a b hb)⟩
             case measure=>simp [intOf];omega
        . obtain rfl : i = n:=by omega
          have hT:=Hbi.out.congr (fun a b ha _=>partF_all g k last i a b ha)
          obtain ⟨gk,ck,lk,tk,ek,rk,_⟩:=hT.row k hlt
          have e1 : stepF g k last k k = g k k:=by unfold stepF;rw [if_neg (by omega)]
          obtain ⟨ek0,ek1⟩:=rk k hlt
          rw [e1] at ek0 ek1
          obtain ⟨x,hx⟩ : ∃ x,g k k = x:=⟨_,rfl⟩
          have hgk:=Hgk.out;have hg2:=Hgk2.out
          have Hn : Hid (∃ Q,Q + 1 <= 2 ^ (k + 1) * (K + 1) /\ x.natAbs < 2 ^ Q /\ ∀ a b,a < i -> b < i -> (stepF g k last a b).natAbs < 2 ^ Q):=⟨2 * Q + 1,by have:=HQ.out;omega,by rw [<- hx];exact hg2,Hst2.out⟩
          have He2:=Hex2.out;have Hba:=Hba2.out
          rw [hx] at ek0 ek1 hgk He2 Hba
          have HE2:=lid He2;have HBA:=lid Hba
          have hLK : w1.heap.size < wk.heap.size:=by have:=lz_l_W3;omega
          have Hnx:=lid (hT.setLast x (by omega) (by omega))
          have Hl:=lid hT.2.2.1
          have hixk:=i155x123 i cap k (k : Int) (rfl : (some ⟨go,0,none⟩ : Option Addr) = _) hlt rfl
          have hixn:=i123x34 i ck k (k : Int) (rfl : (some ⟨gk,0,none⟩ : Option Addr) = _) hlt rfl
          rw [Nat.zero_add] at hixk hixn
          rw [Nat.mul_one] at hixk
          have Hkq:=lid hT.2.2.2.1
          have Hxk : Hid (Win wr go k [.slice (some ⟨gk,0,none⟩) i ck]):=fun j hj=>by
           obtain rfl : j = 0:=by simp at hj;omega
           exact ek
          have Hab : Hid (Win wr gk (k * 2) [.bool (sgnB x),.string (bs (nt x.natAbs))]):=fun j hj=>by
           rcases j with _ | _ | j
           . exact ek0
           . exact ek1
           . simp at hj;omega
          have Hhx:=lid hx
          clear hT rk ek ek0 ek1 e1 hg2 He2 Hba kq0 hx Hbi
          go_wp2_with fail
          have kq0:=Hkq.out.c1
          have xk0:=Hxk.out.w1
          obtain ⟨ab0,ab1⟩:=Hab.out.w2
          obtain ⟨l0,fl0,l1,fl1⟩:=Hl.out.g2
          refine wp_region_plan (fun w'=>w'.cell? ⟨wk.heap.size,0,none⟩ = some (.int .i64 (k : Int)) /\ w'.cell? ⟨go,k,none⟩ = some (.slice (some ⟨gk,0,none⟩) i ck) /\ w'.cell? ⟨gk,k * 2,none⟩ = some (.bool (sgnB x)) /\ w'.cell? ⟨gk,k * 2 + 1,none⟩ = some (.string (bs (nt x.natAbs)))) (fun i=>Nat.blt i 7) [(0,true),(1,true),(2,true),(3,true),(4,true),(5,true),(6,true),(7,false)] (by kernel_rfl) (by kernel_rfl) rfl (by kernel_rfl) (fun o c a v w=>by cases o.dst<;>exact id) ⟨kq0,xk0,ab0,ab1⟩ ?_
          iterate 7 (refine planT rfl rfl (v:=?_) (fun w' hw'=>?_) ?_;rotate_left;(focus obtain ⟨q0,q1,q2,q3⟩:=hw';go_simp;try with_reducible rfl);try simp only [Act.put,U1,U2,U3])
          refine planF rfl rfl (fun K hK=>?_)
          go_simp
          refine hK _ _ (by first | exact fun h=>absurd h (by decide) | exact fun _=>⟨kq0,xk0,ab0,ab1⟩ | exact fun _=>⟨(by first | exact kq0 | exact cell_set_at (by first | (dsimp only;omega) | (simp<;>omega)) kq0 | exact cell_set_at (by first | (dsimp only;omega) | (simp<;>omega)) (cell_set_at (by first | (dsimp only;omega) | (simp<;>omega)) kq0) | exact cell_set_at (by first | (dsimp only;omega) | (simp<;>omega)) (cell_set_at (by first | (dsimp only;omega) | (simp<;>omega)) (cell_set_at (by first | (dsimp only;omega) | (simp<;>omega)) kq0))),(by first | exact xk0 | exact cell_set_at (by first | (dsimp only;omega) | (simp<;>omega)) xk0 | exact cell_set_at (by first | (dsimp only;omega) | (simp<;>omega)) (cell_set_at (by first | (dsimp only;omega) | (simp<;>omega)) xk0) | exact cell_set_at (by first | (dsimp only;omega) | (simp<;>omega)) (cell_set_at (by first | (dsimp only;omega) | (simp<;>omega)) (cell_set_at (by first | (dsimp only;omega) | (simp<;>omega)) xk0))),(by first | exact ab0 | exact cell_set_at (by first | (dsimp only;omega) | (simp<;>omega)) ab0 | exact cell_set_at (by first | (dsimp only;omega) | (simp<;>omega)) (cell_set_at (by first | (dsimp only;omega) | (simp<;>omega)) ab0) | exact cell_set_at (by first | (dsimp only;omega) | (simp<;>omega)) (cell_set_at (by first | (dsimp only;omega) | (simp<;>omega)) (cell_set_at (by first | (dsimp only;omega) | (simp<;>omega)) ab0))),(by first | exact ab1 | exact cell_set_at (by first | (dsimp only;omega) | (simp<;>omega)) ab1 | exact cell_set_at (by first | (dsimp only;omega) | (simp<;>omega)) (cell_set_at (by first | (dsimp only;omega) | (simp<;>omega)) ab1) | exact cell_set_at (by first | (dsimp only;omega) | (simp<;>omega)) (cell_set_at (by first | (dsimp only;omega) | (simp<;>omega)) (cell_set_at (by first | (dsimp only;omega) | (simp<;>omega)) ab1)))⟩) ?_;clear hK K
          try simp only [Act.put,U1,U2,U3]
          simp only [wpPlan]
          go_wp2
          go_roundw
          case rel=>exact ⟨k + 1,stepF g k last,x,_,by omega,by go_num,rfl,Bs.next Hnx.out.drew (fun _ _ _ _=>rfl) hgk HE2.out HBA.out Hn.out⟩
          case measure=>simp [intOf];omega
  . obtain rfl : k = n:=by omega
    obtain ⟨q1,q2,q3,_,q5,_,Q,hQ,hlQ,_⟩:=hS
    have hQb:=Hsz.out k Q (Nat.le_refl _) hQ
    have hll : (nt last.natAbs).length <= 1099511627776:=len_of_bits hlQ (by omega)
    rw [Nat.sub_self] at q5
    unfold bareF at q5
    have Hr:=lid q2;have Hl:=lid q3;have Hq:=lid q1;have HZ:=lid q5;have Hll:=lid hll
    clear q1 q2 q3 q5 hQ hlQ hll hQb
    have Hb : Hid (Below wk.heap.size wk wk):=Below.refl _ _
    obtain ⟨r0,fr0,r1,fr1⟩:=Hr.out.g2
    obtain ⟨l0,fl0,l1,fl1⟩:=Hl.out.g2
    have hbw2:=Hq.out.2.2.1
    cases t with
    | false =>
      have Hz : Hid (last = Z):=by
       have hz:=HZ.out
       simp only [Bool.false_eq_true,if_false] at hz
       exact hz
      go_wp2
      refine bodyPost_ret (v:=.agg #[.bool (sgnB last),.string (bs (nt last.natAbs))]) (by simp [results,Tryz.results101,go_sem,r0,r1]) rfl ⟨by rw [Hz.out],?_⟩
      exact (hbw2.setCell (by dsimp only;omega) _).setCell (by dsimp only;omega) _
    | true =>
      have Hz : Hid (-last = Z):=by
       have hz:=HZ.out
       simp only [if_true] at hz
       exact hz
      have hneg : ∀ W,Calls Tryz.prog 115 #[.agg #[.bool (sgnB last),.string (bs (nt last.natAbs))]] W fun e w'=>e = .returned (intV (-last)) /\ Below W.heap.size W w':=fun W=>by
       have:=wNeg_any (sgnB last) (nt last.natAbs) W Hll.out
       rw [iv_int] at this
       exact this
      go_wp2_with fail
      refine (hneg _).mono ?_
      rintro e w4 ⟨rfl,hbn⟩
      clear r0 fr0 r1 fr1
      clear l0 fl0 l1 fl1
      replace Hr:=kB Hr hbn
      replace Hl:=kB Hl hbn
      obtain ⟨r0,fr0,r1,fr1⟩:=Hr.out.g2
      obtain ⟨l0,fl0,l1,fl1⟩:=Hl.out.g2
      replace Hb:=bnx Hb hbn;clear hbn
      clear hneg
      go_wp2
      refine bodyPost_ret (v:=.agg #[.bool (sgnB (-last)),.string (bs (nt (-last).natAbs))]) (by simp [results,Tryz.results101,go_sem,r0,r1]) rfl ⟨by rw [Hz.out],?_⟩
      exact ((hbw2.trans (Hb.out.mono (by have:=Hq.out.2.2.2;omega))).setCell (by dsimp only;omega) _).setCell (by dsimp only;omega) _
theorem bareF_lt (n l k : Nat) (f : Nat -> Nat -> Int) (last : Int) (t : Bool) (Q : Nat) (hk : k + l = n) (hl : last.natAbs < 2 ^ Q) (hf : ∀ a b,a < n -> b < n -> (f a b).natAbs < 2 ^ Q) (hex : exactF n l k f last) : (bareF n l k f last t).natAbs < 2 ^ (2 ^ l * (Q + 1)):=by
 induction l generalizing k f last t Q with
 | zero =>
   unfold bareF
   have h1 : 2 ^ Q <= 2 ^ (2 ^ 0 * (Q + 1)):=Nat.pow_le_pow_right (by decide) (by simp)
   split
   . rw [Int.natAbs_neg];omega
   . omega
 | succ l ih =>
   unfold bareF
   unfold exactF at hex
   cases hp : pivF f n k with
   | none=>exact Nat.pow_pos (by decide)
   | some m =>
     rw [hp] at hex
     simp only at hex ⊢
     have hpm:=pivF_some hp
     obtain ⟨g,hg⟩ : ∃ g,g = swapF f k (k + m):=⟨_,rfl⟩
     rw [<- hg] at hex ⊢
     have hkn : k < n:=by omega
     have hgQ : ∀ a b,a < n -> b < n -> (g a b).natAbs < 2 ^ Q:=by
      intro a b ha hb
      rw [hg];unfold swapF
      refine hf _ _ ?_ hb
      split
      . omega
      . split
        . omega
        . exact ha
     have hQ1 : 2 ^ Q <= 2 ^ (2 * Q + 1):=Nat.pow_le_pow_right (by decide) (by omega)
     have e : 2 ^ (l + 1) * (Q + 1) = 2 ^ l * (2 * Q + 1 + 1):=by rw [Nat.pow_succ,Nat.mul_assoc];congr 1
     rw [e]
     refine ih (k + 1) _ _ _ (2 * Q + 1) (by omega) (Nat.lt_of_lt_of_le (hgQ k k hkn hkn) hQ1) (fun a b ha hb=>?_) hex.2
     unfold stepF
     split
     . rename_i h4
       have h5:=(num_lt g k a b Q (hgQ a b ha hb) (hgQ k k hkn hkn) (hgQ a k ha hkn) (hgQ k b hkn hb)).2.2
       rcases div_lt _ last _ h5 with h6 | h6
       . exact h6
       . exact absurd (hex.1 a b h4.1 ha h4.2 hb) h6
     . exact Nat.lt_of_lt_of_le (hgQ a b ha hb) hQ1
def entD (D : List (List Dyadic)) (i j : Nat) : Dyadic:=(D.getD i []).getD j 0
theorem tab_map (D : List (List Dyadic)) (n : Nat) (g : Dyadic -> Int) (hl : D.length = n) (hr : ∀ r ∈ D,r.length = n) : (D.map fun r=>r.map g) = tabF (fun i j=>g (entD D i j)) n:=by
 apply List.ext_getElem
 . simp [tabF,hl]
 . intro i h1 h2
   have hi : i < D.length:=by simpa using h1
   have hri:=hr _ (List.getElem_mem hi)
   apply List.ext_getElem
   . simp [tabF,hri]
   . intro j h3 h4
     have hj : j < D[i].length:=by simpa using h3
     simp [tabF,entD,List.getD_eq_getElem?_getD,hi,hj]
theorem entD_mem {D : List (List Dyadic)} {n i j : Nat} (hl : D.length = n) (hr : ∀ r ∈ D,r.length = n) (hi : i < n) (hj : j < n) : ∃ r ∈ D,entD D i j ∈ r:=by
 have h1 : i < D.length:=by omega
 have h2 : j < D[i].length:=by rw [hr _ (List.getElem_mem h1)];exact hj
 refine ⟨D[i],List.getElem_mem h1,?_⟩
 have : entD D i j = D[i][j]:=by simp [entD,List.getD_eq_getElem?_getD,h1,h2]
 rw [this];exact List.getElem_mem h2
theorem det_any (a : Option Addr) (cap n : Nat) (rows : List (List Raw)) (B : Nat) (D : List (List Dyadic)) (X : Dyadic) (w : World) (hn : 1 <= n) (hn4 : n <= 4) (hL : rows.length = n) (hrow : ∀ r ∈ rows,r.length = n) (ha : Tbl w a rows)
 (hfit : ∀ r ∈ rows,∀ c ∈ r,Fit B c) (hB1 : 1 <= B) (hB : B <= 1000000) (hT : Tab w) (hD : (rows.map fun r=>r.map dval) = D) (hX : detD n (entD D) = X) :
 Calls Tryz.prog 74 #[.slice a n cap] w fun e w'=>e = .returned (.tuple #[numV X,.int .i64 0]) /\ Below w.heap.size w w':=by
 obtain ⟨low,hlow⟩ : ∃ low,lowR 0 D = low:=⟨_,rfl⟩
 have hDl : D.length = n:=by rw [<- hD];simp [hL]
 have hDr : ∀ r ∈ D,r.length = n:=by
  intro r hr
  rw [<- hD] at hr
  obtain ⟨x,hx,rfl⟩:=List.mem_map.1 hr
  simpa using hrow x hx
 have hDs : ∀ r ∈ D,∀ d ∈ r,Sm B d:=by
  intro r hr d hd
  rw [<- hD] at hr
  obtain ⟨x,hx,rfl⟩:=List.mem_map.1 hr
  obtain ⟨y,hy,rfl⟩:=List.mem_map.1 hd
  exact (hfit x hx y hy).2
 have hlo:=lowR_le 0 D
 rw [hlow] at hlo
 have hlb : -(B : Int) <= low:=by
  rw [<- hlow]
  exact lowR_ge 0 D _ (by omega) (fun r hr d hd=>(hDs r hr d hd).parts.2.1)
 obtain ⟨f,hf⟩ : ∃ f : Nat -> Nat -> Int,f = fun i j=>sclI low (entD D i j):=⟨_,rfl⟩
 have htab : (D.map fun r=>r.map (sclI low)) = tabF f n:=by rw [hf];exact tab_map D n (sclI low) hDl hDr
 have hK : ∀ a b,a < n -> b < n -> (f a b).natAbs < 2 ^ (4 * B):=by
  intro i j hi hj
  obtain ⟨r,hr,hm⟩:=entD_mem hDl hDr hi hj
  obtain ⟨s1,s2,s3⟩:=(hDs r hr _ hm).parts
  rw [hf]
  show (sclI low (entD D i j)).natAbs < _
  unfold sclI
  rw [Int.natAbs_mul,Int.natAbs_pow,show 4 * B = 2 * B + 2 * B by omega,Nat.pow_add]
  exact Nat.lt_of_lt_of_le (Nat.mul_lt_mul_of_pos_right s1 (Nat.pow_pos (by decide))) (Nat.mul_le_mul_left _ (Nat.pow_le_pow_right (by decide) (by omega)))
 have hent : ∀ i j,i < n -> j < n -> entD D i j = Dyadic.ofIntWithPrec (f i j) (-low):=by
  intro i j hi hj
  obtain ⟨r,hr,hm⟩:=entD_mem hDl hDr hi hj
  rw [hf]
  exact (sclI_back low _ (hlo.2 r hr _ hm)).symm
 have hdet:=det_scl n hn hn4 f (entD D) (-low) hent
 have hex:=exactN n hn hn4 f
 have hzl:=bareF_lt n n 0 f 1 false (4 * B) (by omega) (Nat.one_lt_two_pow (by omega)) hK hex
 obtain ⟨z,hz⟩ : ∃ z,bareF n n 0 f 1 false = z:=⟨_,rfl⟩
 rw [hz] at hzl hdet
 have hzl2 : (nt z.natAbs).length <= 34359738368:=by
  refine len_of_bits hzl ?_
  have : 2 ^ n <= 2 ^ 4:=Nat.pow_le_pow_right (by decide) hn4
  have:=Nat.mul_le_mul_right (4 * B + 1) this
  omega
 obtain ⟨e,he⟩ : ∃ e : Int,low * n = e:=⟨_,rfl⟩
 have heb : -4000000 <= e /\ e <= 4000000:=by
  have hl0:=hlo.1
  have hc : n = 1 \/ n = 2 \/ n = 3 \/ n = 4:=by omega
  rcases hc with rfl | rfl | rfl | rfl<;>omega
 have hdv : dval (sgnB z,nt z.natAbs,e) = X:=by
  rw [<- hX,hdet]
  show Dyadic.ofIntWithPrec (iv (sgnB z) (nt z.natAbs)) (-e) = _
  rw [iv_int,<- he]
  congr 1
  rw [Int.mul_comm,Int.mul_neg]
 obtain ⟨nl,hnl⟩ : ∃ nl,-low = nl:=⟨_,rfl⟩
 have hw1 : IntKind.i64.wrap (-nl) = low:=by rw [IntKind.wrap_i64];have:=hlo.1;omega
 have hw2 : IntKind.i64.wrap (low * (n : Int)) = e:=by rw [he,IntKind.wrap_i64];omega
 have hm0 : mchk rows = 0:=by
  unfold mchk
  rw [if_neg]
  rintro (h | h)
  . omega
  . rw [List.any_eq_true] at h
    obtain ⟨r,hr,h⟩:=h
    have:=hrow r hr
    simp at h;omega
 have hch:=fun W=>fun (h : Tbl W a rows)=>mchk_any a n cap rows W hL (by omega) h
 rw [hm0] at hch
 have hsc:=fun W=>fun (h : Tbl W a rows) (hT : Tab W)=>scaled_any a n cap n rows B low W hL (by omega) (by omega) hrow h hfit (by omega) hT (by rw [hD];exact hlow)
 rw [hD,htab,hnl] at hsc
 have hbr:=fun v W base=>fun (h : OwnM W base n (tabF f n) n v) (h2 : base <= W.heap.size)=>bareiss_any base n (4 * B) f v W hn hn4 h h2 (by omega) hK (by omega)
 rw [hz] at hbr
 have hmk:=fun W=>fun (hT : Tab W)=>make_any (sgnB z) (nt z.natAbs) e X hdv W hzl2 (by omega) hT
 have Hch:=lid hch;have Hsc:=lid hsc;have Hbr:=lid hbr;have Hmk:=lid hmk;have Ha:=lid ha;have HT:=lid hT
 clear hch hsc hbr hmk ha hT hm0 hdv heb he hzl2 hz hzl hex hdet hent hK htab hf hlb hlo hDs hDr hDl hlow hD hX hfit hrow hL hnl
 have Hb : Hid (Below w.heap.size w w):=Below.refl _ _
 go_enter Tryz.func74,Tryz.ntmps74
 go_wp2_with fail
 obtain ⟨R,hR⟩ : ∃ R : World -> Prop,(fun W=>Blk W (w.heap.size) 36 [.bool false,.string ⟨#[]⟩,.int .i64 0] /\ Below w.heap.size w W) = R:=⟨_,rfl⟩
 first | refine wp_world R ?hR ?_ | refine calls_world R ?hR ?_
 case hR=>subst hR;exact ⟨(Blk.newAt w _ _ (b:=w.heap.size) rfl),((Below.refl _ _).alloc (Nat.le_refl _) _)⟩
 subst hR
 rintro W ⟨qr,hbn⟩
 have Hr:=lid qr;clear qr
 obtain ⟨r0,fr0,r1,fr1,r2,fr2⟩:=Hr.out.g3
 replace Hb:=bnx Hb hbn;clear hbn
 have HA : Hid (Tbl W a rows):=Ha.out.below Hb.out
 have HU : Hid (Tab W):=HT.out.below Hb.out
 go_wp2_with fail
 refine (Hch.out _ HA.out).mono ?_
 rintro e w1 ⟨rfl,hbn⟩
 clear r0 fr0 r1 fr1 r2 fr2
 replace Hr:=kB Hr hbn
 replace HA:=kL HA hbn
 replace HU:=kT HU hbn
 obtain ⟨r0,fr0,r1,fr1,r2,fr2⟩:=Hr.out.g3
 replace Hb:=bnx Hb hbn;clear hbn
 go_wp2_with fail
 refine (Hsc.out _ HA.out HU.out).mono ?_
 rintro e' w2 ⟨v,rfl,hO,hb2⟩
 have HO:=lid hO
 have sz1:=hb2.size
 clear hO
 go_wp2_with fail
 refine (Hbr.out v w2 w1.heap.size HO.out sz1).mono ?_
 rintro e' w3 ⟨rfl,hb3⟩
 have hb4:=hb2.trans hb3
 clear hb2 hb3 HO
 clear r0 fr0 r1 fr1 r2 fr2
 replace Hr:=kB Hr hb4
 replace HA:=kL HA hb4
 replace HU:=kT HU hb4
 obtain ⟨r0,fr0,r1,fr1,r2,fr2⟩:=Hr.out.g3
 replace Hb:=lid (bnext Hb.out hb4)
 clear hb4
 go_wp2_with fail
 refine (Hmk.out _ HU.out).mono ?_
 rintro e w4 ⟨rfl,hbn⟩
 clear r0 fr0 r1 fr1 r2 fr2
 replace Hr:=kB Hr hbn
 replace HA:=kL HA hbn
 replace HU:=kT HU hbn
 obtain ⟨r0,fr0,r1,fr1,r2,fr2⟩:=Hr.out.g3
 replace Hb:=bnx Hb hbn;clear hbn
 go_wp2
 clear r0 fr0 r1 fr1 r2 fr2
 refine body_world (fun w9=>Blk w9 (w.heap.size) 36 [.bool (sgnB (dN X)),.string (bs (nt (dN X).natAbs)),.int .i64 (dE X)] /\ Below w.heap.size w w9) ⟨(((Hr.out.set 0 _).set 1 _).set 2 _),(((Hb.out.sc (w.heap.size) 0 (by have:=Hb.out.size;omega) _).sc (w.heap.size) 1 (by have:=Hb.out.size;omega) _).sc (w.heap.size) 2 (by have:=Hb.out.size;omega) _)⟩ ?_
 rintro w9 ⟨qr,hbn⟩
 replace Hr:=lid qr;clear qr
 obtain ⟨r0,fr0,r1,fr1,r2,fr2⟩:=Hr.out.g3
 replace Hb:=lid hbn;clear hbn
 refine bodyPost_ret (v:=.tuple #[numV X,.int .i64 0]) (by simp [results,Tryz.results74,go_sem,r0,r1,r2]) rfl ⟨rfl,Hb.out⟩
def ptD (rows : List (List Raw)) : Nat -> Nat -> Dyadic:=fun a b=>entD (rows.map fun r=>r.map dval) a b
theorem difD_get (o p : List Raw) (k : Nat) (h : k < p.length) (h' : k < o.length) : (difD o p).getD k 0 = dval p[k] - dval o[k]:=by
 unfold difD
 rw [List.getD_eq_getElem?_getD,List.getElem?_zipWith]
 simp [h,h']
theorem ptD_get (rows : List (List Raw)) (a b : Nat) (ha : a < rows.length) (hb : b < rows[a].length) : ptD rows a b = dval rows[a][b]:=by
 simp [ptD,entD,List.getD_eq_getElem?_getD,ha,hb]
theorem size_ent (n : Nat) (rows : List (List Raw)) (hL : rows.length = n + 1) (hrow : ∀ r ∈ rows,r.length = n) (i j : Nat) (hi : i < n) (hj : j < n) :
 entD ((rows.drop 1).map fun p=>difD (rows.getD 0 []) p) i j = ptD rows (i + 1) j - ptD rows 0 j:=by
 have h0 : 0 < rows.length:=by omega
 have h1 : i + 1 < rows.length:=by omega
 have l0:=hrow _ (List.getElem_mem h0)
 have l1:=hrow _ (List.getElem_mem h1)
 rw [ptD_get rows (i + 1) j h1 (by omega),ptD_get rows 0 j h0 (by omega)]
 have e0 : rows.getD 0 [] = rows[0]:=by simp [h0]
 have e1 : ((rows.drop 1).map fun p=>difD (rows.getD 0 []) p).getD i [] = difD rows[0] rows[i + 1]:=by
  rw [e0,List.getD_eq_getElem?_getD,List.getElem?_map,List.getElem?_drop]
  rw [show 1 + i = i + 1 by omega,List.getElem?_eq_getElem h1];rfl
 unfold entD
 rw [e1,difD_get _ _ _ (by omega) (by omega)]
theorem detD_congr (n : Nat) (hn4 : n <= 4) {e f : Nat -> Nat -> Dyadic} (h : ∀ i j,i < n -> j < n -> e i j = f i j) : detD n e = detD n f:=by
 have hc : n = 0 \/ n = 1 \/ n = 2 \/ n = 3 \/ n = 4:=by omega
 rcases hc with rfl | rfl | rfl | rfl | rfl
 . rfl
 . exact h 0 0 (by omega) (by omega)
 . unfold detD;simp only
   rw [h 0 0 (by omega) (by omega),h 0 1 (by omega) (by omega),h 1 0 (by omega) (by omega),h 1 1 (by omega) (by omega)]
 . unfold detD;simp only
   rw [h 0 0 (by omega) (by omega),h 0 1 (by omega) (by omega),h 0 2 (by omega) (by omega),h 1 0 (by omega) (by omega),h 1 1 (by omega) (by omega),h 1 2 (by omega) (by omega),h 2 0 (by omega) (by omega),h 2 1 (by omega) (by omega),h 2 2 (by omega) (by omega)]
 . unfold detD;simp only
   rw [h 0 0 (by omega) (by omega),h 0 1 (by omega) (by omega),h 0 2 (by omega) (by omega),h 0 3 (by omega) (by omega),h 1 0 (by omega) (by omega),h 1 1 (by omega) (by omega),h 1 2 (by omega) (by omega),h 1 3 (by omega) (by omega),h 2 0 (by omega) (by omega),h 2 1 (by omega) (by omega),h 2 2 (by omega) (by omega),h 2 3 (by omega) (by omega),h 3 0 (by omega) (by omega),h 3 1 (by omega) (by omega),h 3 2 (by omega) (by omega),h 3 3 (by omega) (by omega)]
theorem detD_sm {B n : Nat} {e : Nat -> Nat -> Dyadic} (hn : 1 <= n) (hn4 : n <= 4) (h : ∀ i j,i < n -> j < n -> Sm B (e i j)) : Sm (4 * B + 6) (detD n e):=by
 have m2 : ∀ a b c d : Dyadic,Sm B a -> Sm B b -> Sm B c -> Sm B d -> Sm (2 * B + 1) (a * b - c * d):=fun a b c d ha hb hc hd=>(Sm.sub (Sm.mul ha hb) (Sm.mul hc hd)).mono (by omega)
 have m3 : ∀ x y : Dyadic,Sm B x -> Sm (2 * B + 1) y -> Sm (3 * B + 1) (x * y):=fun x y hx hy=>(Sm.mul hx hy).mono (by omega)
 have m4 : ∀ x y z : Dyadic,Sm (3 * B + 1) x -> Sm (3 * B + 1) y -> Sm (3 * B + 1) z -> Sm (3 * B + 3) (x - y + z):=fun x y z hx hy hz=>(Sm.add (Sm.sub hx hy) (hz.mono (by omega))).mono (by omega)
 have m5 : ∀ x y : Dyadic,Sm B x -> Sm (3 * B + 3) y -> Sm (4 * B + 3) (x * y):=fun x y hx hy=>(Sm.mul hx hy).mono (by omega)
 have hc : n = 1 \/ n = 2 \/ n = 3 \/ n = 4:=by omega
 rcases hc with rfl | rfl | rfl | rfl
 . exact (h 0 0 (by omega) (by omega)).mono (by omega)
 . exact (Sm.sub (Sm.mul (h 0 0 (by omega) (by omega)) (h 1 1 (by omega) (by omega))) (Sm.mul (h 0 1 (by omega) (by omega)) (h 1 0 (by omega) (by omega)))).mono (by omega)
 . unfold detD
   refine (m4 _ _ _ (m3 _ _ ?_ (m2 _ _ _ _ ?_ ?_ ?_ ?_)) (m3 _ _ ?_ (m2 _ _ _ _ ?_ ?_ ?_ ?_)) (m3 _ _ ?_ (m2 _ _ _ _ ?_ ?_ ?_ ?_))).mono (by omega)<;>exact h _ _ (by omega) (by omega)
 . unfold detD
   have m6 : ∀ x y z u : Dyadic,Sm (4 * B + 3) x -> Sm (4 * B + 3) y -> Sm (4 * B + 3) z -> Sm (4 * B + 3) u -> Sm (4 * B + 6) (x - y + z - u):=fun x y z u hx hy hz hu=>(Sm.sub (Sm.add (Sm.sub hx hy) (hz.mono (by omega))) (hu.mono (by omega))).mono (by omega)
   refine m6 _ _ _ _ (m5 _ _ ?_ (m4 _ _ _ (m3 _ _ ?_ (m2 _ _ _ _ ?_ ?_ ?_ ?_)) (m3 _ _ ?_ (m2 _ _ _ _ ?_ ?_ ?_ ?_)) (m3 _ _ ?_ (m2 _ _ _ _ ?_ ?_ ?_ ?_)))) (m5 _ _ ?_ (m4 _ _ _ (m3 _ _ ?_ (m2 _ _ _ _ ?_ ?_ ?_ ?_)) (m3 _ _ ?_ (m2 _ _ _ _ ?_ ?_ ?_ ?_)) (m3 _ _ ?_ (m2 _ _ _ _ ?_ ?_ ?_ ?_)))) (m5 _ _ ?_ (m4 _ _ _ (m3 _ _ ?_ (m2 _ _ _ _ ?_ ?_ ?_ ?_)) (m3 _ _ ?_ (m2 _ _ _ _ ?_ ?_ ?_ ?_)) (m3 _ _ ?_ (m2 _ _ _ _ ?_ ?_ ?_ ?_)))) (m5 _ _ ?_ (m4 _ _ _ (m3 _ _ ?_ (m2 _ _ _ _ ?_ ?_ ?_ ?_)) (m3 _ _ ?_ (m2 _ _ _ _ ?_ ?_ ?_ ?_)) (m3 _ _ ?_ (m2 _ _ _ _ ?_ ?_ ?_ ?_))))<;>exact h _ _ (by omega) (by omega)
theorem dsg_zero (X : Dyadic) : dsg X = 0 ↔ X = 0:=by
 constructor
 . intro h
   have h1 : dN X = 0:=by
    unfold dsg sgnI at h
    by_cases h1 : dN X < 0
    . rw [if_pos h1] at h;cases h
    . rw [if_neg h1] at h
      by_cases h2 : dN X = 0
      . exact h2
      . rw [if_neg h2] at h;cases h
   have h2:=owp_parts X
   rw [h1,owp_zero] at h2
   exact h2
 . rintro rfl;rfl
noncomputable def tchk (rows : List (List Raw)) : Int:=if varsI rows = 0 then 1 else if dtD (varsI rows).toNat (ptD rows) = 0 then 5 else 0
theorem size_any (a : Option Addr) (cap n : Nat) (rows : List (List Raw)) (B : Nat) (X : Dyadic) (w : World) (hn : 1 <= n) (hn4 : n <= 4) (hL : rows.length = n + 1) (hrow : ∀ r ∈ rows,r.length = n) (hcap : n + 1 <= cap) (ha : Tbl w a rows)
 (hfit : ∀ r ∈ rows,∀ c ∈ r,Fit B c) (hB : B <= 900000) (hT : Tab w) (hX : dtD n (ptD rows) = X) :
 Calls Tryz.prog 51 #[.slice a (n + 1) cap] w fun e w'=>e = .returned (.tuple #[numV X,.int .i64 0]) /\ Below w.heap.size w w':=by
 obtain ⟨b,o,rfl⟩ : ∃ b o,a = some ⟨b,o,none⟩:=by
  obtain ⟨vals,hvl,hat,_⟩:=ha
  rcases hat with h | ⟨b,o,h,_⟩
  . rw [h] at hvl;simp at hvl;omega
  . exact ⟨b,o,h⟩
 have hv:=varsI_of hL hrow hn (by omega)
 obtain ⟨S,hS⟩ : ∃ S,((rows.drop 1).map fun p=>difD (rows.getD 0 []) p) = S:=⟨_,rfl⟩
 have hSl : S.length = n:=by rw [<- hS];simp [hL]
 have hSr : ∀ r ∈ S,r.length = n:=by
  intro r hr
  rw [<- hS] at hr
  obtain ⟨p,hp,rfl⟩:=List.mem_map.1 hr
  have h0 : 0 < rows.length:=by omega
  have e0 : rows.getD 0 [] = rows[0]:=by simp [h0]
  rw [difD_len (by rw [e0,hrow _ (List.mem_of_mem_drop hp),hrow _ (List.getElem_mem h0)]),hrow _ (List.mem_of_mem_drop hp)]
 have hSs : ∀ r ∈ S,∀ d ∈ r,Sm (B + 1) d:=by
  intro r hr d hd
  rw [<- hS] at hr
  obtain ⟨p,hp,rfl⟩:=List.mem_map.1 hr
  unfold difD at hd
  obtain ⟨i,hi,rfl⟩:=List.mem_iff_getElem.1 hd
  rw [List.getElem_zipWith]
  have h0 : 0 < rows.length:=by omega
  have e0 : rows.getD 0 [] = rows[0]:=by simp [h0]
  refine Sm.sub (hfit p (List.mem_of_mem_drop hp) _ (List.getElem_mem _)).2 (hfit (rows.getD 0 []) ?_ _ (List.getElem_mem _)).2
  rw [e0];exact List.getElem_mem h0
 have hent : detD n (entD S) = X:=by
  rw [<- hX,dtD_det]
  refine detD_congr n hn4 (fun i j hi hj=>?_)
  rw [<- hS]
  exact size_ent n rows hL hrow i j hi hj
 have hvar:=fun W=>fun (h : Tbl W (some ⟨b,o,none⟩) rows)=>vars_any (some ⟨b,o,none⟩) (n + 1) cap rows W hL (by omega) h
 rw [hv] at hvar
 have hrows:=fun W=>fun (h : Tbl W (some ⟨b,o,none⟩) rows) (hT : Tab W)=>rows_tri b o cap n n rows B W hL (by omega) hcap hn hn (by omega) hrow h hfit (by omega) hT
 rw [hS] at hrows
 have hdv : ((S.map fun r=>r.map canon).map fun r=>r.map dval) = S:=by
  rw [List.map_map]
  have : ((fun r : List Raw=>r.map dval) ∘ fun r : List Dyadic=>r.map canon) = id:=by
   funext r
   show (r.map canon).map dval = r
   rw [List.map_map]
   have : (dval ∘ canon) = id:=funext dval_canon
   rw [this];simp
  rw [this];simp
 have hdet:=fun W a' c'=>fun (h : Tbl W a' (S.map fun r=>r.map canon)) (hT : Tab W)=>det_any a' c' n (S.map fun r=>r.map canon) (B + 1) S X W hn hn4 (by simpa using hSl) (by
  intro r hr
  obtain ⟨x,hx,rfl⟩:=List.mem_map.1 hr
  simpa using hSr x hx) h (by
  intro r hr c hc
  obtain ⟨x,hx,rfl⟩:=List.mem_map.1 hr
  obtain ⟨y,hy,rfl⟩:=List.mem_map.1 hc
  exact (hSs x hx y hy).fit (by omega)) (by omega) (by omega) hT hdv hent
 have Hvar:=lid hvar;have Hrows:=lid hrows;have Hdet:=lid hdet;have Ha:=lid ha;have HT:=lid hT
 clear hvar hrows hdet ha hT hdv hent hSs hSr hSl hS hv hX hfit hrow hL
 have hn0 : ¬ (n : Int) = 0:=by omega
 have Hb : Hid (Below w.heap.size w w):=Below.refl _ _
 go_enter Tryz.func51,Tryz.ntmps51
 go_wp2_with fail
 obtain ⟨R,hR⟩ : ∃ R : World -> Prop,(fun W=>Blk W (w.heap.size) 36 [.bool false,.string ⟨#[]⟩,.int .i64 0] /\ Below w.heap.size w W) = R:=⟨_,rfl⟩
 first | refine wp_world R ?hR ?_ | refine calls_world R ?hR ?_
 case hR=>subst hR;exact ⟨(Blk.newAt w _ _ (b:=w.heap.size) rfl),((Below.refl _ _).alloc (Nat.le_refl _) _)⟩
 subst hR
 rintro W ⟨qr,hbn⟩
 have Hr:=lid qr;clear qr
 obtain ⟨r0,fr0,r1,fr1,r2,fr2⟩:=Hr.out.g3
 replace Hb:=bnx Hb hbn;clear hbn
 have HA : Hid (Tbl W (some ⟨b,o,none⟩) rows):=Ha.out.below Hb.out
 have HU : Hid (Tab W):=HT.out.below Hb.out
 go_wp2_with fail
 refine (Hvar.out _ HA.out).mono ?_
 rintro e w1 ⟨rfl,hbn⟩
 clear r0 fr0 r1 fr1 r2 fr2
 replace Hr:=kB Hr hbn
 replace HA:=kL HA hbn
 replace HU:=kT HU hbn
 obtain ⟨r0,fr0,r1,fr1,r2,fr2⟩:=Hr.out.g3
 replace Hb:=bnx Hb hbn;clear hbn
 go_wp2_with fail
 refine (Hrows.out _ HA.out HU.out).mono ?_
 rintro e w2 ⟨a',c',rfl,hcc,htb,hbn⟩
 clear r0 fr0 r1 fr1 r2 fr2
 replace Hr:=kB Hr hbn
 replace HA:=kL HA hbn
 replace HU:=kT HU hbn
 obtain ⟨r0,fr0,r1,fr1,r2,fr2⟩:=Hr.out.g3
 replace Hb:=bnx Hb hbn;clear hbn
 have HT2:=lid htb
 clear htb
 go_wp2_with fail
 refine (Hdet.out _ a' c' HT2.out HU.out).mono ?_
 rintro e w3 ⟨rfl,hbn⟩
 clear r0 fr0 r1 fr1 r2 fr2
 replace Hr:=kB Hr hbn
 replace HA:=kL HA hbn
 replace HU:=kT HU hbn
 obtain ⟨r0,fr0,r1,fr1,r2,fr2⟩:=Hr.out.g3
 replace Hb:=bnx Hb hbn;clear hbn
 go_wp2
 clear r0 fr0 r1 fr1 r2 fr2
 refine body_world (fun w9=>Blk w9 (w.heap.size) 36 [.bool (sgnB (dN X)),.string (bs (nt (dN X).natAbs)),.int .i64 (dE X)] /\ Below w.heap.size w w9) ⟨(((Hr.out.set 0 _).set 1 _).set 2 _),(((Hb.out.sc (w.heap.size) 0 (by have:=Hb.out.size;omega) _).sc (w.heap.size) 1 (by have:=Hb.out.size;omega) _).sc (w.heap.size) 2 (by have:=Hb.out.size;omega) _)⟩ ?_
 rintro w9 ⟨qr,hbn⟩
 replace Hr:=lid qr;clear qr
 obtain ⟨r0,fr0,r1,fr1,r2,fr2⟩:=Hr.out.g3
 replace Hb:=lid hbn;clear hbn
 refine bodyPost_ret (v:=.tuple #[numV X,.int .i64 0]) (by simp [results,Tryz.results51,go_sem,r0,r1,r2]) rfl ⟨rfl,Hb.out⟩
theorem tcheck_any (a : Option Addr) (L cap : Nat) (rows : List (List Raw)) (B : Nat) (w : World) (hL : rows.length = L) (hL5 : L <= 5) (hcap : L <= cap) (ha : Tbl w a rows)
 (hfit : ∀ r ∈ rows,∀ c ∈ r,Fit B c) (hB : B <= 900000) (hT : Tab w) :
 Calls Tryz.prog 29 #[.slice a L cap] w fun e w'=>e = .returned (.int .i64 (tchk rows)) /\ Below w.heap.size w w':=by
 obtain ⟨R,hR⟩ : ∃ R,tchk rows = R:=⟨_,rfl⟩
 rw [hR]
 unfold tchk at hR
 by_cases hv : varsI rows = 0
 . rw [if_pos hv] at hR
   subst hR
   have hvar:=fun W=>fun (h : Tbl W a rows)=>vars_any a L cap rows W hL (by omega) h
   rw [hv] at hvar
   have Hvar:=lid hvar;have Ha:=lid ha
   have hsz : ∀ W,Below w.heap.size w W -> Calls Tryz.prog 51 #[.slice a L cap] W fun e w'=>e = .returned (.tuple #[.agg #[.bool false,.string ⟨#[]⟩,.int .i64 0],.int .i64 1]) /\ Below W.heap.size W w':=by
    intro w0 hw0
    have Ha':=lid (Ha.out.below hw0)
    clear ha hfit hL hT hv hvar Ha hw0 w
    obtain ⟨w,hww⟩ : ∃ w,w = w0:=⟨_,rfl⟩
    subst hww
    have Hb : Hid (Below w.heap.size w w):=Below.refl _ _
    go_enter Tryz.func51,Tryz.ntmps51
    go_wp2_with fail
    obtain ⟨R,hR⟩ : ∃ R : World -> Prop,(fun W=>Blk W (w.heap.size) 36 [.bool false,.string ⟨#[]⟩,.int .i64 0] /\ Below w.heap.size w W) = R:=⟨_,rfl⟩
    first | refine wp_world R ?hR ?_ | refine calls_world R ?hR ?_
    case hR=>subst hR;exact ⟨(Blk.newAt w _ _ (b:=w.heap.size) rfl),((Below.refl _ _).alloc (Nat.le_refl _) _)⟩
    subst hR
    rintro W ⟨qr,hbn⟩
    have Hr:=lid qr;clear qr
    obtain ⟨r0,fr0,r1,fr1,r2,fr2⟩:=Hr.out.g3
    replace Hb:=bnx Hb hbn;clear hbn
    go_wp2_with fail
    refine (Hvar.out _ (Ha'.out.below Hb.out)).mono ?_
    rintro e w1 ⟨rfl,hbn⟩
    clear r0 fr0 r1 fr1 r2 fr2
    replace Hr:=kB Hr hbn
    obtain ⟨r0,fr0,r1,fr1,r2,fr2⟩:=Hr.out.g3
    replace Hb:=bnx Hb hbn;clear hbn
    go_wp2
    clear r0 fr0 r1 fr1 r2 fr2
    refine body_world (fun w9=>Blk w9 (w.heap.size) 36 [.bool false,.string ⟨#[]⟩,.int .i64 0] /\ Below w.heap.size w w9) ⟨(((Hr.out.set 0 _).set 1 _).set 2 _),(((Hb.out.sc (w.heap.size) 0 (by have:=Hb.out.size;omega) _).sc (w.heap.size) 1 (by have:=Hb.out.size;omega) _).sc (w.heap.size) 2 (by have:=Hb.out.size;omega) _)⟩ ?_
    rintro w9 ⟨qr,hbn⟩
    replace Hr:=lid qr;clear qr
    obtain ⟨r0,fr0,r1,fr1,r2,fr2⟩:=Hr.out.g3
    replace Hb:=lid hbn;clear hbn
    refine bodyPost_ret (v:=.tuple #[.agg #[.bool false,.string ⟨#[]⟩,.int .i64 0],.int .i64 1]) (by simp [results,Tryz.results51,go_sem,r0,r1,r2]) rfl ⟨rfl,Hb.out⟩
   have Hsz:=lid hsz
   clear hsz hvar ha hfit hL hT hv
   have Hb : Hid (Below w.heap.size w w):=Below.refl _ _
   go_enter Tryz.func29,Tryz.ntmps29
   go_wp2_with fail
   refine (Hsz.out _ Hb.out).mono ?_
   rintro e w1 ⟨rfl,hbn⟩
   replace Hb:=bnx Hb hbn;clear hbn
   have hsz:=Hb.out.size
   obtain ⟨W2,hW_W2⟩ : ∃ W2,(w1.alloc (.cells #[.bool false,.string ⟨#[]⟩,.int .i64 0] 36)) = W2:=⟨_,rfl⟩
   have hbn : Below w1.heap.size w1 W2:=by rw [<- hW_W2];exact ((Below.refl _ _).alloc (Nat.le_refl _) _)
   have Hd : Hid (Blk W2 (w1.heap.size) 36 [.bool false,.string ⟨#[]⟩,.int .i64 0]):=by rw [<- hW_W2];exact Blk.newAt _ _ _ (by simp)
   obtain ⟨d0,fd0,d1,fd1,d2,fd2⟩:=Hd.out.g3
   replace Hb:=bnx Hb hbn;clear hbn
   go_wp2
   refine bodyPost_ret (results_tmp rfl _ _ _) rfl ⟨rfl,?_⟩
   exact ((Hb.out.setCell (by dsimp only;omega) _).setCell (by dsimp only;omega) _).setCell (by dsimp only;omega) _
 . obtain ⟨n,hn⟩ : ∃ n : Nat,varsI rows = n:=⟨(varsI rows).toNat,by have:=varsI_ok rfl hv;omega⟩
   rw [if_neg hv,hn,Int.toNat_natCast] at hR
   obtain ⟨c1,c2,c3,c4⟩:=varsI_ok hn (by omega)
   obtain rfl : L = n + 1:=by omega
   obtain ⟨X,hX⟩ : ∃ X,dtD n (ptD rows) = X:=⟨_,rfl⟩
   rw [hX] at hR
   have hsz:=fun W=>fun (h : Tbl W a rows) (hT : Tab W)=>size_any a cap n rows B X W (by omega) (by omega) (by omega) (fun r hr=>by have:=c4 r hr;omega) hcap h hfit hB hT hX
   have hXm : Sm (4 * (B + 1) + 6) X:=by
    rw [<- hX,dtD_det]
    refine detD_sm (by omega) (by omega) (fun i j hi hj=>?_)
    have h0 : 0 < rows.length:=by omega
    have h1 : i + 1 < rows.length:=by omega
    have l0:=c4 _ (List.getElem_mem h0)
    have l1:=c4 _ (List.getElem_mem h1)
    rw [ptD_get rows (i + 1) j h1 (by omega),ptD_get rows 0 j h0 (by omega)]
    exact Sm.sub (hfit _ (List.getElem_mem h1) _ (List.getElem_mem _)).2 (hfit _ (List.getElem_mem h0) _ (List.getElem_mem _)).2
   have hXs : ∀ W,Calls Tryz.prog 52 #[.agg #[.bool (sgnB (dN X)),.string (bs (nt (dN X).natAbs)),.int .i64 (dE X)]] W fun ex w'=>ex = .returned (.int .i64 (dsg X)) /\ Below W.heap.size W w':=fun W=>dsign_any _ _ _ (dsg X) (by show dsg (dval (canon X)) = _;rw [dval_canon]) W (hXm.ok (by omega))
   obtain ⟨g,hg⟩ : ∃ g,dsg X = g:=⟨_,rfl⟩
   have hgz : R = if g = 0 then 5 else 0:=by
    rw [<- hR,<- hg]
    by_cases h : X = 0
    . rw [if_pos h,if_pos ((dsg_zero X).2 h)]
    . rw [if_neg h,if_neg (fun h2=>h ((dsg_zero X).1 h2))]
   rw [hg] at hXs
   have Hsz:=lid hsz;have Hsg:=lid hXs;have Ha:=lid ha;have HT:=lid hT;have Hgz:=lid hgz
   clear hsz hXs ha hT hgz hg hX hR hfit c4 hL
   have Hb : Hid (Below w.heap.size w w):=Below.refl _ _
   go_enter Tryz.func29,Tryz.ntmps29
   go_wp2_with fail
   refine (Hsz.out _ (Ha.out.below Hb.out) (HT.out.below Hb.out)).mono ?_
   rintro e w1 ⟨rfl,hbn⟩
   replace Hb:=bnx Hb hbn;clear hbn
   obtain ⟨W2,hW_W2⟩ : ∃ W2,(w1.alloc (.cells #[.bool (sgnB (dN X)),.string (bs (nt (dN X).natAbs)),.int .i64 (dE X)] 36)) = W2:=⟨_,rfl⟩
   have hbn : Below w1.heap.size w1 W2:=by rw [<- hW_W2];exact ((Below.refl _ _).alloc (Nat.le_refl _) _)
   have Hd : Hid (Blk W2 (w1.heap.size) 36 [.bool (sgnB (dN X)),.string (bs (nt (dN X).natAbs)),.int .i64 (dE X)]):=by rw [<- hW_W2];exact Blk.newAt _ _ _ (by simp)
   obtain ⟨d0,d1,d2⟩:=Hd.out.c3
   replace Hb:=bnx Hb hbn;clear hbn
   go_wp2_with fail
   refine (Hsg.out _).mono ?_
   rintro e w3 ⟨rfl,hbn⟩
   clear d0 d1 d2
   replace Hd:=kB Hd hbn
   obtain ⟨d0,d1,d2⟩:=Hd.out.c3
   replace Hb:=bnx Hb hbn;clear hbn
   by_cases hg0 : g = 0
   . have hr:=Hgz.out
     rw [if_pos hg0] at hr
     subst hr hg0
     go_wp2
     refine bodyPost_ret (results_tmp rfl _ _ _) rfl ⟨rfl,Hb.out⟩
   . have hr:=Hgz.out
     rw [if_neg hg0] at hr
     subst hr
     go_wp2
     refine bodyPost_ret (results_tmp rfl _ _ _) rfl ⟨rfl,Hb.out⟩
end Go.Proofs.YtidjljldhdckiaaGreatDoor
namespace Go.Proofs.YtidjljldhdckiaaGreatDoor
open Go.RowKit
def halfRows (rows : List (List Raw)) (i j v : Nat) : List (List Raw):=(rows.set v (midR (rows.getD i []) (rows.getD j []))).map formL
theorem formL_val (r : List Raw) : (formL r).map dval = r.map dval:=by
 unfold formL
 rw [List.map_map]
 refine List.map_congr_left (fun x _=>?_)
 exact dval_canon _
theorem dtD_congr (n : Nat) (hn4 : n <= 4) {p q : Nat -> Nat -> Dyadic} (h : ∀ a b,a <= n -> b < n -> p a b = q a b) : dtD n p = dtD n q:=by
 rw [dtD_det,dtD_det]
 exact detD_congr n hn4 (fun i j hi hj=>by rw [h (i + 1) j (by omega) hj,h 0 j (by omega) hj])
theorem half_facts (V i j v B : Nat) (rows : List (List Raw)) (hL : rows.length = V + 1) (hrow : ∀ r ∈ rows,r.length = V) (hij : i < j) (hj : j <= V) (hfit : ∀ r ∈ rows,∀ c ∈ r,Fit B c) (hB : B <= 10000000) :
 (halfRows rows i j v).length = V + 1 /\ (∀ r ∈ halfRows rows i j v,r.length = V) /\ (∀ r ∈ halfRows rows i j v,∀ c ∈ r,Fit (B + 3) c) /\
  ((halfRows rows i j v).map fun r=>r.map dval) = (rows.map fun r=>r.map dval).set v (midD (rows.getD i []) (rows.getD j [])) /\
  ∀ k,k < V -> (midD (rows.getD i []) (rows.getD j [])).getD k 0 = (((rows.map fun r=>r.map dval).getD i []).getD k 0 + ((rows.map fun r=>r.map dval).getD j []).getD k 0) * hp 1:=by
 have hi1 : i < rows.length:=by omega
 have hj1 : j < rows.length:=by omega
 have ei : rows.getD i [] = rows[i]:=by simp [List.getD_eq_getElem?_getD,hi1]
 have ej : rows.getD j [] = rows[j]:=by simp [List.getD_eq_getElem?_getD,hj1]
 have li:=hrow _ (List.getElem_mem hi1)
 have lj:=hrow _ (List.getElem_mem hj1)
 rw [show halfRows rows i j v = (rows.set v (midR rows[i] rows[j])).map formL by unfold halfRows;rw [ei,ej],ei,ej]
 have hml : (midR rows[i] rows[j]).length = V:=by rw [midR_len (by omega),li]
 refine ⟨by simp [hL],fun r hr=>?_,fun r hr c hc=>?_,?_,fun k hk=>?_⟩
 . obtain ⟨x,hx,rfl⟩:=List.mem_map.1 hr
   rw [formL_len]
   rcases List.mem_or_eq_of_mem_set hx with h | h
   . exact hrow x h
   . rw [h];exact hml
 . obtain ⟨x,hx,rfl⟩:=List.mem_map.1 hr
   unfold formL at hc
   obtain ⟨y,hy,rfl⟩:=List.mem_map.1 hc
   have hys : Sm (B + 3) (dval y):=by
    rcases List.mem_or_eq_of_mem_set hx with h | h
    . exact (hfit x h y hy).2.mono (by omega)
    . rw [h] at hy
      exact (midR_fit (hfit _ (List.getElem_mem hi1)) (hfit _ (List.getElem_mem hj1)) hB y hy).2
   exact hys.fit (by omega)
 . rw [List.map_map]
   have e : ((fun r : List Raw=>r.map dval) ∘ formL) = fun r=>r.map dval:=funext formL_val
   rw [e,List.map_set]
   congr 1
   unfold midR
   rw [List.map_map]
   have : (dval ∘ canon) = id:=funext dval_canon
   rw [this];simp
 . have h1 : ((rows.map fun r=>r.map dval).getD i []).getD k 0 = dval (rows[i][k]'(by omega)):=by simp [List.getD_eq_getElem?_getD,hi1,show k < rows[i].length by omega]
   have h2 : ((rows.map fun r=>r.map dval).getD j []).getD k 0 = dval (rows[j][k]'(by omega)):=by simp [List.getD_eq_getElem?_getD,hj1,show k < rows[j].length by omega]
   rw [h1,h2]
   unfold midD
   rw [List.getD_eq_getElem?_getD,List.getElem?_zipWith,List.getElem?_eq_getElem (by omega),List.getElem?_eq_getElem (by omega)]
   rfl
theorem half_pt (V i j v B : Nat) (rows : List (List Raw)) (hL : rows.length = V + 1) (hrow : ∀ r ∈ rows,r.length = V) (hij : i < j) (hj : j <= V) (hv : v <= V) (hfit : ∀ r ∈ rows,∀ c ∈ r,Fit B c) (hB : B <= 10000000) (a b : Nat) (ha : a <= V) (hb : b < V) :
 ptD (halfRows rows i j v) a b = midP (ptD rows) (hp 1) i j v a b:=by
 obtain ⟨q1,q2,_,q4,q5⟩:=half_facts V i j v B rows hL hrow hij hj hfit hB
 unfold ptD entD midP
 rw [q4]
 have hlen : (rows.map fun r=>r.map dval).length = V + 1:=by simp [hL]
 by_cases e : a = v
 . subst e
   rw [if_pos rfl]
   have : ((rows.map fun r=>r.map dval).set a (midD (rows.getD i []) (rows.getD j []))).getD a [] = midD (rows.getD i []) (rows.getD j []):=by
    rw [List.getD_eq_getElem?_getD,List.getElem?_set_self (by omega)];rfl
   rw [this]
   exact q5 b hb
 . rw [if_neg e]
   have : ((rows.map fun r=>r.map dval).set v (midD (rows.getD i []) (rows.getD j []))).getD a [] = (rows.map fun r=>r.map dval).getD a []:=by
    rw [List.getD_eq_getElem?_getD,List.getElem?_set_ne (fun h=>e h.symm),<- List.getD_eq_getElem?_getD]
   rw [this]
theorem half_dt (V i j v B : Nat) (rows : List (List Raw)) (hV1 : 1 <= V) (hV4 : V <= 4) (hL : rows.length = V + 1) (hrow : ∀ r ∈ rows,r.length = V) (hij : i < j) (hj : j <= V) (hv : v = i \/ v = j) (hfit : ∀ r ∈ rows,∀ c ∈ r,Fit B c) (hB : B <= 10000000) :
 dtD V (ptD (halfRows rows i j v)) = dtD V (ptD rows) * hp 1:=by
 rw [<- half_room V hV1 hV4 (ptD rows) (hp 1) hp_two i j v hij hj hv]
 exact dtD_congr V hV4 (fun a b ha hb=>half_pt V i j v B rows hL hrow hij hj (by omega) hfit hB a b ha hb)
theorem half_nz {x : Dyadic} (h : x * hp 1 = 0) : x = 0:=by
 have h2 : x * hp 1 + x * hp 1 = x:=by
  have h3:=hp_two
  have : x * hp 1 + x * hp 1 = x * (hp 1 + hp 1):=by grind
  rw [this,h3];grind
 rw [h] at h2
 grind
theorem half_chk (V i j v B : Nat) (rows : List (List Raw)) (hV1 : 1 <= V) (hV4 : V <= 4) (hL : rows.length = V + 1) (hrow : ∀ r ∈ rows,r.length = V) (hij : i < j) (hj : j <= V) (hv : v = i \/ v = j) (hfit : ∀ r ∈ rows,∀ c ∈ r,Fit B c) (hB : B <= 10000000) (h0 : tchk rows = 0) :
 tchk (halfRows rows i j v) = 0:=by
 obtain ⟨q1,q2,_,_,_⟩:=half_facts V i j v B rows hL hrow hij hj hfit hB
 have hv1:=varsI_of hL hrow hV1 (by omega)
 have hv2:=varsI_of q1 q2 hV1 (by omega)
 unfold tchk at h0 ⊢
 rw [hv1,if_neg (by omega),Int.toNat_natCast] at h0
 rw [hv2,if_neg (by omega),Int.toNat_natCast]
 have hne : dtD V (ptD rows) ≠ 0:=by
  intro h;rw [if_pos h] at h0;cases h0
 rw [half_dt V i j v B rows hV1 hV4 hL hrow hij hj hv hfit hB,if_neg (fun h=>hne (half_nz h))]
theorem sqP_congr (n : Nat) {p q : Nat -> Nat -> Dyadic} (h : ∀ a b,a <= n -> b < n -> p a b = q a b) (a b : Nat) (ha : a <= n) (hb : b <= n) : sqP n p a b = sqP n q a b:=sqF_congr n (fun k hk=>h a k ha hk) (fun k hk=>h b k hb hk)
theorem Kear.congr {n : Nat} {m : Dyadic} {c : Nat} {p q : Nat -> Nat -> Dyadic} (hk : Kear n m c p) (h : ∀ a b,a <= n -> b < n -> p a b = q a b) : Kear n m c q:=by
 obtain ⟨h1,old,h2,h3,h4⟩:=hk
 refine ⟨fun a b ha hb=>?_,old,h2,h3,fun a b ha hb hab hn=>?_⟩
 . rw [<- sqP_congr n h a b ha hb];exact h1 a b ha hb
 . rw [<- sqP_congr n h a b ha hb];exact h4 a b ha hb hab hn
end Go.Proofs.YtidjljldhdckiaaGreatDoor
