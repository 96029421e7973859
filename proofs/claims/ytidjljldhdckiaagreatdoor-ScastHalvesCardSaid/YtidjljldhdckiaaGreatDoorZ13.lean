/- Package simp: rows,as an iterator. -/
import Derived.Test.YtidjljldhdckiaaGreatDoorZ10
import Derived.Test.YtidjljldhdckiaaGreatDoorZ5
import Derived.Shelf.Abstract
import Derived.Shelf.RegionOpen
import Derived.WalkKit
import Derived.OwnWalkIn
import Derived.TacticsInMore
import Derived.LoopNIn
import Derived.LoopIn
set_option maxRecDepth 100000
set_option maxHeartbeats 16000000
namespace Go.Proofs.YtidjljldhdckiaaGreatDoor
open Go.RowKit Go.Shelf
def rowsL : Nat -> Nat -> List (List Nat)
 | 0,_=>[]
 | 1,s=>[[s]]
 | n + 2,s=>(List.range (s + 1)).flatMap fun i=>(rowsL (n + 1) i).map ((s - i) :: ·)
abbrev ex (x : List Nat) : ByteArray:=bs (x.map UInt8.ofNat)
theorem rows_any (n s : Int) (w : World) :
 Calls Tryz.prog 47 #[.int .i64 n,.int .i64 s] w fun e w'=>e = .returned (.func (.func 66) #[] #[.pointer (some ⟨w.heap.size,0,none⟩),.pointer (some ⟨w.heap.size + 1,0,none⟩)]) /\
  Blk w' w.heap.size 3 [.int .i64 n] /\ Blk w' (w.heap.size + 1) 3 [.int .i64 s] /\ Below w.heap.size w w':=by
 go_enter Tryz.func47,Tryz.ntmps47
 go_wp2
 go_ret
 exact ⟨rfl,(Blk.new w 3 [.int .i64 n]).alloc _,Blk.newAt _ 3 [.int .i64 s] (by simp),((Below.refl _ _).alloc (Nat.le_refl _) _).alloc (by simp) _⟩
attribute [local go_sem] Oper.semAt_some
theorem Steps.later {J : (Nat -> Prop) -> World -> Prop} {Y : Nat -> Prop} {A B C : World} (h : Steps J Y B C) (hc : Chg Y A B) : Steps J Y A C:=by
 obtain ⟨Z,hj,hc2,hz⟩:=h
 refine ⟨Z,hj,hc.trans hc2 (fun b h=>.inl h),fun b hb=>?_⟩
 rcases hz b hb with h1 | h1
 . exact .inl h1
 . exact .inr (Nat.le_trans hc.size h1)
def okRows (bn bs' n s : Nat) (Y : Nat -> Prop) (W : World) : Prop:=Blk W bn 3 [.int .i64 (n : Int)] /\ Blk W bs' 3 [.int .i64 (s : Int)] /\ ¬ Y bn /\ ¬ Y bs'
theorem rows_one (bn b2 s : Nat) (hs : s <= 255) : Gives Tryz.prog 66 #[.pointer (some ⟨bn,0,none⟩),.pointer (some ⟨b2,0,none⟩)] (fun x=>#[.string (ex x)]) (okRows bn b2 1 s) (rowsL 1 s):=by
 intro l J hJ hL hY m Y W h0 ⟨q1,q2,y1,y2⟩
 have c1 : W.cell? ⟨bn,0,none⟩ = some (.int .i64 1):=q1.cell 0
 have c2 : W.cell? ⟨b2,0,none⟩ = some (.int .i64 s):=q2.cell 0
 have l1:=q1.lt
 have l2:=q2.lt
 have hcv : IntKind.u8.wrap (s : Int) = s:=by rw [IntKind.wrap_u8];omega
 obtain ⟨W2,hW2⟩ : ∃ W2,(W.alloc (.cells #[.func (.yield l) #[] #[]] 119)).alloc (.cells #[.int .u8 (s : Int)] 5) = W2:=⟨_,rfl⟩
 obtain ⟨x,hx⟩ : ∃ x,ex [s] = x:=⟨_,rfl⟩
 have hb2 : Below W.heap.size W W2:=by rw [<- hW2];exact ((Below.refl _ _).alloc (Nat.le_refl _) _).alloc (by simp) _
 have hcv2 : (convert 67 9 (.slice (some ⟨W.heap.size + 1,0,none⟩) 1 1)).run Tryz.prog W2 = .ok (.string x) W2:=by
  have hB : Blk W2 (W.heap.size + 1) 5 (ubs 1 (fun _=>s)):=by rw [<- hW2];exact Blk.newAt _ _ _ (by simp)
  rw [<- hx];exact to_string hB 1
 obtain ⟨fn,tmps,assign,body,hy,hR⟩:=hY (m - 1) [] [s] Y W2 ((hJ []).below h0 hb2) (by simp [rowsL])
 dsimp only at hy
 rw [hx] at hy
 refine callsIn_of_wp Tryz.func66 rfl trivial ?_ rfl
 simp only [Tryz.ntmps66,List.size_toArray,List.length_cons,List.length_nil,Nat.reduceAdd,Nat.reduceSub,Array.replicate_succ,Array.replicate_zero,List.push_toArray,List.append_toArray,List.nil_append,List.cons_append]
 gi_wp2
 refine ⟨fun h=>(by cases h),?_⟩
 refine hR.mono ?_
 rintro e W3 ⟨rfl,hst⟩
 gi_wp2
 refine bodyPost_ret (results_none rfl _ _ _) rfl ⟨⟨_,rfl⟩,?_⟩
 exact hst.later (Chg.of_below hb2)
end Go.Proofs.YtidjljldhdckiaaGreatDoor
namespace Go.Proofs.YtidjljldhdckiaaGreatDoor
open Go.RowKit Go.Shelf
attribute [local go_sem] Oper.semAt_some
def rowsTo (n s k : Nat) : List (List Nat):=(List.range k).flatMap fun i=>(rowsL n i).map ((s - i) :: ·)
theorem rowsTo_succ (n s k : Nat) : rowsTo n s (k + 1) = rowsTo n s k ++ (rowsL n k).map ((s - k) :: ·):=by
 unfold rowsTo;rw [List.range_succ,List.flatMap_append];simp
theorem rowsTo_all (n s : Nat) : rowsTo (n + 1) s (s + 1) = rowsL (n + 2) s:=rfl
theorem rowsTo_pre (n s k : Nat) (hk : k <= s + 1) : rowsTo n s k <+: rowsTo n s (s + 1):=by
 obtain ⟨j,hj⟩ : ∃ j,s + 1 = k + j:=⟨s + 1 - k,by omega⟩
 rw [hj]
 clear hj hk
 induction j with
 | zero=>exact List.prefix_refl _
 | succ j ih=>rw [<- Nat.add_assoc,rowsTo_succ];exact ih.trans (List.prefix_append _ _)
theorem rowsTo_round (n s k : Nat) (hk : k <= s) (pre : List (List Nat)) (x : List Nat) (h : (pre ++ [x]) <+: rowsL n k) :
 (rowsTo n s k ++ pre.map ((s - k) :: ·)) ++ [(s - k) :: x] <+: rowsTo n s (s + 1):=by
 refine List.IsPrefix.trans ?_ (rowsTo_pre n s (k + 1) (by omega))
 rw [rowsTo_succ,List.append_assoc,List.prefix_append_right_inj]
 have:=h.map ((s - k) :: ·)
 simpa using this
def rowsI (J : List (List Nat) -> (Nat -> Prop) -> World -> Prop) (l t3 b4 n s k : Nat) (pre : List (List Nat)) (Z : Nat -> Prop) (W : World) : Prop:=
 ∃ Zj : Nat -> Prop,Z = (fun b=>Zj b \/ b = t3 \/ b = b4) /\ J (rowsTo n s k ++ pre.map ((s - k) :: ·)) Zj W /\ Blk W t3 119 [.func (.yield l) #[] #[]] /\ Blk W b4 3 [.int .i64 ((s - k : Nat) : Int)] /\ ¬ Zj t3 /\ ¬ Zj b4
theorem rowsI_minds {J : List (List Nat) -> (Nat -> Prop) -> World -> Prop} (hJ : ∀ pre,Minds (J pre)) (l t3 b4 n s k : Nat) (pre : List (List Nat)) : Minds (rowsI J l t3 b4 n s k pre):=by
 rintro Z W W' ⟨Zj,rfl,hj,q3,q4,n3,n4⟩ hc
 exact ⟨Zj,rfl,hJ _ Zj W W' hj (hc.mono (fun b _ h h2=>h (.inl h2))),hc.blk q3 (fun h=>h (.inr (.inl rfl))),hc.blk q4 (fun h=>h (.inr (.inr rfl))),n3,n4⟩
theorem rowsI_lies {J : List (List Nat) -> (Nat -> Prop) -> World -> Prop} (hL : ∀ pre,Lies (J pre)) (l t3 b4 n s k : Nat) (pre : List (List Nat)) : Lies (rowsI J l t3 b4 n s k pre):=by
 rintro Z W ⟨Zj,rfl,hj,q3,q4,n3,n4⟩ b (h | rfl | rfl)
 . exact hL _ Zj W hj b h
 . exact q3.lt
 . exact q4.lt
def rowsMu (a : Act) (wr : World) : Nat:=match (a.tmps.getD 4 undef : Value) with
 | Value.pointer (some p)=>(match (wr.cell? p : Option Value) with
   | some (Value.int _ v)=>(v + 1).toNat
   | _=>0)
 | _=>0
theorem ex_append (a : Nat) (x : List Nat) : ex (a :: x) = ex [a] ++ ex x:=by
 unfold ex bs
 apply ByteArray.ext
 simp
theorem rowsL_length (n s : Nat) (x : List Nat) (h : x ∈ rowsL n s) : x.length = n:=by
 induction n using Nat.strongRecOn generalizing s x with
 | _ n ih =>
   match n,h with
   | 0,h=>cases h
   | 1,h=>simp [rowsL] at h;subst h;rfl
   | n + 2,h =>
     simp only [rowsL,List.mem_flatMap,List.mem_map] at h
     obtain ⟨i,_,y,hy,rfl⟩:=h
     simp [ih (n + 1) (by omega) i y hy]
def mark (D : Nat) : Deferred:={ target:=.collected D,args:=#[] }
def rowsLp (J : List (List Nat) -> (Nat -> Prop) -> World -> Prop) (l bn b2 n s : Nat) (N : Int) (W : World) (Y : Nat -> Prop) (a : Act) (wr : World) : Prop:=
 ∃ (k : Nat) (Ds : List Nat) (b4 : Nat) (Z : Nat -> Prop) (u5 u15 u16 u17 u18 u19 u20 u21 u22 u23 u24 u25 u26 u27 u28 u29 u30 u31 u32 u33 u34 u35 : Value),a = { tmps:=#[.func (.yield l) #[] #[],.pointer (some ⟨bn,0,none⟩),.pointer (some ⟨b2,0,none⟩),.pointer (some ⟨W.heap.size,0,none⟩),.pointer (some ⟨b4,0,none⟩),u5,.int .i64 N,.bool false,undef,undef,undef,undef,undef,undef,.int .i64 (s : Int),u15,u16,u17,u18,u19,u20,u21,u22,u23,u24,u25,u26,u27,u28,u29,u30,u31,u32,u33,u34,u35],defers:=Ds.map mark } /\
  k <= s + 1 /\ J (rowsTo (n + 1) s k) Z wr /\ Blk wr W.heap.size 119 [.func (.yield l) #[] #[]] /\ Blk wr b4 3 [.int .i64 ((s : Int) - k)] /\ ¬ Z W.heap.size /\ ¬ Z b4 /\ W.heap.size < b4 /\ Ds.Nodup /\
  (∀ D ∈ Ds,wr.heap[D]? = some (.deferred (some [])) /\ ¬ Z D /\ W.heap.size <= D) /\ Chg Y W wr /\ (∀ b,Z b -> Y b \/ W.heap.size <= b)
theorem rows_step (n : Nat) (hn : n + 2 <= 255) (ih : ∀ bn b2 i,i <= 255 -> Gives Tryz.prog 66 #[.pointer (some ⟨bn,0,none⟩),.pointer (some ⟨b2,0,none⟩)] (fun x=>#[.string (ex x)]) (okRows bn b2 (n + 1) i) (rowsL (n + 1) i))
 (bn b2 s : Nat) (hs : s <= 255) : Gives Tryz.prog 66 #[.pointer (some ⟨bn,0,none⟩),.pointer (some ⟨b2,0,none⟩)] (fun x=>#[.string (ex x)]) (okRows bn b2 (n + 2) s) (rowsL (n + 2) s):=by
 intro l J hJ hL hY m Y W h0 ⟨q1,q2,y1,y2⟩
 rw [<- rowsTo_all] at hY ⊢
 have c1 : W.cell? ⟨bn,0,none⟩ = some (.int .i64 ((n + 2 : Nat) : Int)):=q1.cell 0
 have c2 : W.cell? ⟨b2,0,none⟩ = some (.int .i64 s):=q2.cell 0
 have l1:=q1.lt
 have l2:=q2.lt
 generalize hN : ((n + 2 : Nat) : Int) = N at *
 have hN1 : ¬ N = 1:=by omega
 have hN2 : IntKind.i64.wrap (N - 1) = ((n + 1 : Nat) : Int):=by rw [IntKind.wrap_i64];omega
 generalize hM : ((n + 1 : Nat) : Int) = M at hN2
 refine callsIn_of_wp_marks Tryz.func66 rfl trivial ?_ rfl
 simp only [Tryz.ntmps66,List.size_toArray,List.length_cons,List.length_nil,Nat.reduceAdd,Nat.reduceSub,Array.replicate_succ,Array.replicate_zero,List.push_toArray,List.append_toArray,List.nil_append,List.cons_append]
 gi_wp2
 refine wpIn_loop (rowsLp J l bn b2 n s N W Y) rowsMu ?start ?round
 case start=>
  refine ⟨0,[],W.heap.size + 1,Y,_,_,_,_,_,_,_,_,_,_,_,_,_,_,_,_,_,_,_,_,_,_,rfl,by omega,?_,(Blk.new W 119 _).alloc _,?_,fun h=>?_,fun h=>?_,by omega,List.nodup_nil,(fun D h=>by cases h),?_,fun b h=>.inl h⟩
  . exact (hJ []).below h0 (((Below.refl _ _).alloc (Nat.le_refl _) _).alloc (by simp) _)
  . have:=Blk.newAt (W.alloc (.cells #[.func (.yield l) #[] #[]] 119)) 3 [.int .i64 (s : Int)] (b:=W.heap.size + 1) (by simp)
    simpa using this
  . have:=hL _ _ _ h0 _ h;omega
  . have:=hL _ _ _ h0 _ h;omega
  . exact Chg.of_below (((Below.refl _ _).alloc (Nat.le_refl _) _).alloc (by simp) _)
 case round=>
  rintro a wr ⟨k,Ds,b4,Z,u5,u15,u16,u17,u18,u19,u20,u21,u22,u23,u24,u25,u26,u27,u28,u29,u30,u31,u32,u33,u34,u35,rfl,hk,hj,p3,p4,z3,z4,hb4,hnd,hDs,hcg,hz⟩
  have d1 : wr.cell? ⟨bn,0,none⟩ = some (.int .i64 N):=hcg.cell c1 y1
  have d2 : wr.cell? ⟨b2,0,none⟩ = some (.int .i64 s):=hcg.cell c2 y2
  have d3 : wr.cell? ⟨W.heap.size,0,none⟩ = some (.func (.yield l) #[] #[]):=p3.cell 0
  have d4 : wr.cell? ⟨b4,0,none⟩ = some (.int .i64 ((s : Int) - k)):=p4.cell 0
  have e4 : wr.frozen? ⟨b4,0,none⟩ = false:=p4.free 0
  have hlb:=p4.lt
  generalize hV : (s : Int) - k = V at *
  by_cases hks : k <= s
  . have hV0 : 0 <= V:=by omega
    have hV1 : IntKind.i64.wrap ((s : Int) - V) = (k : Int):=by rw [IntKind.wrap_i64];omega
    gi_wp2
    refine ⟨trivial,fun h=>(by cases h),?_⟩
    refine (callsIn_wide.2 (rows_any M k wr)).mono ?_
    rintro e w1 ⟨rfl,hB1,hB2,hbel⟩
    have hVn : Hid (V = ((s - k : Nat) : Int)):=by show _ = _;omega
    have hsz : wr.heap.size <= w1.heap.size:=hbel.size
    have hB2l : wr.heap.size + 1 < w1.heap.size:=hB2.lt
    have hj1 : J (rowsTo (n + 1) s k) Z w1:=(hJ _).below hj hbel
    have p31:=p3.below hbel
    have p41:=p4.below hbel
    have zlt : ∀ b,Z b -> b < wr.heap.size:=hL _ _ _ hj
    gi_wp2
    refine wpIn_range (gf:=66) (lb:=#[.pointer (some ⟨wr.heap.size,0,none⟩),.pointer (some ⟨wr.heap.size + 1,0,none⟩)]) rfl (enters_of Tryz.func66 (by kernel_rfl) rfl)
     (ih wr.heap.size (wr.heap.size + 1) k (by omega)) (fun _=>rfl) (rowsI J l W.heap.size b4 (n + 1) s k) (rowsI_minds hJ _ _ _ _ _ _) (rowsI_lies hL _ _ _ _ _ _)
     (fun b=>Z b \/ b = W.heap.size \/ b = b4) ?h0 ?hok (fun x=>{ tmps:=#[.func (.yield l) #[] #[],.pointer (some ⟨bn,0,none⟩),.pointer (some ⟨b2,0,none⟩),.pointer (some ⟨W.heap.size,0,none⟩),.pointer (some ⟨b4,0,none⟩),.string (ex x),.int .i64 N,.bool false,undef,undef,undef,undef,undef,undef,.int .i64 (s : Int),.int .i64 V,.bool true,u17,u18,.int .i64 N,.int .i64 M,.int .i64 (s : Int),.int .i64 V,.int .i64 (k : Int),.func (.func 66) #[] #[.pointer (some ⟨wr.heap.size,0,none⟩),.pointer (some ⟨wr.heap.size + 1,0,none⟩)],.string (ex x),u26,u27,u28,u29,u30,u31,u32,u33,u34,u35],defers:=[] }) ?assign ?body ?done
    case h0=>exact ⟨Z,rfl,by simpa using hj1,p31,by rw [<- hVn.out];exact p41,z3,z4⟩
    case hok=>
     intro W1 hg
     have hbb : Below w1.heap.size w1 W1:=⟨hg.os,hg.tape,hg.output,hg.size,fun k hk=>hg.block k hk (fun e=>by cases e)⟩
     refine ⟨by rw [hM];exact hB1.below hbb,hB2.below hbb,?_,?_⟩
     . rintro ((h | h | h) | h | h)
       . have:=zlt _ h;omega
       . have:=p3.lt;omega
       . omega
       . omega
       . omega
     . rintro ((h | h | h) | h | h)
       . have:=zlt _ h;omega
       . have:=p3.lt;omega
       . omega
       . omega
       . omega
    case assign=>
     intro m' l' x W' K hK
     gi_wp2
     exact hK
    case body=>
     rintro m' l' pre x Zb Wb ⟨Zj,rfl,hjb,r3,r4,n3,n4⟩ hpre hzb hszb
     have f3 : Wb.cell? ⟨W.heap.size,0,none⟩ = some (.func (.yield l) #[] #[]):=r3.cell 0
     have f4 : Wb.cell? ⟨b4,0,none⟩ = some (.int .i64 V):=by rw [hVn.out];exact r4.cell 0
     have g3:=r3.lt
     have g4:=r4.lt
     obtain ⟨W2,hW2⟩ : ∃ W2,Wb.alloc (.cells #[.int .u8 V] 5) = W2:=⟨_,rfl⟩
     have hb2 : Below Wb.heap.size Wb W2:=by rw [<- hW2];exact (Below.refl _ _).alloc (Nat.le_refl _) _
     have hcu : IntKind.u8.wrap V = V:=by rw [IntKind.wrap_u8];omega
     obtain ⟨y,hy0⟩ : ∃ y,ex [s - k] = y:=⟨_,rfl⟩
     have hcv2 : (convert 67 9 (.slice (some ⟨Wb.heap.size,0,none⟩) 1 1)).run Tryz.prog W2 = .ok (.string y) W2:=by
      have hB : Blk W2 Wb.heap.size 5 (ubs 1 (fun _=>s - k)):=by rw [<- hW2,hVn.out];exact Blk.new _ _ _
      rw [<- hy0];exact to_string hB 1
     obtain ⟨v,hv⟩ : ∃ v,ex x = v:=⟨_,rfl⟩
     obtain ⟨z,hz0⟩ : ∃ z,ex ((s - k) :: x) = z:=⟨_,rfl⟩
     have hcat : y ++ v = z:=by rw [<- hy0,<- hv,<- hz0];exact (ex_append _ _).symm
     have hxl : x.length = n + 1:=rowsL_length _ _ _ (List.IsPrefix.subset hpre (by simp))
     have hszs : ¬ 9223372036854775807 < y.size + v.size:=by
      rw [<- hy0,<- hv,bs_size,bs_size];simp;omega
     obtain ⟨fn,tmps,assign,body,hy,hR⟩:=hY (m' - 1) (rowsTo (n + 1) s k ++ pre.map ((s - k) :: ·)) ((s - k) :: x) Zj W2 ((hJ _).below hjb hb2) (rowsTo_round _ _ _ hks _ _ hpre)
     rw [hz0] at hy
     rw [hv]
     clear hxl
     gi_wp2
     refine ⟨fun h=>(by cases h),?_⟩
     refine RoundIn.mono (F:=Fence.wide.inRound l') hR ?_
     rintro e W4 ⟨rfl,Zk,hjk,hck,hzk⟩
     gi_wp2
     have hlen2:=hb2.size
     have r32:=r3.below hb2
     have r42:=r4.below hb2
     have tb3 : ¬ Zk W.heap.size:=fun h=>by rcases hzk _ h with h1 | h1;exact n3 h1;omega
     have tb4 : ¬ Zk b4:=fun h=>by rcases hzk _ h with h1 | h1;exact n4 h1;omega
     refine ⟨(fun b=>Zk b \/ b = W.heap.size \/ b = b4),⟨Zk,rfl,by simpa using hjk,hck.blk r32 n3,hck.blk r42 n4,tb3,tb4⟩,?_,?_⟩
     . exact ((Chg.of_below hb2).trans hck (fun b h=>.inl h)).mono (fun b _ h=>.inl h)
     . rintro b (h | h | h)
       . rcases hzk b h with h1 | h1
         . exact .inl (.inl h1)
         . exact .inr (by omega)
       . exact .inl (.inr (.inl h))
       . exact .inl (.inr (.inr h))
    case done=>
     rintro W3 ⟨Z3,⟨⟨Zj,rfl,hj3,s3,s4,n3,n4⟩,hD3,hz3⟩,hc3,hz4⟩
     have f4 : W3.cell? ⟨b4,0,none⟩ = some (.int .i64 V):=by rw [hVn.out];exact s4.cell 0
     have g4:=s4.lt
     have hdec : IntKind.i64.wrap (V - 1) = V - 1:=by rw [IntKind.wrap_i64];omega
     gi_wp2
     refine ⟨⟨k + 1,w1.heap.size :: Ds,W3.heap.size,Zj,_,_,_,_,_,_,_,_,_,_,_,_,_,_,_,_,_,_,_,_,_,_,rfl,by omega,?_,?_,?_,?_,?_,?_,?_,?_,?_,?_⟩,?_⟩
     . rw [rowsTo_succ];exact (hJ _).below hj3 ((Below.refl _ _).alloc (Nat.le_refl _) _)
     . exact s3.alloc _
     . rw [show (s : Int) - ((k + 1 : Nat) : Int) = V - 1 by omega];exact Blk.new _ _ _
     . exact n3
     . exact fun h=>by have:=hL _ _ _ hj3 _ h;omega
     . exact s3.lt
     . rw [List.nodup_cons]
       refine ⟨fun h=>?_,hnd⟩
       have:=(Array.getElem?_eq_some_iff.1 (hDs _ h).1).1
       omega
     . intro D hD
       have hW3 : w1.heap.size < W3.heap.size:=(Array.getElem?_eq_some_iff.1 hD3).1
       have hWl:=p3.lt
       rcases List.mem_cons.1 hD with rfl | hD
       . refine ⟨(Below.heap_alloc _ _ _ hW3).trans hD3,fun h=>?_,by omega⟩
         rcases hz3 _ (.inl h) with (h1 | h1 | h1) | h1
         . have:=zlt _ h1;omega
         . omega
         . omega
         . omega
       . obtain ⟨e1,e2,e3⟩:=hDs D hD
         have hDl : D < wr.heap.size:=(Array.getElem?_eq_some_iff.1 e1).1
         have nd3 : D ≠ W.heap.size:=by
          rintro rfl
          have : wr.heap[W.heap.size]? = _:=p3
          rw [e1] at this;cases this
         have nd4 : D ≠ b4:=by
          rintro rfl
          have : wr.heap[D]? = _:=p4
          rw [e1] at this;cases this
         refine ⟨?_,fun h=>?_,e3⟩
         . refine (Below.heap_alloc _ _ _ (by omega)).trans ((hc3.block D (by omega) ?_).trans ((hbel.block D hDl).trans e1))
           rintro (h | h | h)
           . exact e2 h
           . exact nd3 h
           . exact nd4 h
         . rcases hz3 _ (.inl h) with (h1 | h1 | h1) | h1
           . exact e2 h1
           . exact nd3 h1
           . exact nd4 h1
           . omega
     . refine ((hcg.trans (Chg.of_below (Y:=Y) hbel) (fun b h=>.inl h)).trans hc3 ?_).trans (Chg.of_below (Y:=Y) ((Below.refl _ _).alloc (Nat.le_refl _) _)) (fun b h=>.inl h)
       rintro b (h | h | h)
       . exact hz b h
       . exact .inr (by omega)
       . exact .inr (by omega)
     . intro b h
       have hWl:=p3.lt
       rcases hz3 _ (.inl h) with (h1 | h1 | h1) | h1
       . exact hz b h1
       . exact .inr (by omega)
       . exact .inr (by omega)
       . exact .inr (by omega)
     . have v1 : (W3.alloc (Obj.cells #[Value.int IntKind.i64 (V - 1)] 3)).cell? ⟨W3.heap.size,0,none⟩ = some (.int .i64 (V - 1)):=(Blk.new W3 3 [.int .i64 (V - 1)]).cell 0
       simp only [rowsMu,Array.getD_eq_getD_getElem?]
       simp [v1,d4]
       omega
  . have hV0 : ¬ 0 <= V:=by omega
    obtain rfl : k = s + 1:=by omega
    gi_wp2
    refine leaves_marks Ds wr hnd (fun D hD=>(hDs D hD).1) (fun w' hc=>?_)
    refine ⟨_,results_none rfl _ _ _,⟨_,rfl⟩,Z,hJ _ _ _ _ hj (hc.mono (fun b _ hb hZ=>(hDs b hb).2.1 hZ)),hcg.trans hc (fun b hb=>.inr (hDs b hb).2.2),?_⟩
    intro b hb
    exact hz b hb
theorem rows_gives (n : Nat) (hn : n + 1 <= 255) : ∀ (bn b2 s : Nat),s <= 255 -> Gives Tryz.prog 66 #[.pointer (some ⟨bn,0,none⟩),.pointer (some ⟨b2,0,none⟩)] (fun x=>#[.string (ex x)]) (okRows bn b2 (n + 1) s) (rowsL (n + 1) s):=by
 induction n with
 | zero=>intro bn b2 s hs;exact rows_one bn b2 s hs
 | succ n ih=>intro bn b2 s hs;exact rows_step n (by omega) (fun bn b2 i hi=>ih (by omega) bn b2 i hi) bn b2 s hs
end Go.Proofs.YtidjljldhdckiaaGreatDoor
namespace Go.Proofs.YtidjljldhdckiaaGreatDoor
open Go.RowKit
attribute [local go_sem ↓] Go.wp_at_zero Go.wp_at_succ
def cnt : Nat -> Nat -> Nat
 | 0,_=>1
 | _ + 1,0=>1
 | i + 1,s + 1=>cnt (i + 1) s + cnt i (s + 1)
 termination_by i s=>i + s
theorem cnt_zero (s : Nat) : cnt 0 s = 1:=by unfold cnt;rfl
theorem cnt_nought (i : Nat) : cnt i 0 = 1:=by cases i<;>(unfold cnt;rfl)
theorem cnt_succ (i s : Nat) : cnt (i + 1) (s + 1) = cnt (i + 1) s + cnt i (s + 1):=by rw [cnt]
theorem cnt_laws (N : Nat) : ∀ i s,i + s <= N -> (i + 1) * cnt (i + 1) s = (s + i + 1) * cnt i s /\ (s + 1) * cnt i (s + 1) = (s + i + 1) * cnt i s:=by
 induction N with
 | zero =>
   intro i s h
   obtain rfl : i = 0:=by omega
   obtain rfl : s = 0:=by omega
   simp [cnt_zero,cnt_nought]
 | succ N ih =>
   intro i s h
   have h2 : (s + 1) * cnt i (s + 1) = (s + i + 1) * cnt i s:=by
    cases i with
    | zero=>simp [cnt_zero]
    | succ i =>
      obtain ⟨a,b⟩:=ih i s (by omega)
      rw [cnt_succ]
      grind
   refine ⟨?_,h2⟩
   cases s with
   | zero=>simp [cnt_nought]
   | succ s =>
     obtain ⟨a,b⟩:=ih i s (by omega)
     rw [cnt_succ]
     grind
theorem cnt_step (i s : Nat) : cnt i s * (s + (i + 1)) / (i + 1) = cnt (i + 1) s:=by
 have:=(cnt_laws (i + s) i s (Nat.le_refl _)).1
 rw [Nat.mul_comm,<- Nat.add_assoc,<- this,Nat.mul_div_cancel_left _ (by omega)]
theorem cnt_pos (i s : Nat) : 0 < cnt i s:=by
 induction i generalizing s with
 | zero=>rw [cnt_zero];decide
 | succ i ih =>
   induction s with
   | zero=>rw [cnt_nought];decide
   | succ s ih2=>rw [cnt_succ];omega
theorem cnt_le (i s : Nat) : cnt i s <= (s + 1) ^ i:=by
 induction i with
 | zero=>rw [cnt_zero];simp
 | succ i ih =>
   have h : ∀ t,t <= s -> cnt (i + 1) t <= (t + 1) * (s + 1) ^ i:=by
    intro t
    induction t with
    | zero=>intro _;rw [cnt_nought,Nat.zero_add,Nat.one_mul];exact Nat.pow_pos (n:=i) (by omega : 0 < s + 1)
    | succ t iht =>
      intro ht
      have h1:=iht (by omega)
      have h2 : cnt i (t + 1) <= cnt i s:=by
       clear iht h1 ih
       obtain ⟨d,rfl⟩ : ∃ d,s = t + 1 + d:=⟨s - (t + 1),by omega⟩
       clear ht
       induction d with
       | zero=>exact Nat.le_refl _
       | succ d ihd =>
         refine Nat.le_trans ihd ?_
         cases i with
         | zero=>rw [cnt_zero,cnt_zero];exact Nat.le_refl _
         | succ i=>rw [<- Nat.add_assoc (t + 1) d 1,cnt_succ];omega
      rw [cnt_succ,Nat.add_mul (t + 1) 1]
      omega
   have:=h s (Nat.le_refl _)
   rw [Nat.pow_succ,Nat.mul_comm];exact this
theorem rowsL_count (i s : Nat) : (rowsL (i + 1) s).length = cnt i s:=by
 induction i generalizing s with
 | zero=>rw [cnt_zero];rfl
 | succ i ih =>
   have h : ∀ k t,((List.range k).flatMap fun j=>(rowsL (i + 1) j).map ((t - j) :: ·)).length = ((List.range k).map (cnt i)).sum:=by
    intro k t
    induction k with
    | zero=>rfl
    | succ k ihk =>
      rw [List.range_succ,List.flatMap_append,List.length_append,ihk,List.map_append,List.sum_append]
      simp [ih]
   have h2 : ∀ s,((List.range (s + 1)).map (cnt i)).sum = cnt (i + 1) s:=by
    intro s
    induction s with
    | zero=>simp [cnt_nought]
    | succ s ihs=>rw [List.range_succ,List.map_append,List.sum_append,ihs,cnt_succ];simp
   rw [rowsL,h,h2]
theorem cnt_small {i s : Nat} (hi : i <= 8) (hs : s <= 20) : cnt i s <= 37822859361:=by
 refine Nat.le_trans (cnt_le i s) (Nat.le_trans (Nat.pow_le_pow_left (show s + 1 <= 21 by omega) i) ?_)
 exact Nat.le_trans (Nat.pow_le_pow_right (by decide) hi) (by decide)
theorem wrapIn (n : Int) (h : -9223372036854775808 <= n /\ n <= 9223372036854775807) : wrap64 n = n:=by unfold wrap64;omega
theorem many_any (n s : Nat) (w : World) (hn : 1 <= n) (hn2 : n <= 9) (hs : s <= 20) :
 Calls Tryz.prog 32 #[.int .i64 (n : Int),.int .i64 (s : Int)] w fun e w'=>e = .returned (.int .i64 ((min (cnt (n - 1) s) 513 : Nat) : Int)) /\ w' = w:=by
 go_enter Tryz.func32,Tryz.ntmps32
 go_wp2
 go_loopw [5,6] (fun c i wr=>∃ k : Nat,1 <= k /\ k <= n /\ i = .int .i64 (k : Int) /\ c = .int .i64 (cnt (k - 1) s : Int) /\ wr = w) (fun _ i _=>n - (intOf i).toNat)
 case atStart=>exact ⟨1,by omega,by omega,rfl,by rw [cnt_zero];rfl,rfl⟩
 case round=>
  obtain ⟨k,hk1,hk2,rfl,rfl,rfl⟩:=hrel
  by_cases hlt : k < n
  . have hb:=cnt_small (i:=k - 1) (s:=s) (by omega) hs
    have hst:=cnt_step (k - 1) s
    rw [show k - 1 + 1 = k by omega] at hst
    have hb2:=cnt_small (i:=k) (s:=s) (by omega) hs
    generalize hC : cnt (k - 1) s = C at *
    have hw1 : IntKind.i64.wrap ((s : Int) + (k : Int)) = ((s + k : Nat) : Int):=by rw [IntKind.wrap_i64];omega
    have hm : C * (s + k) <= 37822859361 * 29:=Nat.mul_le_mul hb (by omega)
    have hval : min (wrap64 ((wrap64 ((C : Int) * ((s : Int) + (k : Int)))).tdiv (k : Int))) 1099511627776 = (cnt k s : Int):=by
     rw [show (C : Int) * ((s : Int) + (k : Int)) = ((C * (s + k) : Nat) : Int) by rw [Int.natCast_mul,Int.natCast_add]]
     generalize hE : cnt k s = E at hst hb2 ⊢
     generalize C * (s + k) = t at hst hm ⊢
     clear hE hC
     rw [wrapIn (t : Int) (by omega),Int.tdiv_eq_ediv_of_nonneg (by omega),<- Int.natCast_ediv,hst,wrapIn (E : Int) (by omega)]
     omega
    go_wp2
    refine ⟨⟨k + 1,by omega,by omega,by simp,?_,trivial⟩,by simp [intOf];omega⟩
    rfl
  . obtain rfl : k = n:=by omega
    go_wp2
    go_ret
    have hm : min ((cnt (k - 1) s : Nat) : Int) 513 = ((min (cnt (k - 1) s) 513 : Nat) : Int):=by omega
    exact ⟨by show Ending.returned (Value.int _ _) = _;rw [hm],rfl⟩
theorem may_any (v d : Int) (w : World) :
 Calls Tryz.prog 42 #[.int .i64 v,.int .i64 d] w fun e w'=>e = .returned (.bool (decide (1 <= v /\ v <= 8 /\ 0 <= d /\ d <= 20))) /\ w' = w:=by
 go_enter Tryz.func42,Tryz.ntmps42
 by_cases h1 : 1 <= v
 . by_cases h2 : v <= 8
   . by_cases h3 : 0 <= d
     . by_cases h4 : d <= 20
       . go_wp2;go_ret;exact ⟨by simp [*],rfl⟩
       . go_wp2;go_ret;exact ⟨by simp [*],rfl⟩
     . go_wp2;go_ret;exact ⟨by simp [*];omega,rfl⟩
   . go_wp2;go_ret;exact ⟨by simp [*];omega,rfl⟩
 . go_wp2;go_ret;exact ⟨by simp [*];omega,rfl⟩
end Go.Proofs.YtidjljldhdckiaaGreatDoor
