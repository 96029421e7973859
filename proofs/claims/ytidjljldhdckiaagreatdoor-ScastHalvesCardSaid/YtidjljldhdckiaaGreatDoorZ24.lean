/- ScastHalves,the row and the card: whatever the polynomial,the simplex and the degree,the law answers true,and the arguments read as before. -/
import Derived.Test.YtidjljldhdckiaaGreatDoorZ23
import Derived.Test.YtidjljldhdckiaaGreatDoorZ20
import Derived.Test.YtidjljldhdckiaaGreatDoorTie
set_option maxRecDepth 100000
set_option maxHeartbeats 16000000
namespace Go.Proofs.YtidjljldhdckiaaGreatDoor
open Go.ChangeShapes Go.WideShapes Go.ChangeAt Go.RowKit Go.Joins
theorem halves_lifted (os : Os) (started : os.Started) (H : Type) (enc : TypeId × Value -> H) :
 ReturnsInHanded {} Tryz.checked os 4 .any (fun w args=>(Rows.scastHalvesSpec.pre enc Tryz.prog Tryz.f4 [] false w args /\ laidMetH Tryz.prog listed w) /\ sizedMet enc Tryz.prog Tryz.f4 (OpenSpec.ofChange Rows.scastHalvesSpec) false w args)
  (Rows.scastHalvesSpec.post enc Tryz.prog Tryz.f4 false true false false):=by
 refine returnsInHanded_of_change_and (C:=Tryz.checked) (X:=fun w _=>laidMetH Tryz.prog listed w) (fun _ _ _ hh h=>h.of_heap hh) own started (by kernel_rfl) Tryz.func4
  (ChangeSpec.witness_shaped (enc:=enc) (C:=Tryz.checked) (os:=os) (X:=fun w _=>laidMetH Tryz.prog listed w) false (World.laidAll Tryz.prog os listed) #[.agg #[.int .i64 0,.slice none 0 0],.slice none 0 0,.int .i64 0] 8 (World.laidAll_os _ _ _)
   (World.shaped_of_ZipB (by kernel_rfl) (by kernel_rfl)) (by kernel_rfl) (by kernel_rfl) (by kernel_rfl)
   (listed_met os _)) ?_
 intro W base args ds gs before hval0 hW _ _ hL _
 have hval : ∀ (j : Nat) t v,Tryz.f4.params[j]? = some t -> args[j]? = some v -> Value.okWide Tryz.prog W .any base t v:=hval0
 have hW':=hW
 obtain ⟨p,q,hA0,hV,rfl,hfz,hnd⟩:=hW
 have hA : DataW.TrodAll enc Tryz.prog W 0 (fun _=>true) true Tryz.f4.params.toList args.toList ds p:=hA0
 rw [Tryz.params4] at hA hval
 obtain ⟨v0,vs0,d0,ds0,p0,q0,hargs,rfl,rfl,t0,r0⟩:=trodAll_cons hA
 obtain ⟨v1,vs1,d1,ds1,p1,q1,rfl,rfl,rfl,t1,r1⟩:=trodAll_cons r0
 obtain ⟨v2,vs2,d2,ds2,p2,q2,rfl,rfl,rfl,t2,r2⟩:=trodAll_cons r1
 obtain ⟨rfl,rfl,rfl⟩:=trodAll_nil r2
 obtain rfl : args = #[v0,v1,v2]:=by cases args;simp_all
 obtain ⟨rfl,rfl⟩:=trodVars_none hV
 obtain ⟨PV,aP,nT,capP,ts,rfl,hnT,haP,hlen⟩:=open_poly (hval 0 _ v0 rfl rfl) t0
 obtain ⟨a,L,cap,rows,rfl,hrl,hcap,ha⟩:=open_simplex (hval 1 _ v1 rfl rfl) t1
 obtain ⟨i,rfl,rfl,rfl,wi⟩:=open_int Tryz.underlying3 (hval 2 _ v2 rfl rfl) t2
 have hT:=tab_of_laid hL
 clear hA0 hval0 hA hval r0 r1 r2 hargs
 simp only [List.append_nil] at hW'
 have hlt : ∀ x ∈ p0 ++ p1,x.block < W.heap.size:=fun x hx=>by simpa using hW'.lt x (by simpa using hx)
 refine (halves_any PV aP nT capP ts a L cap rows i W hnT haP hlen hrl hcap ha hT).mono ?_
 rintro e W' ⟨rfl,bel⟩
 have l0 : ∀ x ∈ p0,x.block < W.heap.size:=fun x hx=>hlt x (by simp [hx])
 have l1 : ∀ x ∈ p1,x.block < W.heap.size:=fun x hx=>hlt x (by simp [hx])
 have s0:=Below.trod laidOut (by kernel_rfl) (of_decide_eq_true (by kernel_rfl)) t0 bel l0
 have s1:=Below.trod laidOut (by kernel_rfl) (of_decide_eq_true (by kernel_rfl)) t1 bel l1
 refine ⟨_,rfl,_,_,_,[],p0 ++ p1,[],hW',?_,?_,?_,bel.frame _,fun h=>by cases h⟩
 . exact trodAll_mk1 (shut_bool Tryz.underlying4 _)
 . have:=trodAll_cons_mk s0 (trodAll_cons_mk s1 (trodAll_cons_mk (shut_int Tryz.underlying3 wi) trodAll_mk0))
   simp only [List.append_nil] at this
   exact this
 . rfl
theorem halves_said : Rows.ScastHalvesSaid:=
 OpenClaim.holds_of_wide 4 Tryz.f4 rfl rfl rfl rfl rfl rfl rfl ⟨rfl,rfl,rfl,rfl,rfl⟩ rfl rfl rfl rfl rfl (by kernel_rfl) Tryz.func4 (by kernel_rfl)
  (of_decide_eq_true (by kernel_rfl)) (by unfold Func.isWrapper;first | (rw [if_pos (by decide +kernel)];kernel_rfl) | (rw [if_neg (by decide +kernel)];exact ⟨rfl,rfl⟩))
  (fun os started H enc _=>halves_lifted os started H enc)
theorem halves_plain (f : FuncId) (fn : Func) (hf : Tryz.pinned.checked.prog.funcNamed "ogee/ogeelaw17.ScastHalves" = some f) (hfn : Tryz.pinned.checked.prog.funcs[f]? = some fn) :
 false = Tryz.pinned.checked.prog.looks [] /\ ∀ (j : Nat) t,fn.params[j]? = some t -> Tryz.pinned.checked.prog.wantsStandIn t = false:=by
 obtain rfl : f = 4:=Option.some.inj ((show Tryz.prog.funcNamed "ogee/ogeelaw17.ScastHalves" = some 4 by kernel_rfl).symm.trans hf) |>.symm
 obtain rfl : fn = Tryz.f4:=(Option.some.inj (Tryz.func4.symm.trans hfn)).symm
 refine ⟨by kernel_rfl,fun j t ht=>?_⟩
 rw [Tryz.params4] at ht
 have hm : t ∈ [43,45,3]:=by simpa using Array.mem_of_getElem? ht
 have hall : ([43,45,3].all fun u=>!Tryz.prog.wantsStandIn u) = true:=by kernel_rfl
 exact (show Tryz.prog.wantsStandIn t = false by simpa using List.all_eq_true.1 hall t hm)
theorem halves_card : Rows.ScastHalvesCardSaid:=
 Claim7.holds_tied_plain_at .later [] _ _ _ _ halves_said (fun _ h=>by cases h) (by kernel_rfl) (fun _ h=>by cases h) scastHalves_row_tie rfl ⟨rfl,rfl⟩ (by kernel_rfl) rfl halves_plain (by kernel_rfl)
#print axioms halves_card
end Go.Proofs.YtidjljldhdckiaaGreatDoor
