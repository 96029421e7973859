/- BoundSimplices,the row and the card: whatever the arguments (any simplex,any degree,any numbers),the law answers true,and the arguments read as before. -/
import Derived.Test.YtoopepmmepmfnaaGreatDoorZ35
import Derived.Test.YtoopepmmepmfnaaGreatDoorZ36
import Derived.Test.YtoopepmmepmfnaaGreatDoorTie
set_option linter.unusedVariables false
set_option linter.unusedSimpArgs false
set_option maxRecDepth 100000
set_option maxHeartbeats 16000000
namespace Go.Proofs.YtoopepmmepmfnaaGreatDoor
open Go.ChangeShapes Go.WideShapes Go.ChangeAt Go.RowKit Go.Joins
theorem aiz (os:Os)(started:os.Started)(H:Type)(enc:TypeId×Value->H):
 ReturnsInHanded {} Tryz.checked os 5 .any (λw args=>(Rows.boundSimplicesSpec.pre enc Tryz.prog Tryz.f5 [] false w args/\laidMetH Tryz.prog listed w)/\sizedMet enc Tryz.prog Tryz.f5 (OpenSpec.ofChange Rows.boundSimplicesSpec) false w args)
  (Rows.boundSimplicesSpec.post enc Tryz.prog Tryz.f5 false true false false):=by
 refine returnsInHanded_of_change_and (C:=Tryz.checked) (X:=λw _=>laidMetH Tryz.prog listed w) (λ_ _ _ hh h=>h.of_heap hh) own started zk Tryz.func5
  (ChangeSpec.witness_shaped (enc:=enc) (C:=Tryz.checked) (os:=os) (X:=λw _=>laidMetH Tryz.prog listed w) false (World.laidAll Tryz.prog os listed) #[.slice none 0 0,af 0,.agg #[ag false,.string ⟨#[]⟩,af 0],.agg #[ag false,.string ⟨#[]⟩,af 0]] 8 (World.laidAll_os _ _ _)
   (World.shaped_of_ZipB zk zk) zk zk zk
   (am2 os _)) ?_
 intro W base args ds gs before aaB hW _ _ hL _;have hval:∀(j:Nat) t v,Tryz.f5.params[j]?=some t->args[j]?=some v->Value.okWide Tryz.prog W .any base t v:=aaB;have hW':=hW;obtain⟨p,q,uu,hV,rfl,hfz,hnd⟩:=hW;have hA:DataW.TrodAll enc Tryz.prog W 0 (λ_=>true) true Tryz.f5.params.toList args.toList ds p:=uu;rw[Tryz.params5]at hA hval;obtain⟨v0,vs0,d0,ds0,p0,q0,hargs,rfl,rfl,t0,r0⟩:=trodAll_cons hA;obtain⟨v1,vs1,d1,ds1,p1,q1,rfl,rfl,rfl,t1,r1⟩:=trodAll_cons r0;obtain⟨v2,vs2,d2,ds2,p2,q2,rfl,rfl,rfl,t2,r2⟩:=trodAll_cons r1;obtain⟨v3,vs3,d3,ds3,p3,q3,rfl,rfl,rfl,t3,r3⟩:=trodAll_cons r2;obtain⟨rfl,rfl,rfl⟩:=trodAll_nil r3;obtain rfl:args= #[v0,v1,v2,v3]:=by cases args;simp_all
 obtain⟨rfl,rfl⟩:=trodVars_none hV;obtain⟨a,L,cap,rows,rfl,hrl,hsl,ha⟩:=aoA (hval 0 _ v0 rfl rfl) t0;obtain⟨i,rfl,rfl,rfl,wi⟩:=open_int Tryz.underlying3 (hval 1 _ v1 rfl rfl) t1;obtain⟨gs,gl,ge,rfl⟩:=abZ (hval 2 _ v2 rfl rfl) t2;obtain⟨ms,ml,me,rfl⟩:=abZ (hval 3 _ v3 rfl rfl) t3;have hT:=arc hL;clear uu aaB hA hval r0 r1 r2 r3 hargs;simp only[List.append_nil]at hW';have hlt:∀x∈p0++(p2++p3),x.block<W.heap.size:=λx hx=>by simpa using hW'.lt x (by simpa using hx)
 refine(ahU a L cap rows i gs gl ge ms ml me W hrl hsl ha hT).mono ?_;rintro e W' ⟨rfl,JP⟩;have l0:∀x∈p0,x.block<W.heap.size:=λx hx=>hlt x (by simp[hx]);have l2:∀x∈p2,x.block<W.heap.size:=λx hx=>hlt x (by simp[hx]);have l3:∀x∈p3,x.block<W.heap.size:=λx hx=>hlt x (by simp[hx]);have s0:=Below.trod laidOut zk (of_decide_eq_true zk) t0 JP l0;have s2:=Below.trod laidOut zk (of_decide_eq_true zk) t2 JP l2;have s3:=Below.trod laidOut zk (of_decide_eq_true zk) t3 JP l3;refine⟨_,rfl,_,_,_,[],p0++(p2++p3),[],hW',?_,?_,?_,JP.frame _,λh=>by cases h⟩
 . exact trodAll_mk1 (shut_bool Tryz.underlying4 _)
 . have:=trodAll_cons_mk s0 (trodAll_cons_mk (shut_int Tryz.underlying3 wi) (trodAll_cons_mk s2 (trodAll_cons_mk s3 trodAll_mk0)));simp only[List.append_nil]at this;exact this
 . rfl
theorem aiB :Rows.BoundSimplicesSaid:=
 OpenClaim.holds_of_wide 5 Tryz.f5 rfl rfl rfl rfl rfl rfl rfl ⟨rfl,rfl,rfl,rfl,rfl⟩ rfl rfl rfl rfl rfl zk Tryz.func5 zk
  (of_decide_eq_true zk) (by unfold Func.isWrapper;first| (rw[if_pos (by decide+kernel)];kernel_rfl) | (rw[if_neg (by decide+kernel)];exact⟨rfl,rfl⟩))
  (λos started H enc _=>aiz os started H enc)
theorem aiA (f:FuncId)(fn:Func)(hf:Tryz.pinned.checked.prog.funcNamed "ogee/ogeelaw24.BoundSimplices" =some f)(hfn:Tryz.pinned.checked.prog.funcs[f]?=some fn):
 false=Tryz.pinned.checked.prog.looks []/\∀(j:Nat) t,fn.params[j]?=some t->Tryz.pinned.checked.prog.wantsStandIn t=false:=by
 obtain rfl:f=5:=Option.some.inj ((show Tryz.prog.funcNamed "ogee/ogeelaw24.BoundSimplices" =some 5 by kernel_rfl).symm.trans hf) |>.symm;obtain rfl:fn=Tryz.f5:=(Option.some.inj (Tryz.func5.symm.trans hfn)).symm;refine⟨by kernel_rfl,fun j t ht=>?_⟩;rw[Tryz.params5]at ht;have hm:t∈[48,3,39,39]:=by simpa using Array.mem_of_getElem? ht
 have hall:([48,3,39,39].all λu=>!Tryz.prog.wantsStandIn u)=true:=by kernel_rfl
 exact(show Tryz.prog.wantsStandIn t=false by simpa using List.all_eq_true.1 hall t hm)
theorem bsimp_card :Rows.BoundSimplicesCardSaid:=
 Claim7.holds_tied_plain_at .later [] _ _ _ _ aiB (λ_ h=>by cases h) zk (λ_ h=>by cases h) boundSimplices_row_tie rfl ⟨rfl,rfl⟩ zk rfl aiA zk
#print axioms bsimp_card
end Go.Proofs.YtoopepmmepmfnaaGreatDoor
