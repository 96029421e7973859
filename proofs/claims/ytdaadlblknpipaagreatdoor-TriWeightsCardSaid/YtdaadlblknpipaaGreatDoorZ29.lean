/- TriWeights,the row and the card: whatever the arguments (any simplex and any point),the law answers true,and the arguments read as before. -/
import Derived.Test.YtdaadlblknpipaaGreatDoorZ27
import Derived.Test.YtdaadlblknpipaaGreatDoorZ28
import Derived.Test.YtdaadlblknpipaaGreatDoorTie
set_option linter.unusedVariables false
set_option linter.unusedSimpArgs false
set_option maxRecDepth 100000
set_option maxHeartbeats 16000000
namespace Go.Proofs.YtdaadlblknpipaaGreatDoor
open Go.ChangeShapes Go.WideShapes Go.ChangeAt Go.RowKit Go.Joins
theorem anc (os:Os)(started:os.Started)(H:Type)(enc:TypeId×Value->H):
 ReturnsInHanded {} Tryz.checked os 4 .any (λw args=>(Rows.triWeightsSpec.pre enc Tryz.prog Tryz.f4 [] false w args/\laidMetH Tryz.prog listed w)/\sizedMet enc Tryz.prog Tryz.f4 (OpenSpec.ofChange Rows.triWeightsSpec) false w args)
  (Rows.triWeightsSpec.post enc Tryz.prog Tryz.f4 false true false false):=by
 refine returnsInHanded_of_change_and (C:=Tryz.checked) (X:=λw _=>laidMetH Tryz.prog listed w) (λ_ _ _ hh h=>h.of_heap hh) own started zk Tryz.func4
  (ChangeSpec.witness_shaped (enc:=enc) (C:=Tryz.checked) (os:=os) (X:=λw _=>laidMetH Tryz.prog listed w) false (World.laidAll Tryz.prog os listed) #[.slice none 0 0,.slice none 0 0] 8 (World.laidAll_os _ _ _)
   (World.shaped_of_ZipB zk zk) zk zk zk
   (aiS os _)) ?_
 intro W base args ds gs before WS hW _ _ hL _;have hval:∀(j:Nat) t v,Tryz.f4.params[j]?=some t->args[j]?=some v->Value.okWide Tryz.prog W .any base t v:=WS;have hW':=hW;obtain⟨p,q,rR,hV,rfl,hfz,hnd⟩:=hW;have hA:DataW.TrodAll enc Tryz.prog W 0 (λ_=>true) true Tryz.f4.params.toList args.toList ds p:=rR;rw[Tryz.params4]at hA hval;obtain⟨v0,vs0,d0,ds0,p0,q0,hargs,rfl,rfl,t0,r0⟩:=trodAll_cons hA;obtain⟨v1,vs1,d1,ds1,p1,q1,rfl,rfl,rfl,t1,r1⟩:=trodAll_cons r0;obtain⟨rfl,rfl,rfl⟩:=trodAll_nil r1;obtain rfl:args= #[v0,v1]:=by cases args;simp_all
 obtain⟨rfl,rfl⟩:=trodVars_none hV;obtain⟨a,L,cap,rows,rfl,hrl,hsl,ha⟩:=akk (hval 0 _ v0 rfl rfl) t0;obtain⟨xs,xa,xc,rfl,hx,rq⟩:=akj (hval 1 _ v1 rfl rfl) t1;have hT:=amz hL;clear rR WS hA hval r0 r1 hargs;simp only[List.append_nil]at hW';have hlt:∀x∈p0++p1,x.block<W.heap.size:=λx hx=>by simpa using hW'.lt x (by simpa using hx)
 refine(ang a L cap rows xa xs.length xc xs W hrl rfl hsl rq ha hx hT).mono ?_;rintro e W' ⟨rfl,Lj⟩;have l0:∀x∈p0,x.block<W.heap.size:=λx hx=>hlt x (by simp[hx]);have l1:∀x∈p1,x.block<W.heap.size:=λx hx=>hlt x (by simp[hx]);have s0:=Below.trod laidOut zk (of_decide_eq_true zk) t0 Lj l0;have s1:=Below.trod laidOut zk (of_decide_eq_true zk) t1 Lj l1;refine⟨_,rfl,_,_,_,[],p0++p1,[],hW',?_,?_,?_,Lj.frame _,λh=>by cases h⟩
 . exact trodAll_mk1 (shut_bool Tryz.underlying4 _)
 . have:=trodAll_cons_mk s0 (trodAll_cons_mk s1 trodAll_mk0);simp only[List.append_nil]at this;exact this
 . rfl
theorem anf :Rows.TriWeightsSaid:=
 OpenClaim.holds_of_wide 4 Tryz.f4 rfl rfl rfl rfl rfl rfl rfl ⟨rfl,rfl,rfl,rfl,rfl⟩ rfl rfl rfl rfl rfl zk Tryz.func4 zk
  (of_decide_eq_true zk) (by unfold Func.isWrapper;first| (rw[if_pos (by decide+kernel)];kernel_rfl) | (rw[if_neg (by decide+kernel)];exact⟨rfl,rfl⟩))
  (λos started H enc _=>anc os started H enc)
theorem ane (f:FuncId)(fn:Func)(hf:Tryz.pinned.checked.prog.funcNamed "ogee/ogeelaw15.TriWeights" =some f)(hfn:Tryz.pinned.checked.prog.funcs[f]?=some fn):
 false=Tryz.pinned.checked.prog.looks []/\∀(j:Nat) t,fn.params[j]?=some t->Tryz.pinned.checked.prog.wantsStandIn t=false:=by
 obtain rfl:f=4:=Option.some.inj ((show Tryz.prog.funcNamed "ogee/ogeelaw15.TriWeights" =some 4 by kernel_rfl).symm.trans hf) |>.symm;obtain rfl:fn=Tryz.f4:=(Option.some.inj (Tryz.func4.symm.trans hfn)).symm;refine⟨by kernel_rfl,fun j t ht=>?_⟩;rw[Tryz.params4]at ht;have hm:t∈[23,46]:=by simpa using Array.mem_of_getElem? ht
 have hall:([23,46].all λu=>!Tryz.prog.wantsStandIn u)=true:=by kernel_rfl
 exact(show Tryz.prog.wantsStandIn t=false by simpa using List.all_eq_true.1 hall t hm)
theorem weighed_card :Rows.TriWeightsCardSaid:=
 Claim7.holds_tied_plain_at .later [] _ _ _ _ anf (λ_ h=>by cases h) zk (λ_ h=>by cases h) triWeights_row_tie rfl ⟨rfl,rfl⟩ zk rfl ane zk
#print axioms weighed_card
end Go.Proofs.YtdaadlblknpipaaGreatDoor
