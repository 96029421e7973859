/- BoundMore,the row and the card: whatever the arguments (any box,any degrees,any numbers),the law answers true,and the arguments read as before. -/
import Derived.Test.YtoopepmmepmfnaaGreatDoorZ29
import Derived.Test.YtoopepmmepmfnaaGreatDoorZ30
import Derived.Test.YtoopepmmepmfnaaGreatDoorTie
set_option linter.unusedVariables false
set_option linter.unusedSimpArgs false
set_option maxRecDepth 100000
set_option maxHeartbeats 16000000
namespace Go.Proofs.YtoopepmmepmfnaaGreatDoor
open Go.ChangeShapes Go.WideShapes Go.ChangeAt Go.RowKit Go.Joins
theorem adn (os:Os)(started:os.Started)(H:Type)(enc:TypeId×Value->H):
 ReturnsInHanded {} Tryz.checked os 6 .any (λw args=>(Rows.boundMoreSpec.pre enc Tryz.prog Tryz.f6 [] false w args/\laidMetH Tryz.prog listed w)/\sizedMet enc Tryz.prog Tryz.f6 (OpenSpec.ofChange Rows.boundMoreSpec) false w args)
  (Rows.boundMoreSpec.post enc Tryz.prog Tryz.f6 false true false false):=by
 refine returnsInHanded_of_change_and (C:=Tryz.checked) (X:=λw _=>laidMetH Tryz.prog listed w) (λ_ _ _ hh h=>h.of_heap hh) own started zk Tryz.func6
  (ChangeSpec.witness_shaped (enc:=enc) (C:=Tryz.checked) (os:=os) (X:=λw _=>laidMetH Tryz.prog listed w) false (World.laidAll Tryz.prog os listed) #[.slice none 0 0,.slice none 0 0,.agg #[.bool false,.string ⟨#[]⟩,.int .i64 0],.agg #[.bool false,.string ⟨#[]⟩,.int .i64 0]] 8 (World.laidAll_os _ _ _)
   (World.shaped_of_ZipB zk zk) zk zk zk
   (ahM os _)) ?_
 intro W base args ds gs before Vu hW _ _ hL _;have hval:∀(j:Nat) t v,Tryz.f6.params[j]?=some t->args[j]?=some v->Value.okWide Tryz.prog W .any base t v:=Vu;have hW':=hW;obtain⟨p,q,RV,hV,rfl,hfz,hnd⟩:=hW;have hA:DataW.TrodAll enc Tryz.prog W 0 (λ_=>true) true Tryz.f6.params.toList args.toList ds p:=RV;rw[Tryz.params6]at hA hval;obtain⟨v0,vs0,d0,ds0,p0,q0,hargs,rfl,rfl,t0,r0⟩:=trodAll_cons hA;obtain⟨v1,vs1,d1,ds1,p1,q1,rfl,rfl,rfl,t1,r1⟩:=trodAll_cons r0;obtain⟨v2,vs2,d2,ds2,p2,q2,rfl,rfl,rfl,t2,r2⟩:=trodAll_cons r1;obtain⟨v3,vs3,d3,ds3,p3,q3,rfl,rfl,rfl,t3,r3⟩:=trodAll_cons r2;obtain⟨rfl,rfl,rfl⟩:=trodAll_nil r3;obtain rfl:args= #[v0,v1,v2,v3]:=by cases args;simp_all
 obtain⟨rfl,rfl⟩:=trodVars_none hV;obtain⟨a,L,cap,bx,rfl,hrl,hsl,ha⟩:=aji (hval 0 _ v0 rfl rfl) t0;obtain⟨ia,im,ic,is,rfl,him,hsi,hia⟩:=ajj (hval 1 _ v1 rfl rfl) t1;obtain⟨gs,gl,ge,rfl⟩:=WV (hval 2 _ v2 rfl rfl) t2;obtain⟨ms,ml,me,rfl⟩:=WV (hval 3 _ v3 rfl rfl) t3;have hT:=alg hL;clear RV Vu hA hval r0 r1 r2 r3 hargs;simp only[List.append_nil]at hW';have hlt:∀x∈p0++(p1++(p2++p3)),x.block<W.heap.size:=λx hx=>by simpa using hW'.lt x (by simpa using hx)
 refine(acR a L cap bx ia im ic is gs gl ge ms ml me W hrl ha him hia hT).mono ?_;rintro e W' ⟨rfl,Ac⟩;have l0:∀x∈p0,x.block<W.heap.size:=λx hx=>hlt x (by simp[hx]);have l1:∀x∈p1,x.block<W.heap.size:=λx hx=>hlt x (by simp[hx]);have l2:∀x∈p2,x.block<W.heap.size:=λx hx=>hlt x (by simp[hx]);have l3:∀x∈p3,x.block<W.heap.size:=λx hx=>hlt x (by simp[hx]);have s0:=Below.trod laidOut zk (of_decide_eq_true zk) t0 Ac l0;have s1:=Below.trod laidOut zk (of_decide_eq_true zk) t1 Ac l1;have s2:=Below.trod laidOut zk (of_decide_eq_true zk) t2 Ac l2;have s3:=Below.trod laidOut zk (of_decide_eq_true zk) t3 Ac l3;refine⟨_,rfl,_,_,_,[],p0++(p1++(p2++p3)),[],hW',?_,?_,?_,Ac.frame _,λh=>by cases h⟩
 . exact trodAll_mk1 (shut_bool Tryz.underlying4 _)
 . have:=trodAll_cons_mk s0 (trodAll_cons_mk s1 (trodAll_cons_mk s2 (trodAll_cons_mk s3 trodAll_mk0)));simp only[List.append_nil]at this;exact this
 . rfl
theorem adp :Rows.BoundMoreSaid:=
 OpenClaim.holds_of_wide 6 Tryz.f6 rfl rfl rfl rfl rfl rfl rfl ⟨rfl,rfl,rfl,rfl,rfl⟩ rfl rfl rfl rfl rfl zk Tryz.func6 zk
  (of_decide_eq_true zk) (by unfold Func.isWrapper;first| (rw[if_pos (by decide+kernel)];kernel_rfl) | (rw[if_neg (by decide+kernel)];exact⟨rfl,rfl⟩))
  (λos started H enc _=>adn os started H enc)
theorem ado (f:FuncId)(fn:Func)(hf:Tryz.pinned.checked.prog.funcNamed "ogee/ogeelaw24.BoundMore" =some f)(hfn:Tryz.pinned.checked.prog.funcs[f]?=some fn):
 false=Tryz.pinned.checked.prog.looks []/\∀(j:Nat) t,fn.params[j]?=some t->Tryz.pinned.checked.prog.wantsStandIn t=false:=by
 obtain rfl:f=6:=Option.some.inj ((show Tryz.prog.funcNamed "ogee/ogeelaw24.BoundMore" =some 6 by kernel_rfl).symm.trans hf) |>.symm;obtain rfl:fn=Tryz.f6:=(Option.some.inj (Tryz.func6.symm.trans hfn)).symm;refine⟨by kernel_rfl,fun j t ht=>?_⟩;rw[Tryz.params6]at ht;have hm:t∈[23,26,39,39]:=by simpa using Array.mem_of_getElem? ht
 have hall:([23,26,39,39].all λu=>!Tryz.prog.wantsStandIn u)=true:=by kernel_rfl
 exact(show Tryz.prog.wantsStandIn t=false by simpa using List.all_eq_true.1 hall t hm)
theorem bmore_card :Rows.BoundMoreCardSaid:=
 Claim7.holds_tied_plain_at .later [] _ _ _ _ adp (λ_ h=>by cases h) zk (λ_ h=>by cases h) boundMore_row_tie rfl ⟨rfl,rfl⟩ zk rfl ado zk
#print axioms bmore_card
end Go.Proofs.YtoopepmmepmfnaaGreatDoor
