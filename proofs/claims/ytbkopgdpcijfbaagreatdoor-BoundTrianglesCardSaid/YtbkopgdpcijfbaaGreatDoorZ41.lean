/- BoundTriangles,the row and the card: whatever the arguments (any polynomial,any simplex,any number,any sides),the law answers true,and the arguments read as before. -/
import Derived.Test.YtbkopgdpcijfbaaGreatDoorZ40
import Derived.Test.YtbkopgdpcijfbaaGreatDoorZ29
import Derived.Test.YtbkopgdpcijfbaaGreatDoorTie
set_option linter.all false
set_option maxRecDepth 100000
set_option maxHeartbeats 16000000
namespace Go.Proofs.YtbkopgdpcijfbaaGreatDoor
open Go.ChangeShapes Go.WideShapes Go.ChangeAt Go.RowKit Go.Joins
def apm (os:Os)(started:os.Started)(H:Type)(enc:TypeId×Value->H):
 ReturnsInHanded {} Tryz.checked os 3 .any (λw args=>(Rows.boundTrianglesSpec.pre enc Tryz.prog Tryz.f3 [] false w args/\laidMetH Tryz.prog listed w)/\sizedMet enc Tryz.prog Tryz.f3 (OpenSpec.ofChange Rows.boundTrianglesSpec) false w args)
  (Rows.boundTrianglesSpec.post enc Tryz.prog Tryz.f3 false true false false):=by
 refine returnsInHanded_of_change_and (C:=Tryz.checked) (X:=λw _=>laidMetH Tryz.prog listed w) (λ_ _ _ hh h=>h.of_heap hh) own started zk Tryz.func3
  (ChangeSpec.witness_shaped (enc:=enc) (C:=Tryz.checked) (os:=os) (X:=λw _=>laidMetH Tryz.prog listed w) false (World.laidAll Tryz.prog os listed) #[.agg #[af 0,.slice none 0 0],.slice none 0 0,.agg #[ag false,.string ⟨#[]⟩,af 0],af 0] 8 (World.laidAll_os _ _ _)
   (World.shaped_of_ZipB zk zk) zk zk zk
   (avv os _)) ?_
 intro W base args ds gs before agC hW _ _ hL _;have hval:∀(j:Nat) t v,Tryz.f3.params[j]?=some t->args[j]?=some v->Value.okWide Tryz.prog W .any base t v:=agC;have hW':=hW;obtain⟨p,q,hA0,hV,rfl,hfz,hnd⟩:=hW;have hA:DataW.TrodAll enc Tryz.prog W 0 (λ_=>true) true Tryz.f3.params.toList args.toList ds p:=hA0;rw[Tryz.params3]at hA hval;obtain⟨v0,vs0,d0,ds0,p0,q0,hargs,rfl,rfl,t0,r0⟩:=trodAll_cons hA;obtain⟨v1,vs1,d1,ds1,p1,q1,rfl,rfl,rfl,t1,r1⟩:=trodAll_cons r0;obtain⟨v2,vs2,d2,ds2,p2,q2,rfl,rfl,rfl,t2,r2⟩:=trodAll_cons r1;obtain⟨v3,vs3,d3,ds3,p3,q3,rfl,rfl,rfl,t3,r3⟩:=trodAll_cons r2;obtain⟨rfl,rfl,rfl⟩:=trodAll_nil r3;obtain rfl:args= #[v0,v1,v2,v3]:=by cases args;simp_all
 obtain⟨rfl,rfl⟩:=trodVars_none hV;obtain⟨PV,aP,nP,kL,tp,rfl,hnP,JI,nX,hls⟩:=axp (hval 0 _ v0 rfl rfl) t0;obtain⟨a,L,cap,rows,rfl,hrl,hsl,ha⟩:=axq (hval 1 _ v1 rfl rfl) t1;obtain⟨ms,ml,me,rfl⟩:=axn (hval 2 _ v2 rfl rfl) t2;obtain⟨i,rfl,rfl,rfl,wi⟩:=open_int Tryz.underlying3 (hval 3 _ v3 rfl rfl) t3;have hT:=aAj hL;clear hA0 agC hA hval r0 r1 r2 r3 hargs;simp only[List.append_nil]at hW';have hlt:∀x∈p0++(p1++p2),x.block<W.heap.size:=λx hx=>by simpa using hW'.lt x (by simpa using hx)
 refine(aoQ PV aP nP kL tp a L cap rows ms ml me i W hnP JI nX hls hrl hsl ha hT).mono ?_;rintro e W' ⟨rfl,Mv⟩;have l0:∀x∈p0,x.block<W.heap.size:=λx hx=>hlt x (by simp[hx]);have l1:∀x∈p1,x.block<W.heap.size:=λx hx=>hlt x (by simp[hx]);have l2:∀x∈p2,x.block<W.heap.size:=λx hx=>hlt x (by simp[hx]);have s0:=Below.trod laidOut zk (of_decide_eq_true zk) t0 Mv l0;have s1:=Below.trod laidOut zk (of_decide_eq_true zk) t1 Mv l1;have s2:=Below.trod laidOut zk (of_decide_eq_true zk) t2 Mv l2;refine⟨_,rfl,_,_,_,[],p0++(p1++p2),[],hW',?_,?_,?_,Mv.frame _,λh=>by cases h⟩
 . exact trodAll_mk1 (shut_bool Tryz.underlying4 _)
 . have:=trodAll_cons_mk s0 (trodAll_cons_mk s1 (trodAll_cons_mk s2 (trodAll_cons_mk (shut_int Tryz.underlying3 wi) trodAll_mk0)));simp only[List.append_nil]at this;exact this
 . rfl
def apl :joinedFacts Tryz.prog 3 Tryz.f3 Rows.boundTrianglesSpec Rows.boundTrianglesRow=true:=by
 unfold joinedFacts;simp only[Bool.and_eq_true];and_intros
 all_goals as_aux_lemma=>kernel_rfl
def apo :Rows.BoundTrianglesSaid:=
 OpenClaim.holds_of_wide 3 Tryz.f3 rfl rfl rfl rfl rfl rfl rfl ⟨rfl,rfl,rfl,rfl,rfl⟩ rfl rfl rfl rfl rfl zk Tryz.func3 apl
  (of_decide_eq_true zk) (by unfold Func.isWrapper;first| (rw[if_pos (by decide+kernel)];kernel_rfl) | (rw[if_neg (by decide+kernel)];exact⟨rfl,rfl⟩))
  (λos started H enc _=>apm os started H enc)
def apn (f:FuncId)(fn:Func)(hf:Tryz.pinned.checked.prog.funcNamed "ogee/ogeelaw24.BoundTriangles" =some f)(hfn:Tryz.pinned.checked.prog.funcs[f]?=some fn):
 false=Tryz.pinned.checked.prog.looks []/\∀(j:Nat) t,fn.params[j]?=some t->Tryz.pinned.checked.prog.wantsStandIn t=false:=by
 obtain rfl:f=3:=Option.some.inj ((show Tryz.prog.funcNamed "ogee/ogeelaw24.BoundTriangles" =some 3 by kernel_rfl).symm.trans hf) |>.symm;obtain rfl:fn=Tryz.f3:=(Option.some.inj (Tryz.func3.symm.trans hfn)).symm;refine⟨by kernel_rfl,fun j t ht=>?_⟩;rw[Tryz.params3]at ht;have hm:t∈[24,26,30,3]:=by simpa using Array.mem_of_getElem? ht
 have hall:([24,26,30,3].all λu=>!Tryz.prog.wantsStandIn u)=true:=by kernel_rfl
 exact(show Tryz.prog.wantsStandIn t=false by simpa using List.all_eq_true.1 hall t hm)
def bndtri_card :Rows.BoundTrianglesCardSaid:=
 Claim7.holds_tied_plain_at .later [] _ _ _ _ apo (λ_ h=>by cases h) zk (λ_ h=>by cases h) boundTriangles_row_tie rfl ⟨rfl,rfl⟩ zk rfl apn zk
#print axioms bndtri_card
end Go.Proofs.YtbkopgdpcijfbaaGreatDoor
