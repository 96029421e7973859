/- CertCovers,the row and the card: whatever the arguments (any nodes,any domain,any bytes),the law answers true,and the arguments read as before. -/
import Derived.Test.YtpfgffadgkkedaaGreatDoorZ41
import Derived.Test.YtpfgffadgkkedaaGreatDoorZ38
import Derived.Test.YtpfgffadgkkedaaGreatDoorTie
set_option linter.all false
set_option maxRecDepth 100000
set_option maxHeartbeats 16000000
namespace Go.Proofs.YtpfgffadgkkedaaGreatDoor
open Go.ChangeShapes Go.WideShapes Go.ChangeAt Go.RowKit Go.Joins
def alQ (os:Os)(started:os.Started)(H:Type)(enc:TypeId×Value->H):
 ReturnsInHanded {} Tryz.checked os 7 .any (λw args=>(Rows.certCoversSpec.pre enc Tryz.prog Tryz.f7 [] false w args/\laidMetH Tryz.prog listed w)/\sizedMet enc Tryz.prog Tryz.f7 (OpenSpec.ofChange Rows.certCoversSpec) false w args)
  (Rows.certCoversSpec.post enc Tryz.prog Tryz.f7 false true false false):=by
 refine returnsInHanded_of_change_and (C:=Tryz.checked) (X:=λw _=>laidMetH Tryz.prog listed w) (λ_ _ _ hh h=>h.of_heap hh) own started zk Tryz.func7
  (ChangeSpec.witness_shaped (enc:=enc) (C:=Tryz.checked) (os:=os) (X:=λw _=>laidMetH Tryz.prog listed w) false (World.laidAll Tryz.prog os listed) #[.slice none 0 0,.agg #[.slice none 0 0,.slice none 0 0],.slice none 0 0] 8 (World.laidAll_os _ _ _)
   (World.shaped_of_ZipB zk zk) zk zk zk
   (arf os _)) ?_
 intro W base args ds gs before adv hW _ _ hL _;have hval:∀(j:Nat) t v,Tryz.f7.params[j]?=some t->args[j]?=some v->Value.okWide Tryz.prog W .any base t v:=adv;have hW':=hW;obtain⟨p,q,uT,hV,rfl,hfz,hnd⟩:=hW;have hA:DataW.TrodAll enc Tryz.prog W 0 (λ_=>true) true Tryz.f7.params.toList args.toList ds p:=uT;rw[Tryz.params7]at hA hval;obtain⟨v0,vs0,d0,ds0,p0,q0,hargs,rfl,rfl,t0,r0⟩:=trodAll_cons hA;obtain⟨v1,vs1,d1,ds1,p1,q1,rfl,rfl,rfl,t1,r1⟩:=trodAll_cons r0;obtain⟨v2,vs2,d2,ds2,p2,q2,rfl,rfl,rfl,t2,r2⟩:=trodAll_cons r1;obtain⟨rfl,rfl,rfl⟩:=trodAll_nil r2;obtain rfl:args= #[v0,v1,v2]:=by cases args;simp_all
 obtain⟨rfl,rfl⟩:=trodVars_none hV;obtain⟨na,nn,nc,ns,qs,rfl,hnl,hna,hnq⟩:=asW (hval 0 _ v0 rfl rfl) t0;obtain⟨a,n,cap,bx,a',m,cap',rows,rfl,hbl,hbs,hb,hrl,hcap,hr⟩:=asU (hval 1 _ v1 rfl rfl) t1;obtain⟨ta,tn,tc,tb,rfl,htl,iV⟩:=asT (hval 2 _ v2 rfl rfl) t2;have hT:=avF hL;clear uT adv hA hval r0 r1 r2 hargs;simp only[List.append_nil]at hW';have hlt:∀x∈p0++(p1++p2),x.block<W.heap.size:=λx hx=>by simpa using hW'.lt x (by simpa using hx)
 refine(alI ns qs nn nc na (bx,rows) n m a a' cap cap' tb ta tn tc W hnl hna hnq hbl hrl hbs hb hr.tbl hcap htl iV hT).mono ?_;rintro e W' ⟨rfl,KX⟩;have l0:∀x∈p0,x.block<W.heap.size:=λx hx=>hlt x (by simp[hx]);have l1:∀x∈p1,x.block<W.heap.size:=λx hx=>hlt x (by simp[hx]);have l2:∀x∈p2,x.block<W.heap.size:=λx hx=>hlt x (by simp[hx]);have s0:=Below.trod laidOut zk (of_decide_eq_true zk) t0 KX l0;have s1:=Below.trod laidOut zk (of_decide_eq_true zk) t1 KX l1;have s2:=Below.trod laidOut zk (of_decide_eq_true zk) t2 KX l2;refine⟨_,rfl,_,_,_,[],p0++(p1++p2),[],hW',?_,?_,?_,KX.frame _,λh=>by cases h⟩
 . exact trodAll_mk1 (shut_bool Tryz.underlying4 _)
 . have:=trodAll_cons_mk s0 (trodAll_cons_mk s1 (trodAll_cons_mk s2 trodAll_mk0));simp only[List.append_nil]at this;exact this
 . rfl
def alP :joinedFacts Tryz.prog 7 Tryz.f7 Rows.certCoversSpec Rows.certCoversRow=true:=by
 unfold joinedFacts;simp only[Bool.and_eq_true];and_intros
 all_goals as_aux_lemma=>kernel_rfl
def alS :Rows.CertCoversSaid:=
 OpenClaim.holds_of_wide 7 Tryz.f7 rfl rfl rfl rfl rfl rfl rfl ⟨rfl,rfl,rfl,rfl,rfl⟩ rfl rfl rfl rfl rfl zk Tryz.func7 alP
  (of_decide_eq_true zk) (by unfold Func.isWrapper;first| (rw[if_pos (by decide+kernel)];kernel_rfl) | (rw[if_neg (by decide+kernel)];exact⟨rfl,rfl⟩))
  (λos started H enc _=>alQ os started H enc)
def alR (f:FuncId)(fn:Func)(hf:Tryz.pinned.checked.prog.funcNamed "ogee/ogeelaw22.CertCovers" =some f)(hfn:Tryz.pinned.checked.prog.funcs[f]?=some fn):
 false=Tryz.pinned.checked.prog.looks []/\∀(j:Nat) t,fn.params[j]?=some t->Tryz.pinned.checked.prog.wantsStandIn t=false:=by
 obtain rfl:f=7:=Option.some.inj ((show Tryz.prog.funcNamed "ogee/ogeelaw22.CertCovers" =some 7 by kernel_rfl).symm.trans hf) |>.symm;obtain rfl:fn=Tryz.f7:=(Option.some.inj (Tryz.func7.symm.trans hfn)).symm;refine⟨by kernel_rfl,fun j t ht=>?_⟩;rw[Tryz.params7]at ht;have hm:t∈[69,27,59]:=by simpa using Array.mem_of_getElem? ht
 have hall:([69,27,59].all λu=>!Tryz.prog.wantsStandIn u)=true:=by kernel_rfl
 exact(show Tryz.prog.wantsStandIn t=false by simpa using List.all_eq_true.1 hall t hm)
def certcovers_card :Rows.CertCoversCardSaid:=
 Claim7.holds_tied_plain_at .later [] _ _ _ _ alS (λ_ h=>by cases h) zk (λ_ h=>by cases h) certCovers_row_tie rfl ⟨rfl,rfl⟩ zk rfl alR zk
#print axioms certcovers_card
end Go.Proofs.YtpfgffadgkkedaaGreatDoor
