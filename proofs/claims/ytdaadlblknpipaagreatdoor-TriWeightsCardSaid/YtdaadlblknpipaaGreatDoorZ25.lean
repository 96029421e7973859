/- Package calc: Eval. -/
import Derived.Test.YtdaadlblknpipaaGreatDoorZ13
import Derived.Test.YtdaadlblknpipaaGreatDoorZ22
import Derived.Test.YtdaadlblknpipaaGreatDoorZ17
import Derived.Lib.OthersKept
import Derived.Test.YtdaadlblknpipaaGreatDoorZ9
set_option linter.unusedVariables false
set_option linter.unusedSimpArgs false
set_option maxRecDepth 100000
set_option maxHeartbeats 16000000
namespace Go.Proofs.YtdaadlblknpipaaGreatDoor
open Go.RowKit
attribute [local go_sem ↓] Go.wp_at_zero Go.wp_at_succ
end Go.Proofs.YtdaadlblknpipaaGreatDoor
namespace Go.Proofs.YtdaadlblknpipaaGreatDoor
def fV (k:Nat):Nat->Dyadic:=λb=>if b=k then 1 else 0
theorem aml (l:Nat->Dyadic)(n:Nat):fp (λb=>l b* (λ_=>(0:Dyadic)) b) n=0:=by
 induction n with
 |zero=>rfl
 |succ n ih=>show fp _ n+l n*0=0;rw[ih];grind
theorem amm (l:Nat->Dyadic)(k n:Nat):fp (λb=>l b*fV k b) n=if k<n then l k else 0:=by
 induction n with
 |zero=>rfl
 | succ n ih=>
   show fp _ n+l n*fV k n=_
   rw[ih];unfold fV;by_cases h:n=k
   . subst h;rw[if_pos rfl,if_neg zo,if_pos zo];grind
   . rw[if_neg h];by_cases h2:k<n
     . rw[if_pos h2,if_pos zo];grind
     . rw[if_neg h2,if_neg zo];grind
theorem Xz (n:Nat)(c:Dyadic)(l:Nat->Dyadic)(F:(Nat->Dyadic)->Dyadic)(h:∀X:Nat->Dyadic,c+fp (λb=>l b*X b) n=F X):dD n (F λ_=>0) (λk=>F (fV k)-F λ_=>0) n=dD n c l n:=by
 have h0:(F λ_=>0)=c:=by have:=h (λ_=>0);rw[aml]at this;rw[<-this];grind
 unfold dD;congr 1;refine Xv n h0 (λj hj=>?_);have h1:=h (fV j);rw[amm,if_pos hj]at h1;rw[h0,<-h1];grind
theorem agr (n:Nat)(hn:1<=n)(bI:n<=4)(P:Nat->Nat->Dyadic)(j:Nat)(hj:j<=n):dD n (gq n P (λ_=>0) j) (λk=>gq n P (fV k) j-gq n P (λ_=>0) j) n=fQ n P n j:=by
 unfold fQ;by_cases h:j=0
 . subst h;rw[if_pos rfl];unfold lD;exact Xz n _ _ (λX=>gq n P X 0) (λX=>by rw[<-am9 n hn bI P X n (Nat.le_refl _),Qc n hn bI])
 . rw[if_neg h];unfold oG;refine Xz n _ _ (λX=>gq n P X j) (λX=>?_);have h1:=ZU n P X (j-1) n;have h2:=Bc n hn bI P X (j-1) zo;rw[show j-1+1=j by omega]at h2;rw[<-h2,h1];rfl
end Go.Proofs.YtdaadlblknpipaaGreatDoor
