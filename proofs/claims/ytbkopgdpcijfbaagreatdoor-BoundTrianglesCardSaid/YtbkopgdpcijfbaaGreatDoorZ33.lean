/- Package calc: Eval. -/
import Derived.Test.YtbkopgdpcijfbaaGreatDoorZ16
import Derived.Test.YtbkopgdpcijfbaaGreatDoorZ18
import Derived.Lib.OthersKept
import Derived.Test.YtbkopgdpcijfbaaGreatDoorZ31
import Derived.Test.YtbkopgdpcijfbaaGreatDoorZ10
set_option linter.all false
set_option maxRecDepth 100000
set_option maxHeartbeats 16000000
namespace Go.Proofs.YtbkopgdpcijfbaaGreatDoor
open Go.RowKit
attribute [local go_sem ↓] Go.wp_at_zero Go.wp_at_succ
end Go.Proofs.YtbkopgdpcijfbaaGreatDoor
namespace Go.Proofs.YtbkopgdpcijfbaaGreatDoor
def acG (X:Nat->Dyadic)(n:Nat)(c:Dyadic)(l:Nat->Dyadic)(k:Nat)(hk:k<=n):cO (eZ X n) (eD n c l k)=c+fu (λb=>l b*X b) k:=by
 unfold eD;rw[arH];induction k with
 | zero=>
   show au (canon c) *pN X 1 (iN n) n+0=c+fu _ 0
   rw[bF,WJ];show c*1+0=c+0;grind
 | succ k ih=>
   rw[Wt,Tw,ih zo];show _+(au (canon (l k)) *pN X 1 (cN n k) n+0)=_
   rw[bF,WI X n k n (Nat.le_refl _) zo,if_pos zo];show c+fu _ k+(l k*X k+0)=c+(fu _ k+l k*X k)
   grind
def asl (n:Nat)(hn:1<=n)(bZ:n<=4)(P:Nat->Nat->Dyadic)(X:Nat->Dyadic)(j:Nat)(hj:j<=n):MW X n (dP n P n j) (dP n P n j).length=xt n P X j:=by
 rw[acF X n _ _ (Nat.le_refl _),List.take_length];unfold dP;by_cases h:j=0
 . subst h;rw[if_pos rfl];unfold lQ;rw[acG X n _ _ n (Nat.le_refl _),<-aBd n hn bZ P X n (Nat.le_refl _),aBg n hn bZ]
 . rw[if_neg h];unfold pL;rw[acG X n _ _ n (Nat.le_refl _)];have h1:=ajV n P X (j-1) n;have h2:=KX n hn bZ P X (j-1) zo;rw[show j-1+1=j by omega]at h2;rw[<-h2,h1];rfl
end Go.Proofs.YtbkopgdpcijfbaaGreatDoor
