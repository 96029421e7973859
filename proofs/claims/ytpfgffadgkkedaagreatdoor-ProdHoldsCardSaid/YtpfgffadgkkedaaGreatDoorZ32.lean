/- Package simp: To,of whatever small arguments;what a polynomial is that Check lets by. -/
import Derived.Test.YtpfgffadgkkedaaGreatDoorZ13
import Derived.Test.YtpfgffadgkkedaaGreatDoorZ31
import Derived.Test.YtpfgffadgkkedaaGreatDoorZ25
import Derived.Test.YtpfgffadgkkedaaGreatDoorZ12
import Derived.Test.YtpfgffadgkkedaaGreatDoorZ7
import Derived.Test.YtpfgffadgkkedaaGreatDoorZ29
import Derived.Test.YtpfgffadgkkedaaGreatDoorZ16
import Derived.Test.YtpfgffadgkkedaaGreatDoorZ21
set_option linter.all false
set_option maxRecDepth 100000
set_option maxHeartbeats 16000000
namespace Go.Proofs.YtpfgffadgkkedaaGreatDoor
open Go.RowKit
end Go.Proofs.YtpfgffadgkkedaaGreatDoor
namespace Go.Proofs.YtpfgffadgkkedaaGreatDoor
open Go.RowKit
attribute [local go_sem ↓] Go.wp_at_zero Go.wp_at_succ
def arb (ts:List Trm)(a a':Option Addr)(n cap cap':Nat)(w:World)(hn:ts.length=n)(hl:n<=65536)(ha:At w a (ts.flatMap aH))(ha':At w a' (ts.flatMap aH)):
 Cv 72 #[.slice a n cap,.slice a' n cap'] w (ag true):=by
 obtain⟨Ha,qW,Hn⟩:=bM ha ha' hn;clear ha ha' hn;have Hb:=hbz w;go_enter Tryz.func72,Tryz.ntmps72;go_wp2_with fail;go_loopw[5] (λx wr=>∃k:Nat,k<=n/\x=af (k:Int)/\Bw w wr) (λx _=>n-(intOf x).toNat);case atStart=>exact⟨0,Nat.zero_le _,rfl,Hb.out⟩
 case round=>
  clear Hb;obtain⟨k,hk,rfl,pb⟩:=hrel;by_cases hlt:k<n
  . have hk2:k<ts.length:=by rw[Hn.out];exact hlt
    obtain⟨l,s,m,e,hx⟩:∃l s m e,ts[k]=(l,s,m,e):=⟨_,_,_,_,rfl⟩;obtain⟨b,o,rfl,bJ⟩:=(Ha.out.below pb).term k hk2 hx;obtain⟨b',o',rfl,tL⟩:=(qW.out.below pb).term k hk2 hx;have aQ:=fW n cap k (k:Int) (rfl:(some ⟨b,o,none⟩:Option Addr)=_) hlt rfl;have amv:=fW n cap' k (k:Int) (rfl:(some ⟨b',o',none⟩:Option Addr)=_) hlt rfl;have Hx:Hid (aR wr b (o+k*4) [ah l,ag s,ah m,af e]):=bJ;have Hy:Hid (aR wr b' (o'+k*4) [ah l,ag s,ah m,af e]):=tL;have aO:=aj pb;clear pb bJ tL hx;have Hb:=hbz wr;obtain⟨ae,ai⟩:=qZ (Hx.an<|Hy.an trivial);go_wp2_with fail;refine cQ 999 ae (cM 9 0x110f0d0b0907050301) ?_;refine bC ?_;refine cP ae λai=>?_;go_wp2;go_roundw;case rel=>exact⟨k+1,by omega,by go_num,aO.out.drew⟩
    case measure=>exact bf
  . obtain rfl:k=n:=by omega
    have aO:=aj pb;go_wp2;refine bodyPost_ret (results_tmp rfl _ _ _) rfl ⟨rfl,aO.out⟩
def Rb (V:Int)(ts:List Trm)(a a':Option Addr)(cap cap':Nat)(w:World)(hl:ts.length<=65536)(ha:At w a (ts.flatMap aH))(ha':At w a' (ts.flatMap aH)):
 Cv 14 #[.agg #[af V,.slice a ts.length cap],.agg #[af V,.slice a' ts.length cap']] w (ag true):=by
 obtain⟨n,hn⟩:=az ts.length;have h1:=λW (hW:Bw w W)=>arb ts a a' n cap cap' W hn zo (ha.below hW) (ha'.below hW);rw[hn];have H1:=aj h1;clear h1 ha ha' hn hl;have Hb:=hbz w;go_enter Tryz.func14,Tryz.ntmps14;go_wp2_with fail;refine gG w (Hb.an trivial) 41 [af V,.slice a n cap] 41 [af V,.slice a' n cap'] λW aG ae ai=>?_;go_wp2_with fail;refine aJ ae (H1.out _ ae.2.2.1.out) λw1 ae ai=>?_;go_wp2;go_ret;exact⟨rfl,ae.2.2.1.out⟩
end Go.Proofs.YtpfgffadgkkedaaGreatDoor
