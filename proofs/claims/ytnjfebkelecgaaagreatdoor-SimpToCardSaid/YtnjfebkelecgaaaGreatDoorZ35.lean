/- ogeelaw15: num,of. -/
import Derived.Test.YtnjfebkelecgaaaGreatDoorZ33
import Derived.Test.YtnjfebkelecgaaaGreatDoorZ11
import Derived.Deep.AppendLies
import Derived.Test.YtnjfebkelecgaaaGreatDoorZ14
import Derived.Test.YtnjfebkelecgaaaGreatDoorZ7
set_option linter.all false
set_option maxRecDepth 100000
set_option maxHeartbeats 16000000
namespace Go.Proofs.YtnjfebkelecgaaaGreatDoor
open Go.RowKit
attribute [local go_sem ↓] Go.wp_at_zero Go.wp_at_succ
def awD (rows:List (List Raw))(a a':Option Addr)(L cap cap':Nat)(w:World)(hL:rows.length=L)(hl:L<=1000)(hr:∀r∈rows,r.length<=1000)(ha:bQ w a rows)(ha':bQ w a' rows):
 Cv 14 #[.slice a L cap,.slice a' L cap'] w (aj true):=by
 obtain⟨Ha,pL,HL,Hr⟩:=dP ha ha' hL hr;clear ha ha' hL hr;have Hb:=hbz w;go_enter Tryz.func14,Tryz.ntmps14;go_wp2_with fail;go_loopw[5] (λx wr=>∃k:Nat,k<=L/\x=ah (k:Int)/\Bw w wr) (λx _=>L-(intOf x).toNat);case atStart=>exact⟨0,Nat.zero_le _,rfl,Hb.out⟩
 case round=>
  clear Hb;obtain⟨k,hk,rfl,pb⟩:=hrel;by_cases hlt:k<L
  . have hk2:k<rows.length:=by rw[HL.out];exact hlt
    obtain⟨b,o,a1,c1,rfl,hcell,hat⟩:=Ha.out.row k hk2;obtain⟨b',o',a2,c2,rfl,Nf,hat'⟩:=pL.out.row k hk2;have hrl:=Hr.out _ (List.getElem_mem hk2);obtain⟨R,hR⟩:=aI (rows[k]);rw[hR]at hcell hat Nf hat' hrl;obtain⟨n,hn⟩:=aI R.length;rw[hn]at hcell Nf hrl;have bC:=rJ L cap k (k:Int) (rfl:(some ⟨b,o,none⟩:Option Addr)=_) hlt rfl;have IK:=rJ L cap' k (k:Int) (rfl:(some ⟨b',o',none⟩:Option Addr)=_) hlt rfl;rw[Nat.mul_one]at bC IK;obtain⟨wo,hwo⟩:∃wo,wo=wr:=⟨_,rfl⟩;subst hwo;have HuO:Hid (bA w b (o+k) [.slice a1 n c1]):=λj hj=>by
     obtain rfl:j=0:=by simp at hj;omega
     exact hcell
    have HvO:Hid (bA w b' (o'+k) [.slice a2 n c2]):=λj hj=>by
     obtain rfl:j=0:=by simp at hj;omega
     exact Nf
    obtain⟨Hu,Hv,eZ,Fe,aX,Hn⟩:=fw (HuO.out.below pb) (HvO.out.below pb) hat hat' pb hn;clear hcell Nf hat hat' pb hn hR;have Hb:=hbz wo;obtain⟨ag,aC⟩:=qZ (Hu.an<|Hv.an trivial);go_wp2_with fail;refine dG 999 ag (dD 11 0x1513110f0d0b0907050301) ?_;refine bU ?_;refine dF ag λaC=>?_;clear Hb;go_wp2_with fail;go_loopw[6] (λx wr=>∃j:Nat,j<=n/\x=ah (j:Int)/\Bw wo wr) (λx _=>n-(intOf x).toNat);case atStart=>exact⟨0,Nat.zero_le _,rfl,(Below.refl _ _).drew⟩
    case round=>
     obtain⟨j,hj,rfl,qb⟩:=hrel;have bE:=aO aX.out qb;obtain⟨Hu,Hv,fA⟩:=cE (HuO.out.below bE) (HvO.out.below bE) qb;by_cases bj:j<n
     . have fS:j<R.length:=by rw[Hn.out];exact bj
       obtain⟨s,m,e,hx⟩:=na (R[j]);obtain⟨b3,o3,rfl,p0,p1,p2⟩:=(eZ.out.below bE).num j fS hx;obtain⟨b4,o4,rfl,q0,q1,q2⟩:=(Fe.out.below bE).num j fS hx;have ix3:=xy n c1 j (j:Int) (rfl:(some ⟨b3,o3,none⟩:Option Addr)=_) bj rfl;have ix4:=xy n c2 j (j:Int) (rfl:(some ⟨b4,o4,none⟩:Option Addr)=_) bj rfl;have Hx:Hid (bA wr b3 (o3+j*3) [aj s,ai m,ah e]):=iR p0 p1 p2;have Hy:Hid (bA wr b4 (o4+j*3) [aj s,ai m,ah e]):=iR q0 q1 q2;clear p0 p1 p2 q0 q1 q2 hx bE qb;have Hb:=hbz wr;obtain⟨ag,aC⟩:=qZ (Hu.an<|Hv.an<|Hx.an<|Hy.an trivial);go_wp2_with fail;refine dG 999 ag (dD 15 0x1d1b19171513110f0d0b0907050301) ?_;refine bU ?_;refine dF ag λaC=>?_;go_wp2;go_roundw;case rel=>exact⟨j+1,by omega,by go_num,fA.out.drew⟩
       case measure=>exact bH
     . obtain rfl:j=n:=by omega
       clear qb;have Hb:=hbz wr;obtain⟨ag,aC⟩:=qZ (Hu.an<|Hv.an trivial);have dO:=az bE;clear bE;go_wp2;go_roundw;case rel=>exact⟨k+1,by omega,by go_num,dO.out⟩
       case measure=>exact bH
  . obtain rfl:k=L:=by omega
    have aX:=az pb;go_wp2;refine bodyPost_ret (results_tmp rfl _ _ _) rfl ⟨rfl,aX.out⟩
end Go.Proofs.YtnjfebkelecgaaaGreatDoor
