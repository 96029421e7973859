/- ogeelaw24: num,numbers,far,vast,degrees. -/
import Derived.Test.YtbkopgdpcijfbaaGreatDoorZ7
import Derived.Test.YtbkopgdpcijfbaaGreatDoorZ20
import Derived.Test.YtbkopgdpcijfbaaGreatDoorZ24
set_option linter.all false
set_option maxRecDepth 100000
set_option maxHeartbeats 16000000
namespace Go.Proofs.YtbkopgdpcijfbaaGreatDoor
open Go.RowKit
attribute [local go_sem ↓] Go.wp_at_zero Go.wp_at_succ
def dJ (n:Nat):Dyadic:=Dyadic.ofIntWithPrec (n:Int) 0
def kC (n:Nat)(D:Dyadic)(hD:dJ n=D)(w:World)(hn:n<=1000000):
 Cv 44 #[af (n:Int)] w (bT D):=by
 have h1:=λW=>PE n W zo;have h2:=λW=>ayM false (nt n) 0 D (by unfold au;simp only[vB];exact hD) W (Nat.le_trans (oz (k:=4) zo) zd) zo;clear hD;generalize nt n=m at*;obtain⟨H1,H2⟩:=aK h1 h2;clear h1 h2;obtain⟨W,cE,ae,ak⟩:=il w 30 [ag false,.string ⟨#[]⟩,af 0];go_enter Tryz.func44,Tryz.ntmps44;go_wp2_with fail;refine aJ ae (H1.out _) λw1 ae ak=>?_;go_wp2_with fail;refine aJ ae (H2.out _) λw2 ae ak=>?_;go_wp2;refine dX (aV w2 (w.heap.size) 0 (bG D)) aX ?_;intro w9 hs0;have ae:=bU hs0 ae;simp only[bV,List.set]at ae;have ak:=qC ae;refine bodyPost_ret (v:=bT D) (by simp[results,Tryz.results44,go_sem,ak]) rfl ⟨rfl,ae.1.out⟩
def aw8 (ds:List Int)(n:Nat)(a a':Option Addr)(cap cap':Nat)(w:World)(hn:ds.length=n)(hl:n<=100000)(ha:At w a (om ds))(ha':At w a' (om ds)):
 Cv 45 #[.slice a n cap,.slice a' n cap'] w (ag true):=by
 obtain⟨Ha,yU,Hn⟩:=cw ha ha' hn;clear ha ha' hn;have Hb:=hbz w;go_enter Tryz.func45,Tryz.ntmps45;go_wp2_with fail;go_loopw[5] (λx wr=>∃k:Nat,k<=n/\x=af (k:Int)/\Bw w wr) (λx _=>n-(intOf x).toNat);case atStart=>exact⟨0,Nat.zero_le _,rfl,Hb.out⟩
 case round=>
  clear Hb;obtain⟨k,hk,rfl,pb⟩:=hrel;by_cases hlt:k<n
  . have hk2:k<ds.length:=by rw[Hn.out];exact hlt
    obtain⟨b3,o3,rfl,h3⟩:=(Ha.out.below pb).ig k hk2;obtain⟨b4,o4,rfl,h4⟩:=(yU.out.below pb).ig k hk2;have ix3:=Av n cap k (k:Int) (rfl:(some ⟨b3,o3,none⟩:Option Addr)=_) hlt rfl;have ix4:=Av n cap' k (k:Int) (rfl:(some ⟨b4,o4,none⟩:Option Addr)=_) hlt rfl;rw[Nat.mul_one]at ix3 ix4;obtain⟨d,hd⟩:=aB (ds.getD k 0);rw[hd]at h3 h4;have Hx:Hid (aZ wr b3 (o3+k) [af d]):=λj hj=>by
     obtain rfl:j=0:=by simp at hj;omega
     exact h3
    have Hy:Hid (aZ wr b4 (o4+k) [af d]):=λj hj=>by
     obtain rfl:j=0:=by simp at hj;omega
     exact h4
    have bo:=aj pb;clear h3 h4 pb hd;have Hb:=hbz wr;obtain⟨ae,ak⟩:=qZ (Hx.an<|Hy.an trivial);go_wp2_with fail;refine fT 999 ae (fH 9 0x110f0d0b0907050301) ?_;refine cG ?_;refine fR ae λak=>?_;go_wp2;go_roundw;case rel=>exact⟨k+1,by omega,by go_num,bo.out.drew⟩
    case measure=>exact bC
  . obtain rfl:k=n:=by omega
    have bo:=aj pb;clear pb;go_wp2;refine bodyPost_ret (results_tmp rfl _ _ _) rfl ⟨rfl,bo.out⟩
def okN (x:Raw):Prop:=x.2.1.length<=12/\ -60<=x.2.2/\x.2.2<=60
def WU {x:Raw}(h:okN x):Fit 192 x:=by obtain⟨h1,h2,h3⟩:=h;exact⟨⟨by omega,by omega,by omega⟩,Sm.raw (B:=96) zo zo zo⟩
def SI {α:Type}{aS:List α}{Q:α->Prop}{k:Nat}(hk:k<aS.length)(h:∀x∈aS.take k,Q x)(hx:Q aS[k]):∀x∈aS.take (k+1),Q x:=by
 intro x hm;rw[List.take_succ_eq_append_getElem hk,List.mem_append]at hm;rcases hm with hm|hm
 . exact h x hm
 . simp at hm;rw[hm];exact hx
def aoi (aS:List Raw)(e:Ending):Prop:=∃b,e=.returned (ag b)/\(b=false->∀x∈aS,okN x)
def Tx (c:List Raw)(n:Nat)(a:Option Addr)(cv:Nat)(w:World)(hn:c.length=n)(hl:n<=1099511627776)(ha:At w a (c.flatMap bu)):
 Cl 8 #[.slice a n cv] w λe w'=>aoi c e/\Bw w w':=by
 obtain⟨dL,Hn⟩:=aK ha hn;clear ha hn;go_enter Tryz.func8,Tryz.ntmps8;go_wp2_with fail;go_loopw[3] (λx wr=>∃j:Nat,j<=n/\x=af (j:Int)/\(∀y∈c.take j,okN y)/\Bw w wr) (λx _=>n-(intOf x).toNat);case atStart=>exact⟨0,Nat.zero_le _,rfl,(λy hy=>by simp at hy),Below.refl _ _⟩
 case round=>
  obtain⟨j,hj,rfl,hok,qb⟩:=hrel;by_cases bA:j<n
  . have wK:j<c.length:=by rw[Hn.out];exact bA
    obtain⟨s,m,e,hx⟩:=sk (c[j]);obtain⟨b1,o1,rfl,p0,p1,p2⟩:=(dL.out.below qb).num j wK hx;have pE:=mg n cv j (j:Int) (rfl:(some ⟨b1,o1,none⟩:Option Addr)=_) bA rfl;have hsz:(bs m).size=m.length:=jB m;obtain⟨uC,xH,qV⟩:=cw qb hok hx;clear qb hok hx;by_cases g:m.length<=12/\ -60<=e/\e<=60
    . obtain⟨g1,g2,g3⟩:=g;have g4:¬(12:Int)<(m.length:Int):=by omega
      have g5:¬e< -60:=by omega
      have g6:¬60<e:=by omega
      go_wp2;go_roundw;case rel=>exact⟨j+1,by omega,by go_num,SI wK xH.out (by rw[qV.out];exact⟨g1,g2,g3⟩),uC.out⟩
      case measure=>exact bC
    . rcases (show(12:Int)<(m.length:Int)\/(¬(12:Int)<(m.length:Int)/\e< -60)\/(¬(12:Int)<(m.length:Int)/\¬e< -60/\60<e)by omega)with g1|⟨g1,g2⟩ |⟨g1,g2,g3⟩;all_goals
       clear g
       go_wp2
       refine bodyPost_ret (results_tmp rfl _ _ _) rfl ⟨⟨true,rfl,λh=>by cases h⟩,uC.out⟩
  . obtain rfl:j=n:=by omega
    have hall:∀y∈c,okN y:=by have:=hok;rwa [<-Hn.out,List.take_length]at this
    obtain⟨sX,uC⟩:=aK hall qb;clear hok hall qb;go_wp2;refine bodyPost_ret (results_tmp rfl _ _ _) rfl ⟨⟨false,rfl,λ_=>sX.out⟩,uC.out⟩
end Go.Proofs.YtbkopgdpcijfbaaGreatDoor
