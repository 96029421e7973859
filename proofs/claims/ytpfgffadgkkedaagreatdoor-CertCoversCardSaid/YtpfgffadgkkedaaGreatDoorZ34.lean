/- Package simp: To,of whatever small arguments;what a polynomial is that Check lets by. -/
import Derived.Test.YtpfgffadgkkedaaGreatDoorZ13
import Derived.Test.YtpfgffadgkkedaaGreatDoorZ33
import Derived.Test.YtpfgffadgkkedaaGreatDoorZ27
import Derived.Test.YtpfgffadgkkedaaGreatDoorZ12
import Derived.Test.YtpfgffadgkkedaaGreatDoorZ7
import Derived.Test.YtpfgffadgkkedaaGreatDoorZ31
import Derived.Test.YtpfgffadgkkedaaGreatDoorZ20
import Derived.Test.YtpfgffadgkkedaaGreatDoorZ26
set_option linter.all false
set_option maxRecDepth 100000
set_option maxHeartbeats 16000000
namespace Go.Proofs.YtpfgffadgkkedaaGreatDoor
open Go.RowKit
end Go.Proofs.YtpfgffadgkkedaaGreatDoor
namespace Go.Proofs.YtpfgffadgkkedaaGreatDoor
open Go.RowKit
attribute [local go_sem ↓] Go.wp_at_zero Go.wp_at_succ
def anB (ts us:List Trm)(a a':Option Addr)(n n' cap cap':Nat)(F:Bool)(w:World)(hn:ts.length=n)(hn':us.length=n')(hl:n<=65536)(hl':n'<=65536)(ha:At w a (ts.flatMap aI))(ha':At w a' (us.flatMap aI))(hF:decide (ts=us)=F):
 Cv 237 #[.slice a n cap,.slice a' n' cap'] w (ag F):=by
 have nQ:Hid (ts≠us->F=false):=λh=>by rw[<-hF];exact decide_eq_false h
 have Ae:Hid ((∀j (h:j<ts.length) (h2:j<us.length),ts[j]=us[j])->n=n'->F=true):=λh h2=>by rw[<-hF];exact decide_eq_true (List.ext_getElem (hn.trans (h2.trans hn'.symm)) h)
 obtain⟨Ha,uu,Hn,zR⟩:=cG ha ha' hn hn';clear ha ha' hn hn' hF;have Hb:=hbz w;by_cases hnn:n=n'
 rotate_left
 . have hb1:((n:Int) !=(n':Int))=true:=by simp;omega
   obtain rfl:=nQ.out λh=>hnn (by rw[<-Hn.out,<-zR.out,h]);go_enter Tryz.func237,Tryz.ntmps237;go_wp2;refine bodyPost_ret (results_tmp rfl _ _ _) rfl ⟨rfl,Hb.out⟩
 subst hnn;go_enter Tryz.func237,Tryz.ntmps237;go_wp2_with fail;go_loopw[5,13] (λ_ x wr=>∃k:Nat,k<=n/\x=af (k:Int)/\(∀j (h:j<ts.length) (h2:j<us.length),j<k->ts[j]=us[j])/\Bw w wr) (λ_ x _=>n-(intOf x).toNat);case atStart=>exact⟨0,Nat.zero_le _,rfl,λj _ _ h=>absurd h (Nat.not_lt_zero _),Hb.out⟩
 case round=>
  clear Hb;obtain⟨k,hk,rfl,hall,pb⟩:=hrel;have fP:=aj hall;clear hall;by_cases hlt:k<n
  . have hk2:k<ts.length:=by rw[Hn.out];exact hlt
    have hk3:k<us.length:=by rw[zR.out];exact hlt
    obtain⟨l,s,m,e,hx⟩:∃l s m e,ts[k]=(l,s,m,e):=⟨_,_,_,_,rfl⟩;obtain⟨l2,s2,m2,e2,hy⟩:∃l s m e,us[k]=(l,s,m,e):=⟨_,_,_,_,rfl⟩;obtain⟨b,o,rfl,bY⟩:=(Ha.out.below pb).term k hk2 hx;obtain⟨b',o',rfl,wW⟩:=(uu.out.below pb).term k hk3 hy;have aX:=gX n cap k (k:Int) (rfl:(some ⟨b,o,none⟩:Option Addr)=_) hlt rfl;have aco:=gX n cap' k (k:Int) (rfl:(some ⟨b',o',none⟩:Option Addr)=_) hlt rfl;have Hx:Hid (aQ wr b (o+k*4) [ah l,ag s,ah m,af e]):=bY;have Hy:Hid (aQ wr b' (o'+k*4) [ah l2,ag s2,ah m2,af e2]):=wW;have aP:=aj pb;have sA:Hid ((l,s,m,e)=(l2,s2,m2,e2)->ts[k]=us[k]):=λh=>by rw[hx,hy];exact h
    have pJ:Hid ((l,s,m,e)≠(l2,s2,m2,e2)->F=false):=λh=>nQ.out λh2=>h (by subst h2;rw[<-hx,<-hy]);clear pb bY wW hx hy;have Hb:=hbz wr;obtain⟨ae,ai⟩:=qZ (Hx.an<|Hy.an trivial);by_cases hl:l=l2
    rotate_left
    . have hc1:((bs l).toList==(bs l2).toList)=false:=by rw[fY,fY];simpa using hl
      obtain rfl:=pJ.out λh=>hl (congrArg Prod.fst h);clear sA pJ hl;go_wp2_with fail;refine cQ 999 ae (cJ 9 0x110f0d0b0907050301) ?_;refine bo ?_;refine cP ae λai=>?_;go_wp2;refine bodyPost_ret (results_tmp rfl _ _ _) rfl ⟨rfl,aP.out.drew⟩
    by_cases hs:s=s2
    rotate_left
    . have hc1:(s==s2)=false:=by simpa using hs
      obtain rfl:=pJ.out λh=>hs (congrArg (λt=>t.2.1) h);clear sA pJ hs;subst hl;go_wp2_with fail;refine cQ 999 ae (cJ 9 0x110f0d0b0907050301) ?_;refine bo ?_;refine cP ae λai=>?_;go_wp2;refine bodyPost_ret (results_tmp rfl _ _ _) rfl ⟨rfl,aP.out.drew⟩
    by_cases hm:m=m2
    rotate_left
    . have hc1:((bs m).toList==(bs m2).toList)=false:=by rw[fY,fY];simpa using hm
      obtain rfl:=pJ.out λh=>hm (congrArg (λt=>t.2.2.1) h);clear sA pJ hm;subst hl hs;go_wp2_with fail;refine cQ 999 ae (cJ 9 0x110f0d0b0907050301) ?_;refine bo ?_;refine cP ae λai=>?_;go_wp2;refine bodyPost_ret (results_tmp rfl _ _ _) rfl ⟨rfl,aP.out.drew⟩
    by_cases he:e=e2
    rotate_left
    . have hc1:(e==e2)=false:=by simpa using he
      obtain rfl:=pJ.out λh=>he (congrArg (λt=>t.2.2.2) h);clear sA pJ he;subst hl hs hm;go_wp2_with fail;refine cQ 999 ae (cJ 9 0x110f0d0b0907050301) ?_;refine bo ?_;refine cP ae λai=>?_;go_wp2;refine bodyPost_ret (results_tmp rfl _ _ _) rfl ⟨rfl,aP.out.drew⟩
    subst hl hs hm he;have ah1:=aj (sA.out rfl);clear sA pJ;go_wp2_with fail;refine cQ 999 ae (cJ 9 0x110f0d0b0907050301) ?_;refine bo ?_;refine cP ae λai=>?_;go_wp2;go_roundw;case rel=>
     refine⟨k+1,by omega,by go_num,λj h h2 hj=>?_,aP.out.drew⟩;by_cases hjk:j=k
     . subst hjk;exact ah1.out
     . exact fP.out j h h2 zo
    case measure=>exact bi
  . obtain rfl:k=n:=by omega
    have aP:=aj pb;obtain rfl:=Ae.out (λj h h2=>fP.out j h h2 (by rw[Hn.out]at h;exact h)) (by trivial);go_wp2;refine bodyPost_ret (results_tmp rfl _ _ _) rfl ⟨rfl,aP.out⟩
def atG (V V2:Int)(ts us:List Trm)(n n':Nat)(a a':Option Addr)(cap cap':Nat)(F:Bool)(w:World)(hn:ts.length=n)(hn':us.length=n')(hl:n<=65536)(hl':n'<=65536)(ha:At w a (ts.flatMap aI))(ha':At w a' (us.flatMap aI))(hF:(decide (V=V2)&&decide (ts=us))=F):
 Cv 170 #[.agg #[af V,.slice a n cap],.agg #[af V2,.slice a' n' cap']] w (ag F):=by
 obtain⟨G,hG⟩:=au (decide (ts=us));have H1:=aj λW (hW:Bw w W)=>anB ts us a a' n n' cap cap' G W hn hn' hl hl' (ha.below hW) (ha'.below hW) hG;rw[hG]at hF;clear ha ha' hn hn' hl hl' hG;by_cases hV:V=V2
 . subst hV;rw[decide_eq_true rfl,Bool.true_and]at hF;subst hF;have Hb:=hbz w;go_enter Tryz.func170,Tryz.ntmps170;go_wp2_with fail;refine gP w (Hb.an trivial) 41 [af V,.slice a n cap] 41 [af V,.slice a' n' cap'] λW aG ae ai=>?_;go_wp2_with fail;refine aK ae (H1.out _ ae.2.2.1.out) λw1 ae ai=>?_;go_wp2;go_ret;exact⟨rfl,ae.2.2.1.out⟩
 . rw[decide_eq_false hV,Bool.false_and]at hF;subst hF;have hVb:(V==V2)=false:=by simpa using hV
   have Hb:=hbz w;obtain⟨W,cd,ae,ai⟩:=kF w 41 [af V,.slice a n cap] 41 [af V2,.slice a' n' cap'];go_enter Tryz.func170,Tryz.ntmps170;go_wp2;refine bodyPost_ret (results_tmp rfl _ _ _) rfl ⟨rfl,ae.1.out⟩
end Go.Proofs.YtpfgffadgkkedaaGreatDoor
