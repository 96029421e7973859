/- Small facts that many walks share: numbers in memory,windows,own rows. -/
import Derived.Test.YtpfgffadgkkedaaGreatDoorZ7
import Derived.Test.YtpfgffadgkkedaaGreatDoorZ9
import Derived.Test.YtpfgffadgkkedaaGreatDoorZ10
import Derived.Carry
import Derived.Maps.AppendAt
import Derived.Maps.OwnIn
import Derived.Maps.Own
import Derived.Maps.Views
import Derived.Maps.Keyed
import Derived.Maps.OwnSet
import Derived.Shelf.Abstract
import Derived.Shelf.RegionOpen
import Derived.OwnWalkIn
import Derived.TacticsInMore
import Derived.LoopNIn
import Derived.LoopIn
import Derived.Lib.BufferWrite
import Derived.Deep.WholeRow
import Derived.Test.YtpfgffadgkkedaaGreatDoorZ6
set_option linter.all false
set_option maxRecDepth 100000
set_option maxHeartbeats 16000000
namespace Go.Proofs.YtpfgffadgkkedaaGreatDoor
open Go.RowKit
attribute [local go_sem ↓] Go.wp_at_zero Go.wp_at_succ
def hp (k:Nat):Dyadic:=Dyadic.ofIntWithPrec 1 k
def ap6 (k:Nat):hp (k+1)+hp (k+1)=hp k:=by unfold hp;rw[vv];exact rT 1 1 k
def ap7 :hp 0=1:=rfl
def IC :hp 1+hp 1=1:=by rw[ap6 0,ap7]
def Nt (D:Dyadic)(k:Nat):dval (az (dN D),nt (dN D).natAbs,dE D+ -(k:Int))=D*hp k:=by
 have h:=bu D;unfold dval canon at h;unfold dval hp;simp only[fu]at h⊢;conv=>rhs;rw[<-h]
 rw[yX,Int.mul_one];congr 1;omega
def MD (k:Nat):Sm (k+1) (hp k):=by
 refine⟨2,?_,?_⟩
 . unfold hp;rw[<-rT 1 1 k];rfl
 . have:2^2<=2^(2* (k+1)):=Nat.pow_le_pow_right zd zo;omega
def Tryz.azX :(Tryz.prog.info? 45).map (λi=>(i.zero,i.size,i.bytes))=some (some (.agg #[ag false,.string (bs []),af 0]),3,32):=by kernel_rfl
def dC (ds:List Dyadic):List Value:=ds.flatMap λd=>aV (canon d)
def amB (ds:List Dyadic):(dC ds).length=ds.length*3:=iD _ 3 (λ_=>rfl) ds
def CU (a b:List Dyadic):dC (a++b)=dC a++dC b:=by unfold dC;rw[List.flatMap_append]
def UI {Y:Nat->Prop}{W W':World}{base:Nat}{e:TypeId}{size:Nat}{v:Value}{n:Nat}{xs:List Value}(h:W.ownsRow base e size v n xs)(hc:Chg Y W W')(hy:∀b,v.ownBlock=some b->¬Y b):W'.ownsRow base e size v n xs:=by
 refine⟨h.1,?_⟩;rcases h.2 with h1|⟨g,cap,cur,rfl,hb,hg,h2,h3,h4,h5⟩
 . exact .inl h1
 . exact .inr ⟨g,cap,cur,rfl,hb,(hc.block g (Array.getElem?_eq_some_iff.1 hg).1 (hy g rfl)).trans hg,h2,h3,h4,h5⟩
def cw {W:World}{base:Nat}{e:TypeId}{size:Nat}{v:Value}{n:Nat}{xs:List Value}(h:W.ownsRow base e size v n xs):∃a cap,v=.slice a n cap/\At W a xs/\∀b o,a=some ⟨b,o,none⟩->base<=b:=by
 rcases h.2 with⟨rfl,rfl⟩ |⟨g,cap,cur,rfl,hb,hg,h2,h3,h4,h5⟩
 . refine⟨none,0,rfl,.inl ?_,λb o e=>by cases e⟩;have:=h.1;simpa using this
 . refine⟨_,cap,rfl,.inr ⟨g,0,rfl,λj hj=>?_⟩,λb o e=>by cases e;exact hb⟩;have:=h.cells (g:=g) rfl j (xs[j]) (by simp[hj]);rw[Nat.zero_add];have e2:((⟨g,0,none⟩:Addr).add j)=⟨g,j,none⟩:=by simp[Addr.add];omega
   rw[e2]at this;rw[this];simp[hj]
def aQ (w:World)(b o:Nat)(cs:List Value):Prop:=∀j (h:j<cs.length),w.cell? ⟨b,o+j,none⟩=some cs[j]
def aQ.cell {w:World}{b o:Nat}{cs:List Value}(h:aQ w b o cs)(j:Nat)(hj:j<cs.length):w.cell? ⟨b,o+j,none⟩=some cs[j]:=h j hj
def aQ.w1 {w:World}{b o:Nat}{x0:Value}(h:aQ w b o [x0]):w.cell? ⟨b,o,none⟩=some x0:=h 0 zm
def aQ.w2 {w:World}{b o:Nat}{x0 x1:Value}(h:aQ w b o [x0,x1]):w.cell? ⟨b,o,none⟩=some x0/\w.cell? ⟨b,o+1,none⟩=some x1:=⟨h 0 zm,h 1 zm⟩
def aQ.w3 {w:World}{b o:Nat}{x0 x1 x2:Value}(h:aQ w b o [x0,x1,x2]):w.cell? ⟨b,o,none⟩=some x0/\w.cell? ⟨b,o+1,none⟩=some x1/\w.cell? ⟨b,o+2,none⟩=some x2:=⟨h 0 zm,h 1 zm,h 2 zm⟩
def aQ.w4 {w:World}{b o:Nat}{x0 x1 x2 x3:Value}(h:aQ w b o [x0,x1,x2,x3]):w.cell? ⟨b,o,none⟩=some x0/\w.cell? ⟨b,o+1,none⟩=some x1/\w.cell? ⟨b,o+2,none⟩=some x2/\w.cell? ⟨b,o+3,none⟩=some x3:=⟨h 0 zm,h 1 zm,h 2 zm,h 3 zm⟩
def aQ.below {w w':World}{b o:Nat}{cs:List Value}(h:aQ w b o cs)(hb:Bw w w'):aQ w' b o cs:=λj hj=>cell_later hb (h j hj)
instance {w :World} {b o:Nat} {cs:List Value}:QTr (aQ w b o cs) w (λW=>aQ W b o cs):=⟨λh _ k=>aQ.below h k⟩
instance {w :World} {b o:Nat} {x:Value} {l:List Value}:QLz (aQ w b o (x::l)) (b<w.heap.size):=⟨λh=>World.block_lt_of_cell? w _ (h 0 zm)⟩
instance {w :World} {b o:Nat} {x:Value}:QCe (aQ w b o [x]) (w.cell? ⟨b,o,none⟩=some x):=⟨λh=>h.w1⟩
instance {w :World} {b o:Nat} {x y:Value}:QCe (aQ w b o [x,y]) (w.cell? ⟨b,o,none⟩=some x/\w.cell? ⟨b,o+1,none⟩=some y):=⟨λh=>h.w2⟩
instance {w :World} {b o:Nat} {x y z:Value}:QCe (aQ w b o [x,y,z]) (w.cell? ⟨b,o,none⟩=some x/\w.cell? ⟨b,o+1,none⟩=some y/\w.cell? ⟨b,o+2,none⟩=some z):=⟨λh=>h.w3⟩
instance {w :World} {b o:Nat} {x y z u:Value}:QCe (aQ w b o [x,y,z,u]) (w.cell? ⟨b,o,none⟩=some x/\w.cell? ⟨b,o+1,none⟩=some y/\w.cell? ⟨b,o+2,none⟩=some z/\w.cell? ⟨b,o+3,none⟩=some u):=⟨λh=>h.w4⟩
instance {w :World} {b o:Nat} {x0 x1 x2 x3 x4:Value}:QCe (aQ w b o [x0,x1,x2,x3,x4]) (w.cell? ⟨b,o,none⟩=some x0/\w.cell? ⟨b,o+1,none⟩=some x1/\w.cell? ⟨b,o+2,none⟩=some x2/\w.cell? ⟨b,o+3,none⟩=some x3/\w.cell? ⟨b,o+4,none⟩=some x4):=⟨λh=>⟨h 0 zm,h 1 zm,h 2 zm,h 3 zm,h 4 zm⟩⟩
instance {w :World} {b o:Nat} {x0 x1 x2 x3 x4 x5:Value}:QCe (aQ w b o [x0,x1,x2,x3,x4,x5]) (w.cell? ⟨b,o,none⟩=some x0/\w.cell? ⟨b,o+1,none⟩=some x1/\w.cell? ⟨b,o+2,none⟩=some x2/\w.cell? ⟨b,o+3,none⟩=some x3/\w.cell? ⟨b,o+4,none⟩=some x4/\w.cell? ⟨b,o+5,none⟩=some x5):=⟨λh=>⟨h 0 zm,h 1 zm,h 2 zm,h 3 zm,h 4 zm,h 5 zm⟩⟩
instance {w :World} {b o:Nat} {x0 x1 x2 x3 x4 x5 x6:Value}:QCe (aQ w b o [x0,x1,x2,x3,x4,x5,x6]) (w.cell? ⟨b,o,none⟩=some x0/\w.cell? ⟨b,o+1,none⟩=some x1/\w.cell? ⟨b,o+2,none⟩=some x2/\w.cell? ⟨b,o+3,none⟩=some x3/\w.cell? ⟨b,o+4,none⟩=some x4/\w.cell? ⟨b,o+5,none⟩=some x5/\w.cell? ⟨b,o+6,none⟩=some x6):=⟨λh=>⟨h 0 zm,h 1 zm,h 2 zm,h 3 zm,h 4 zm,h 5 zm,h 6 zm⟩⟩
instance {w :World} {b o:Nat} {x0 x1 x2 x3 x4 x5 x6 x7:Value}:QCe (aQ w b o [x0,x1,x2,x3,x4,x5,x6,x7]) (w.cell? ⟨b,o,none⟩=some x0/\w.cell? ⟨b,o+1,none⟩=some x1/\w.cell? ⟨b,o+2,none⟩=some x2/\w.cell? ⟨b,o+3,none⟩=some x3/\w.cell? ⟨b,o+4,none⟩=some x4/\w.cell? ⟨b,o+5,none⟩=some x5/\w.cell? ⟨b,o+6,none⟩=some x6/\w.cell? ⟨b,o+7,none⟩=some x7):=⟨λh=>⟨h 0 zm,h 1 zm,h 2 zm,h 3 zm,h 4 zm,h 5 zm,h 6 zm,h 7 zm⟩⟩
def kW {w w':World}{b o:Nat}{cs:List Value}(h:Hid (aQ w b o cs))(k:Bw w w'):Hid (aQ w' b o cs):=h.out.below k
def aQ.azV {w:World}{b o:Nat}{cs:List Value}(h:aQ w b o cs)(a:Addr)(hne:b≠a.block)(u:Value):aQ (w.setCell a u) b o cs:=λj hj=>gG hne (h j hj)
def kSx {w w':World}{b c p o:Nat}{cs vs:List Value}(h:Hid (aQ w b c cs))(k:aN w p o vs w')(n:p≠b):Hid (aQ w' b c cs):=by
 have g:∀(vs:List Value) (o:Nat) (w:World),aQ w b c cs->aQ (um p o vs w) b c cs:=by
  intro vs;induction vs with
  |nil=>intro o w h;exact h
  |cons v vs ih=>intro o w h;exact ih _ _ (aQ.azV h ⟨p,o,none⟩ (λe=>n e.symm) v)
 rcases k with rfl|rfl
 . exact g vs o _ h.out
 . exact g vs o w.drew h.out
instance {w :World} {b c k o:Nat} {cs vs:List Value}:QSto (aQ w c k cs) w b o vs (λW=>aQ W c k cs) (b≠c):=⟨λh _ g n=>(kSx (aj h) g n).out⟩
def Zw (ds:List Dyadic)(i:Nat)(D:Dyadic):(((dC ds).set (i*3) (ag (az (dN D)))).set (i*3+1) (ah (nt (dN D).natAbs))).set (i*3+2) (af (dE D))=dC (ds.set i D):=by
 induction ds generalizing i with
 |nil=>simp[dC]
 | cons x ds ih=>
   have e:∀y:Dyadic,∀zs,dC (y::zs)=ag (az (dN y))::ah (nt (dN y).natAbs)::af (dE y)::dC zs:=λy zs=>rfl;cases i with
   |zero=>rw[e];rfl
   |succ i=>rw[List.set_cons_succ,e,e,<-ih i,show(i+1) *3=i*3+1+1+1 by omega];rfl
def yc (ds:List Dyadic):dC ds=(ds.map canon).flatMap aV:=by unfold dC;rw[List.flatMap_map]
def dI {P:Program}{fn:Func}{R:Ending->World->Prop}{e:Exit}{a:Act}{W:World}(S:World->Prop)(hS:S W)(h:∀W',S W'->bodyPost P fn R e a W'):bodyPost P fn R e a W:=h W hS
def ar.not_row {W:World}{B:Nat}{t e:TypeId}{cs:List Value}(h:ar W B t cs)(hte:t≠e){base size k:Nat}{v:Value}{xs:List Value}(hr:W.ownsRow base e size v k xs):some B≠v.ownBlock:=by
 rcases hr.2 with⟨rfl,_⟩ |⟨g,cap,cur,rfl,_,hgb,_⟩
 . simp[Value.ownBlock]
 . intro e';simp only[Value.ownBlock,Option.some.injEq]at e';subst e';have:=h.symm.trans hgb;simp at this;exact hte this.2
def ar.row {W W':World}{B:Nat}{t e:TypeId}{cs:List Value}(h:ar W B t cs)(hte:t≠e){base size k:Nat}{v:Value}{xs:List Value}(hr:W.ownsRow base e size v k xs)(hg:W.grownBy W' v.ownBlock):ar W' B t cs:=
 h.grown hg (h.not_row hte hr)
def ownsRow_below {W W':World}{base:Nat}{e:TypeId}{size:Nat}{v:Value}{n:Nat}{xs:List Value}(h:W.ownsRow base e size v n xs)(hb:Bw W W'):W'.ownsRow base e size v n xs:=by refine UI (Y:=λ_=>False) h (Chg.of_below hb) (λ_ _ h=>h)
def cE {W:World}{base:Nat}{e:TypeId}{size:Nat}{v:Value}{n:Nat}{xs:List Value}(h:W.ownsRow base e size v n xs):∀k,v.ownBlock=some k->base<=k:=λk hk=>(h.lt k hk).1
def iI {w:World}{b o:Nat}{x y z:Value}(h0:w.cell? ⟨b,o,none⟩=some x)(h1:w.cell? ⟨b,o+1,none⟩=some y)(h2:w.cell? ⟨b,o+2,none⟩=some z):aQ w b o [x,y,z]:=by
 intro j hj;rcases j with _|_|_|j
 . exact h0
 . exact h1
 . exact h2
 . simp at hj;omega
def fM {W:World}{b:Nat}{t:TypeId}{cs:List Value}(h:ar W b t cs):∀j u,cs[j]?=some u->W.cell? ((⟨b,0,none⟩:Addr).add j)=some u:=by
 intro j u hj;have e2:((⟨b,0,none⟩:Addr).add j)=⟨b,j,none⟩:=by simp[Addr.add];omega
 rw[e2,h.cell];exact hj
def At.num {W:World}{a:Option Addr}{dz:List Raw}(h:At W a (dz.flatMap aV))(k:Nat)(hk:k<dz.length){s:Bool}{m:List UInt8}{e:Int}(hx:dz[k]=(s,m,e)):
 ∃b o,a=some ⟨b,o,none⟩/\W.cell? ⟨b,o+k*3,none⟩=some (ag s)/\W.cell? ⟨b,o+k*3+1,none⟩=some (ah m)/\W.cell? ⟨b,o+k*3+2,none⟩=some (af e):=by
 obtain⟨b,o,ha,hc⟩:=h.elem (f:=aV) (sz:=3) (λ_=>rfl) zd k hk;rw[hx]at hc;exact⟨b,o,ha,by simpa[aV]using hc 0 zd,by simpa[aV]using hc 1 zd,by simpa[aV]using hc 2 zd⟩
def aao {B:Nat}{cs:List Dyadic}(h:∀c∈cs,Sm B c)(k:Nat):Sm B (cs.getD k 0):=by
 by_cases hk:k<cs.length
 . have:cs.getD k 0=cs[k]:=by simp[hk]
   rw[this];exact h _ (List.getElem_mem hk)
 . have:cs.getD k 0=0:=by simp[List.getD_eq_getElem?_getD,List.getElem?_eq_none (by omega:cs.length<=k)]
   rw[this];exact Sm.zero B
def idxFrom (p:Value->Bool):List Value->Nat->Int
 |[],_=>-1
 |v::l,k=>if p v then(k:Int)else idxFrom p l (k+1)
def TW (p:Value->Bool)(l:List Value)(k n:Nat)(h:n<l.length):idxFrom p (l.drop n) k=if p l[n]then(k:Int)else idxFrom p (l.drop (n+1)) (k+1):=by rw[List.drop_eq_getElem_cons h];rfl
def adM (p:Value->Bool)(l:List Value)(k:Nat):decide (0<=idxFrom p l k)=l.any p:=by
 induction l generalizing k with
 |nil=>rfl
 | cons v l ih=>
   unfold idxFrom;rw[List.any_cons];by_cases h:p v=true
   . rw[if_pos h,h,Bool.true_or];simp
   . rw[if_neg h,ih];simp[h]
def aqv (a:Option Addr)(n cap:Nat)(vals:List Value)(gf:Nat)(lb:Array Value)(p:Value->Bool)(w:World)(hn:vals.length=n)(hl:n<=1099511627776)(ha:At w a vals)
 (eg:∀args w,(callFunc gf args).run Tryz.prog w=.ok (.enter gf args) w)
 (hcl:∀v∈vals,∀W,Bw w W->Cl gf (#[v]++lb) W λe w'=>e=.returned (ag (p v))/\Bw W w'):
 Cv 244 #[.slice a n cap,.func (.func gf) #[] lb] w (af (idxFrom p vals 0)):=by
 obtain⟨Hn,Ha,fV,lL⟩:=cG hn ha hcl eg;clear hn ha hcl eg;have Hb:=hbz w;go_enter Tryz.func244,Tryz.ntmps244;go_wp2_with fail;go_loopw[5,8] (λ_ i wr=>∃k:Nat,k<=n/\i=af (k:Int)/\idxFrom p vals 0=idxFrom p (vals.drop k) k/\Bw w wr) (λ_ i _=>n-(intOf i).toNat);case atStart=>exact⟨0,Nat.zero_le _,rfl,rfl,Hb.out⟩
 case round=>
  clear Hb;obtain⟨k,hk,rfl,gV,pb⟩:=hrel;obtain⟨oI,Hb⟩:=aH gV pb;clear gV pb;by_cases hlt:k<n
  . have bB:k<vals.length:=by rw[Hn.out];exact hlt
    obtain⟨b,o,hab,hcs⟩:=(Ha.out.below Hb.out).get (by intro h;rw[h]at bB;simp at bB);obtain⟨v,hv⟩:=au (vals[k]);have hc0:wr.cell? ⟨b,o+k,none⟩=some v:=by rw[hcs k bB,List.getElem?_eq_getElem bB,hv]
    have aX:=ng n cap k (k:Int) hab hlt rfl;rw[Nat.mul_one]at aX;have hcall:=fV.out v (by rw[<-hv];exact List.getElem_mem bB) wr Hb.out;have hstep:=TW p vals k k bB;rw[hv,<-oI.out]at hstep;obtain⟨iz,kO⟩:=aH hstep hcall;have pG:=lL.out;clear hcs hab hv hstep hcall;go_wp2_with fail;refine kO.out.mono ?_;rintro e w1 ⟨rfl,hb1⟩;replace Hb:=aj (aF Hb.out hb1);clear hb1 hc0 aX pG;obtain⟨t,ht⟩:=au (p v);rw[ht]at iz⊢;clear ht;cases t with
    |true=>go_wp2;refine bodyPost_ret (results_tmp rfl _ _ _) rfl ⟨?_,Hb.out⟩;have h:=iz.out;rw[if_pos (by trivial)]at h;rw[h];rfl
    | false=>
      go_wp2;go_roundw;case rel=>exact⟨k+1,by omega,by go_num,by have h:=iz.out;rw[if_neg zd]at h;exact h,Hb.out⟩
      case measure=>exact bi
  . obtain rfl:k=n:=by omega
    go_wp2;refine bodyPost_ret (results_tmp rfl _ _ _) rfl ⟨?_,Hb.out⟩;have h:=oI.out;rw[List.drop_of_length_le (by rw[Hn.out];exact Nat.le_refl _)]at h;rw[h];rfl
def amj (a:Option Addr)(n cap:Nat)(vals:List Value)(gf:Nat)(lb:Array Value)(p:Value->Bool)(w:World)(hn:vals.length=n)(hl:n<=1099511627776)(ha:At w a vals)
 (eg:∀args w,(callFunc gf args).run Tryz.prog w=.ok (.enter gf args) w)
 (hcl:∀v∈vals,∀W,Bw w W->Cl gf (#[v]++lb) W λe w'=>e=.returned (ag (p v))/\Bw W w'):
 Cv 198 #[.slice a n cap,.func (.func gf) #[] lb] w (ag (vals.any p)):=by
 have h1:=aqv a n cap vals gf lb p w hn hl ha eg hcl;rw[<-adM p vals 0];generalize idxFrom p vals 0=i at*;have H1:=aj h1;clear h1 hcl eg ha hn;have Hb:=hbz w;go_enter Tryz.func198,Tryz.ntmps198;go_wp2_with fail;refine aK (Hb.an trivial) (H1.out) λw1 ae ai=>?_;have Hb:=ae.1;go_wp2;exact bodyPost_ret (v:=ag (decide (0<=i))) (by simp[results,Tryz.results198,go_sem,ai]) rfl ⟨rfl,cK⟩
def aqu (a:Option Addr)(n cap:Nat)(vals:List Value)(gf:Nat)(lb:Array Value)(p:Value->Bool)(w:World)(hn:vals.length=n)(hl:n<=1099511627776)(ha:At w a vals)
 (eg:∀args w,(callFunc gf args).run Tryz.prog w=.ok (.enter gf args) w)
 (hcl:∀v∈vals,∀W,Bw w W->Cl gf (#[v]++lb) W λe w'=>e=.returned (ag (p v))/\Bw W w'):
 Cv 279 #[.slice a n cap,.func (.func gf) #[] lb] w (af (idxFrom p vals 0)):=by
 obtain⟨Hn,Ha,fV,lL⟩:=cG hn ha hcl eg;clear hn ha hcl eg;have Hb:=hbz w;go_enter Tryz.func279,Tryz.ntmps279;go_wp2_with fail;go_loopw[5,8] (λ_ i wr=>∃k:Nat,k<=n/\i=af (k:Int)/\idxFrom p vals 0=idxFrom p (vals.drop k) k/\Bw w wr) (λ_ i _=>n-(intOf i).toNat);case atStart=>exact⟨0,Nat.zero_le _,rfl,rfl,Hb.out⟩
 case round=>
  clear Hb;obtain⟨k,hk,rfl,gV,pb⟩:=hrel;obtain⟨oI,Hb⟩:=aH gV pb;clear gV pb;by_cases hlt:k<n
  . have bB:k<vals.length:=by rw[Hn.out];exact hlt
    obtain⟨b,o,hab,hcs⟩:=(Ha.out.below Hb.out).get (by intro h;rw[h]at bB;simp at bB);obtain⟨v,hv⟩:=au (vals[k]);have hc0:wr.cell? ⟨b,o+k,none⟩=some v:=by rw[hcs k bB,List.getElem?_eq_getElem bB,hv]
    have aX:=Bo n cap k (k:Int) hab hlt rfl;rw[Nat.mul_one]at aX;have hcall:=fV.out v (by rw[<-hv];exact List.getElem_mem bB) wr Hb.out;have hstep:=TW p vals k k bB;rw[hv,<-oI.out]at hstep;obtain⟨iz,kO⟩:=aH hstep hcall;have pG:=lL.out;clear hcs hab hv hstep hcall;go_wp2_with fail;refine kO.out.mono ?_;rintro e w1 ⟨rfl,hb1⟩;replace Hb:=aj (aF Hb.out hb1);clear hb1 hc0 aX pG;obtain⟨t,ht⟩:=au (p v);rw[ht]at iz⊢;clear ht;cases t with
    |true=>go_wp2;refine bodyPost_ret (results_tmp rfl _ _ _) rfl ⟨?_,Hb.out⟩;have h:=iz.out;rw[if_pos (by trivial)]at h;rw[h];rfl
    | false=>
      go_wp2;go_roundw;case rel=>exact⟨k+1,by omega,by go_num,by have h:=iz.out;rw[if_neg zd]at h;exact h,Hb.out⟩
      case measure=>exact bi
  . obtain rfl:k=n:=by omega
    go_wp2;refine bodyPost_ret (results_tmp rfl _ _ _) rfl ⟨?_,Hb.out⟩;have h:=oI.out;rw[List.drop_of_length_le (by rw[Hn.out];exact Nat.le_refl _)]at h;rw[h];rfl
def ami (a:Option Addr)(n cap:Nat)(vals:List Value)(gf:Nat)(lb:Array Value)(p:Value->Bool)(w:World)(hn:vals.length=n)(hl:n<=1099511627776)(ha:At w a vals)
 (eg:∀args w,(callFunc gf args).run Tryz.prog w=.ok (.enter gf args) w)
 (hcl:∀v∈vals,∀W,Bw w W->Cl gf (#[v]++lb) W λe w'=>e=.returned (ag (p v))/\Bw W w'):
 Cv 245 #[.slice a n cap,.func (.func gf) #[] lb] w (ag (vals.any p)):=by
 have h1:=aqu a n cap vals gf lb p w hn hl ha eg hcl;rw[<-adM p vals 0];generalize idxFrom p vals 0=i at*;have H1:=aj h1;clear h1 hcl eg ha hn;have Hb:=hbz w;go_enter Tryz.func245,Tryz.ntmps245;go_wp2_with fail;refine aK (Hb.an trivial) (H1.out) λw1 ae ai=>?_;have Hb:=ae.1;go_wp2;exact bodyPost_ret (v:=ag (decide (0<=i))) (by simp[results,Tryz.results245,go_sem,ai]) rfl ⟨rfl,cK⟩
def aqt (a:Option Addr)(n cap:Nat)(vals:List Value)(gf:Nat)(lb:Array Value)(p:Value->Bool)(w:World)(hn:vals.length=n)(hl:n<=1099511627776)(ha:At w a vals)
 (eg:∀args w,(callFunc gf args).run Tryz.prog w=.ok (.enter gf args) w)
 (hcl:∀v∈vals,∀W,Bw w W->Cl gf (#[v]++lb) W λe w'=>e=.returned (ag (p v))/\Bw W w'):
 Cv 247 #[.slice a n cap,.func (.func gf) #[] lb] w (af (idxFrom p vals 0)):=by
 obtain⟨Hn,Ha,fV,lL⟩:=cG hn ha hcl eg;clear hn ha hcl eg;have Hb:=hbz w;go_enter Tryz.func247,Tryz.ntmps247;go_wp2_with fail;go_loopw[5,8] (λ_ i wr=>∃k:Nat,k<=n/\i=af (k:Int)/\idxFrom p vals 0=idxFrom p (vals.drop k) k/\Bw w wr) (λ_ i _=>n-(intOf i).toNat);case atStart=>exact⟨0,Nat.zero_le _,rfl,rfl,Hb.out⟩
 case round=>
  clear Hb;obtain⟨k,hk,rfl,gV,pb⟩:=hrel;obtain⟨oI,Hb⟩:=aH gV pb;clear gV pb;by_cases hlt:k<n
  . have bB:k<vals.length:=by rw[Hn.out];exact hlt
    obtain⟨b,o,hab,hcs⟩:=(Ha.out.below Hb.out).get (by intro h;rw[h]at bB;simp at bB);obtain⟨v,hv⟩:=au (vals[k]);have hc0:wr.cell? ⟨b,o+k,none⟩=some v:=by rw[hcs k bB,List.getElem?_eq_getElem bB,hv]
    have aX:=DY n cap k (k:Int) hab hlt rfl;rw[Nat.mul_one]at aX;have hcall:=fV.out v (by rw[<-hv];exact List.getElem_mem bB) wr Hb.out;have hstep:=TW p vals k k bB;rw[hv,<-oI.out]at hstep;obtain⟨iz,kO⟩:=aH hstep hcall;have pG:=lL.out;clear hcs hab hv hstep hcall;go_wp2_with fail;refine kO.out.mono ?_;rintro e w1 ⟨rfl,hb1⟩;replace Hb:=aj (aF Hb.out hb1);clear hb1 hc0 aX pG;obtain⟨t,ht⟩:=au (p v);rw[ht]at iz⊢;clear ht;cases t with
    |true=>go_wp2;refine bodyPost_ret (results_tmp rfl _ _ _) rfl ⟨?_,Hb.out⟩;have h:=iz.out;rw[if_pos (by trivial)]at h;rw[h];rfl
    | false=>
      go_wp2;go_roundw;case rel=>exact⟨k+1,by omega,by go_num,by have h:=iz.out;rw[if_neg zd]at h;exact h,Hb.out⟩
      case measure=>exact bi
  . obtain rfl:k=n:=by omega
    go_wp2;refine bodyPost_ret (results_tmp rfl _ _ _) rfl ⟨?_,Hb.out⟩;have h:=oI.out;rw[List.drop_of_length_le (by rw[Hn.out];exact Nat.le_refl _)]at h;rw[h];rfl
def Pt (w:World)(v:Value)(dz:List Raw):Prop:=∃a cap,v=.slice a dz.length cap/\At w a (dz.flatMap aV)
def Pt.below {w w':World}{v:Value}{dz:List Raw}(h:Pt w v dz)(hb:Bw w w'):Pt w' v dz:=
 let ⟨a,cap,hv,ha⟩:=h;⟨a,cap,hv,ha.below hb⟩
def Tbl (w:World)(a:Option Addr)(rows:List (List Raw)):Prop:=∃vals:List Value,vals.length=rows.length/\At w a vals/\∀i (h:i<rows.length) (h':i<vals.length),Pt w vals[i] rows[i]
def Tbl.below {w w':World}{a:Option Addr}{rows:List (List Raw)}(h:Tbl w a rows)(hb:Bw w w'):Tbl w' a rows:=
 let ⟨vals,hl,ha,hp⟩:=h;⟨vals,hl,ha.below hb,λi h1 h2=>(hp i h1 h2).below hb⟩
instance {w :World} {a:Option Addr} {rows:List (List Raw)}:QTr (Tbl w a rows) w (λW=>Tbl W a rows):=⟨λh _ k=>Tbl.below h k⟩
def Tbl.row {w:World}{a:Option Addr}{rows:List (List Raw)}(h:Tbl w a rows)(k:Nat)(hk:k<rows.length):
 ∃b o a' cap',a=some ⟨b,o,none⟩/\w.cell? ⟨b,o+k,none⟩=some (.slice a' rows[k].length cap')/\At w a' (rows[k].flatMap aV):=by
 obtain⟨vals,hl,ha,hp⟩:=h;have hk2:k<vals.length:=by rw[hl];exact hk
 obtain⟨b,o,hab,hcs⟩:=ha.get (by intro h0;rw[h0]at hk2;simp at hk2);obtain⟨a',cap',hv,hat⟩:=hp k hk hk2;exact⟨b,o,a',cap',hab,by rw[hcs k hk2,List.getElem?_eq_getElem hk2,hv],hat⟩
def yN :Value->Int
 | .slice _ n _=>n
 |_=>0
def BK (N:Int)(v:Value):Bool:=decide (yN v≠N)
def YK {w:World}{vals:List Value}{rows:List (List Raw)}(N:Int)(hl:vals.length=rows.length)(hp:∀i (h:i<rows.length) (h':i<vals.length),Pt w vals[i] rows[i]):
 vals.any (BK N)=rows.any λr=>decide ((r.length:Int)≠N):=by
 induction vals generalizing rows with
 |nil=>have:rows=[]:=List.length_eq_zero_iff.1 hl.symm;subst this;rfl
 | cons v vs ih=>
   match rows,hl with
   |r::rs,hl=>have h0:=hp 0 zm zm;obtain⟨a,cap,hv,_⟩:=h0;have hv':v=.slice a r.length cap:=hv;have:=ih (rows:=rs) (by simpa using hl) (λi h h'=>hp (i+1) zi zi);rw[List.any_cons,List.any_cons,this];subst hv';rfl
def awa (bn:Nat)(N:Int)(a:Option Addr)(n cap:Nat)(w:World)(hN:w.cell? ⟨bn,0,none⟩=some (af N)):
 Cv 197 #[.slice a n cap,.pointer (some ⟨bn,0,none⟩)] w (ag (BK N (.slice a n cap))):=by
 have Hb:=hbz w;go_enter Tryz.func197,Tryz.ntmps197;go_wp2;refine bodyPost_ret (results_tmp rfl _ _ _) rfl ⟨?_,Hb.out⟩;simp only[BK,yN];by_cases h:(n:Int)=N<;>simp[h]
def kI (rows:List (List Raw)):Int:=
 let n:Int:=rows.length-1
 if n<1\/8<n\/(rows.any λr=>decide ((r.length:Int)≠n))then 0 else n
def NG (a:Option Addr)(L cap:Nat)(rows:List (List Raw))(w:World)(hL:rows.length=L)(hl:L<=1099511627776)(ha:Tbl w a rows):
 Cv 115 #[.slice a L cap] w (af (kI rows)):=by
 obtain⟨vals,hvl,hat,hp⟩:=ha;have AC:=λN=>YK (w:=w) N hvl hp;have hcl:∀(bn:Nat) (W:World),W.cell? ⟨bn,0,none⟩=some (af ((L:Int)-1))->At W a vals->Cv 198 #[.slice a L cap,.func (.func 197) #[] #[.pointer (some ⟨bn,0,none⟩)]] W (ag (rows.any λr=>decide ((r.length:Int)≠(L:Int)-1))):=by intro bn W hc hA;rw[<-AC];refine amj a L cap vals 197 #[.pointer (some ⟨bn,0,none⟩)] (BK ((L:Int)-1)) W (by rw[hvl,hL]) hl hA (enters_of Tryz.func197 zk rfl) (λv hv W' hb=>?_);obtain⟨i,hi,rfl⟩:=List.mem_iff_getElem.1 hv;obtain⟨a',cap',e,_⟩:=hp i (by rw[<-hvl];exact hi) hi;rw[e];exact awa bn _ a' _ cap' W' (cell_later hb hc)
 have hv:kI rows=if(L:Int)-1<1\/8<(L:Int)-1\/(rows.any λr=>decide ((r.length:Int)≠(L:Int)-1))=true then 0 else(L:Int)-1:=by unfold kI;rw[hL]
 obtain⟨T,hT⟩:=au (rows.any λr=>decide ((r.length:Int)≠(L:Int)-1));rw[hT]at hv;simp only[hT]at hcl;obtain⟨fV,dV,Hv⟩:=bM hcl hat hv;obtain⟨V,hV⟩:=au (kI rows);rw[hV]at Hv⊢;clear hcl hat hv AC hvl hp hL hT hV;obtain⟨W,cd,ae,ai⟩:=fJ w 3 [af ((L:Int)-1)];go_enter Tryz.func115,Tryz.ntmps115;by_cases h1:(L:Int)-1<1
 . have hv:=Hv.out;rw[if_pos (.inl h1)]at hv;subst hv;have Hb:=ae.1;go_wp2;exact bodyPost_ret (v:=af 0) (by simp[results,Tryz.results115,go_sem,ai]) rfl ⟨rfl,cK⟩
 . by_cases h2:8<(L:Int)-1
   . have hv:=Hv.out;rw[if_pos (.inr (.inl h2))]at hv;subst hv;have Hb:=ae.1;go_wp2;exact bodyPost_ret (v:=af 0) (by simp[results,Tryz.results115,go_sem,ai]) rfl ⟨rfl,cK⟩
   . have n0:W.cell? ⟨w.heap.size,0,none⟩=some (af ((L:Int)-1)):=ae.2.1.out.cell 0;have kO:=aj (fV.out w.heap.size W n0 (dV.out.below ae.1.out));go_wp2_with fail;refine aK ae (kO.out) λw1 ae ai=>?_;cases T with
     |true=>have hv:=Hv.out;rw[if_pos (.inr (.inr rfl))]at hv;subst hv;have Hb:=ae.1;go_wp2;exact bodyPost_ret (v:=af 0) (by simp[results,Tryz.results115,go_sem,ai]) rfl ⟨rfl,cK⟩
     |false=>have hv:=Hv.out;rw[if_neg (by rintro(h|h|h);omega;omega;cases h)]at hv;subst hv;have Hb:=ae.1;go_wp2;exact bodyPost_ret (v:=af ((L:Int)-1)) (by simp[results,Tryz.results115,go_sem,ai]) rfl ⟨rfl,cK⟩
def arS (bn:Nat)(a0:Option Addr)(N c0:Nat)(a:Option Addr)(n cap:Nat)(w:World)(hN:w.cell? ⟨bn,0,none⟩=some (.slice a0 N c0)):
 Cv 246 #[.slice a n cap,.pointer (some ⟨bn,0,none⟩)] w (ag (BK (N:Int) (.slice a n cap))):=by
 have Hb:=hbz w;go_enter Tryz.func246,Tryz.ntmps246;go_wp2;refine bodyPost_ret (results_tmp rfl _ _ _) rfl ⟨?_,Hb.out⟩;simp only[BK,yN];by_cases h:(n:Int)=(N:Int)<;>simp[h]
def xg (rows:List (List Raw)):Int:=if 8<rows.length\/(rows.any λr=>decide ((r.length:Int)≠(rows.length:Int)))then 1 else 0
def Uo (a:Option Addr)(L cap:Nat)(rows:List (List Raw))(w:World)(hL:rows.length=L)(hl:L<=1099511627776)(ha:Tbl w a rows):
 Cv 199 #[.slice a L cap] w (af (xg rows)):=by
 obtain⟨vals,hvl,hat,hp⟩:=ha;have AC:=λN=>YK (w:=w) N hvl hp;have hcl:∀(bn:Nat) (W:World),W.cell? ⟨bn,0,none⟩=some (.slice a L cap)->At W a vals->Cv 245 #[.slice a L cap,.func (.func 246) #[] #[.pointer (some ⟨bn,0,none⟩)]] W (ag (rows.any λr=>decide ((r.length:Int)≠(L:Int)))):=by intro bn W hc hA;rw[<-AC];refine ami a L cap vals 246 #[.pointer (some ⟨bn,0,none⟩)] (BK (L:Int)) W (by rw[hvl,hL]) hl hA (enters_of Tryz.func246 zk rfl) (λv hv W' hb=>?_);obtain⟨i,hi,rfl⟩:=List.mem_iff_getElem.1 hv;obtain⟨a',cap',e,_⟩:=hp i (by rw[<-hvl];exact hi) hi;rw[e];exact arS bn a L cap a' _ cap' W' (cell_later hb hc)
 have hv:xg rows=if 8<L\/(rows.any λr=>decide ((r.length:Int)≠(L:Int)))=true then 1 else 0:=by unfold xg;rw[hL]
 obtain⟨T,hT⟩:=au (rows.any λr=>decide ((r.length:Int)≠(L:Int)));rw[hT]at hv;simp only[hT]at hcl;obtain⟨fV,dV,Hv⟩:=bM hcl hat hv;obtain⟨V,hV⟩:=au (xg rows);rw[hV]at Hv⊢;clear hcl hat hv AC hvl hp hL hT hV;obtain⟨W,cd,ae,ai⟩:=fJ w 153 [.slice a L cap];go_enter Tryz.func199,Tryz.ntmps199;by_cases h1:8<L
 . have hv:=Hv.out;rw[if_pos (.inl h1)]at hv;subst hv;have h2:(8:Int)<(L:Int):=by omega
   have Hb:=ae.1;go_wp2;exact bodyPost_ret (v:=af 1) (by simp[results,Tryz.results199,go_sem,ai]) rfl ⟨rfl,cK⟩
 . have h2:¬(8:Int)<(L:Int):=by omega
   have n0:W.cell? ⟨w.heap.size,0,none⟩=some (.slice a L cap):=ae.2.1.out.cell 0;have kO:=aj (fV.out w.heap.size W n0 (dV.out.below ae.1.out));go_wp2_with fail;refine aK ae (kO.out) λw1 ae ai=>?_;cases T with
   |true=>have hv:=Hv.out;rw[if_pos (.inr rfl)]at hv;subst hv;have Hb:=ae.1;go_wp2;exact bodyPost_ret (v:=af 1) (by simp[results,Tryz.results199,go_sem,ai]) rfl ⟨rfl,cK⟩
   |false=>have hv:=Hv.out;rw[if_neg (by rintro(h|h);omega;cases h)]at hv;subst hv;have Hb:=ae.1;go_wp2;exact bodyPost_ret (v:=af 0) (by simp[results,Tryz.results199,go_sem,ai]) rfl ⟨rfl,cK⟩
def JE {rows:List (List Raw)}{n:Int}(h:kI rows=n)(h0:n≠0):1<=n/\n<=8/\(rows.length:Int)=n+1/\∀r∈rows,(r.length:Int)=n:=by
 unfold kI at h;dsimp only at h;split at h
 . exact absurd h.symm h0
 . rename_i hc
   simp only[not_or,Bool.not_eq_true,List.any_eq_false,decide_eq_true_eq,Decidable.not_not]at hc;obtain⟨h1,h2,h3⟩:=hc;refine⟨by omega,by omega,by omega,λr hr=>?_⟩;have:=h3 r hr;omega
def JD {rows:List (List Raw)}{n:Nat}(h1:rows.length=n+1)(h2:∀r∈rows,r.length=n)(h3:1<=n)(h8:n<=8):kI rows=n:=by
 unfold kI;dsimp only;rw[if_neg]
 . omega
 . rintro(h|h|h)
   . omega
   . omega
   . rw[List.any_eq_true]at h;obtain⟨r,hr,h⟩:=h;have:=h2 r hr;simp[h1,this]at h
end Go.Proofs.YtpfgffadgkkedaaGreatDoor
namespace Go.Proofs.YtpfgffadgkkedaaGreatDoor
abbrev Pr:=Dyadic ×Dyadic
def aY (s:Raw×Raw):Pr:=(dval s.1,dval s.2)
def kG (p:Pr):Raw×Raw:=(canon p.1,canon p.2)
def ava (p:Pr):aY (kG p)=p:=by unfold aY kG;rw[bu,bu]
def eK (p:Pr):Pr:=if 0<bg (p.1-p.2)then(p.2,p.1)else p
def un (p:Pr):Dyadic:=(eK p).2-(eK p).1
def jA (p:Pr):Dyadic:=(p.1+p.2) *hp 1
def arT (p:Pr):jA (eK p)=jA p:=by
 unfold eK jA;split
 . show(p.2+p.1) *hp 1=_;rw[show p.2+p.1=p.1+p.2 by grind]
 . rfl
def UE {p:Pr}(h:bg (p.1-p.2)<0):eK p=p:=by unfold eK;rw[if_neg zo]
def iL (bx:List Pr):Int:=if bx=[]then 1 else if bx.any (λp=>decide (0<=bg (p.1-p.2)))then 5 else 0
def iB (f:Nat->Dyadic):Nat->Nat
 |0=>0
 |k+1=>if 0<bg (f k-f (iB f k))then k else iB f k
def Lu (X:Dyadic):0<bg X↔0<X:=by
 have h1:=pQ X;have h2:=QX X;constructor
 . intro h;have a1:¬X<0:=λhx=>by have:=h1.2 hx;omega
   have a2:X≠0:=λhx=>by have:=h2.2 hx;omega
   grind
 . intro h;have a1:¬bg X<0:=λhx=>by have:=h1.1 hx;grind
   have a2:bg X≠0:=λhx=>by have:=h2.1 hx;grind
   omega
def afI (a b:Dyadic):0<a-b↔b<a:=by grind
def YO (f:Nat->Dyadic)(L:Nat)(hL:1<=L):iB f L<L/\(∀k,k<L->¬f (iB f L)<f k)/\∀k,k<iB f L->f k<f (iB f L):=by
 induction L with
 |zero=>omega
 | succ L ih=>
   by_cases h0:L=0
   . subst h0;have e:iB f 1=0:=by unfold iB iB;simp
     rw[e]
     exact ⟨by omega, fun k hk => by have:k=0:=by omega
                                     subst this;grind,λk hk=>absurd hk zo⟩
   . obtain⟨i1,i2,i3⟩:=ih zo;show(if 0<bg (f L-f (iB f L))then L else iB f L)<L+1/\_
     have e:iB f (L+1)=if 0<bg (f L-f (iB f L))then L else iB f L:=rfl
     rw[e];by_cases h:0<bg (f L-f (iB f L))
     . rw[if_pos h];have h2:f (iB f L)<f L:=(afI _ _).1 ((Lu _).1 h);refine⟨by omega,λk hk=>?_,λk hk=>?_⟩
       . by_cases jx:k=L
         . subst jx;grind
         . have:=i2 k zo;grind
       . have:=i2 k zo;grind
     . rw[if_neg h];have h2:¬f (iB f L)<f L:=λh3=>h ((Lu _).2 ((afI _ _).2 h3));refine⟨by omega,λk hk=>?_,i3⟩;by_cases jx:k=L
       . subst jx;exact h2
       . exact i2 k zo
def jw (bx:List Pr)(a:Nat)(up:Bool):List Pr:=(bx.map eK).set a (if up then(jA (bx.getD a (0,0)),(eK (bx.getD a (0,0))).2)else((eK (bx.getD a (0,0))).1,jA (bx.getD a (0,0))))
def Mb (bx:List Pr)(a:Nat)(up:Bool):(jw bx a up).length=bx.length:=by simp[jw]
def qP (bx:List Pr):Nat:=iB (λi=>un (bx.getD i (0,0))) bx.length
def vX (B:Nat)(bx:List Pr):Prop:=∀p∈bx,Sm B p.1/\Sm B p.2
def qK {B:Nat}{p:Pr}(h:Sm B p.1/\Sm B p.2):Sm B (eK p).1/\Sm B (eK p).2:=by
 unfold eK;split
 . exact⟨h.2,h.1⟩
 . exact h
def aet {B:Nat}{p:Pr}(h:Sm B p.1/\Sm B p.2):Sm (B+3) (jA p):=(Sm.mul (Sm.add h.1 h.2) (MD 1)).mono zo
def agl {B:Nat}{p:Pr}(h:Sm B p.1/\Sm B p.2):Sm (B+1) (un p):=Sm.sub (qK h).2 (qK h).1
def vX.mono {B B':Nat}{bx:List Pr}(h:vX B bx)(hb:B<=B'):vX B' bx:=λp hp=>⟨(h p hp).1.mono hb,(h p hp).2.mono hb⟩
def vX.get {B:Nat}{bx:List Pr}(h:vX B bx)(a:Nat):Sm B (bx.getD a (0,0)).1/\Sm B (bx.getD a (0,0)).2:=by
 by_cases ha:a<bx.length
 . have e:bx.getD a (0,0)=bx[a]:=by simp[ha]
   rw[e];exact h _ (List.getElem_mem ha)
 . have e:bx.getD a (0,0)=(0,0):=by simp[List.getD_eq_getElem?_getD,List.getElem?_eq_none (by omega:bx.length<=a)]
   rw[e];exact⟨Sm.zero _,Sm.zero _⟩
def ao8 {B:Nat}{bx:List Pr}(h:vX B bx)(a:Nat)(up:Bool):vX (B+3) (jw bx a up):=by
 intro p hp;rcases List.mem_or_eq_of_mem_set hp with h1|h1
 . obtain⟨q,hq,rfl⟩:=List.mem_map.1 h1;exact⟨(qK (h q hq)).1.mono zo,(qK (h q hq)).2.mono zo⟩
 . have h2:=h.get a;subst h1;cases up
   . exact⟨(qK h2).1.mono zo,aet h2⟩
   . exact⟨aet h2,(qK h2).2.mono zo⟩
end Go.Proofs.YtpfgffadgkkedaaGreatDoor
namespace Go.Proofs.YtpfgffadgkkedaaGreatDoor
open Go.RowKit
abbrev Trm:=List UInt8×Raw
def aI (t:Trm):List Value:=[ah t.1,ag t.2.1,ah t.2.2.1,af t.2.2.2]
def At.term {w:World}{a:Option Addr}{ts:List Trm}(h:At w a (ts.flatMap aI))(k:Nat)(hk:k<ts.length){l:List UInt8}{s:Bool}{m:List UInt8}{e:Int}(hx:ts[k]=(l,s,m,e)):
 ∃b o,a=some ⟨b,o,none⟩/\aQ w b (o+k*4) [ah l,ag s,ah m,af e]:=by
 obtain⟨b,o,hab,hcs⟩:=h.elem (f:=aI) (sz:=4) (λ_=>rfl) zd k hk;refine⟨b,o,hab,λj hj=>?_⟩;have:=hcs j hj;rw[hx]at this;rw[this];unfold aI;rw[List.getElem?_eq_getElem (by simpa using hj)]
def yh (V:Int)(l:List UInt8)(x:Raw):Bool:=df l V&& !(bg (dval x)==0)&&(canon (dval x)==x)
def mU (V:Int)(ts:List Trm)(k:Nat):Bool:=yh V (ts.getD k default).1 (ts.getD k default).2&&(k==0||Op.bytesLess (bs (ts.getD (k-1) default).1).toList (bs (ts.getD k default).1).toList)
def iu (V:Int)(ts:List Trm):Int:=if ¬(0<=V/\V<=12)then 1 else if 4096<ts.length then 3 else if(List.range ts.length).all (mU V ts)then 0 else 1
end Go.Proofs.YtpfgffadgkkedaaGreatDoor
namespace Go.Proofs.YtpfgffadgkkedaaGreatDoor
open Go.RowKit
attribute [local go_sem ↓] Go.wp_at_zero Go.wp_at_succ
def xw (p q:List Dyadic):Nat->Dyadic
 |0=>0
 |k+1=>xw p q k+(p.getD k 0-q.getD k 0) * (p.getD k 0-q.getD k 0)
def afC {B:Nat}{p q:List Dyadic}(hp:∀c∈p,Sm B c)(hq:∀c∈q,Sm B c)(k:Nat):Sm (2*B+2+k) (xw p q k):=by
 induction k with
 |zero=>exact Sm.zero _
 |succ k ih=>have h1:=Sm.sub (aao hp k) (aao hq k);have h2:=Sm.mul h1 h1;exact Sm.add ih (h2.mono (show B+1+(B+1)<=2*B+2+k by omega))
def ave (a:Option Addr)(n cap:Nat)(P:List Raw)(a':Option Addr)(cap':Nat)(Q:List Raw)(B:Nat)(w:World)(hP:P.length=n)(hQ:Q.length=n)(hn:n<=8)(ha:At w a (P.flatMap aV))(ha':At w a' (Q.flatMap aV))
 (SE:∀x∈P,Fit B x) (SF:∀x∈Q,Fit B x) (hB:B<=10000000) (hT:aB w):
 Cv 278 #[.slice a n cap,.slice a' n cap'] w (bT (xw (P.map dval) (Q.map dval) n)):=by
 have hsP:∀c∈P.map dval,Sm B c:=λc hc=>by obtain⟨x,hx,rfl⟩:=List.mem_map.1 hc;exact(SE x hx).2
 have hsQ:∀c∈Q.map dval,Sm B c:=λc hc=>by obtain⟨x,hx,rfl⟩:=List.mem_map.1 hc;exact(SF x hx).2
 have yG:=λk=>afC hsP hsQ k;have hstep:∀k (h1:k<P.length) (h2:k<Q.length),xw (P.map dval) (Q.map dval) (k+1)=xw (P.map dval) (Q.map dval) k+(dval P[k]-dval Q[k]) * (dval P[k]-dval Q[k]):=λk h1 h2=>by
  have e1:(P.map dval).getD k 0=dval P[k]:=by simp[h1]
  have e2:(Q.map dval).getD k 0=dval Q[k]:=by simp[h2]
  rw[xw,e1,e2]
 have hs0:xw (P.map dval) (Q.map dval) 0=0:=rfl;obtain⟨F,hF⟩:=au (xw (P.map dval) (Q.map dval));rw[hF]at hs0⊢;simp only[hF]at yG hstep;obtain⟨HP,HQ,Ha,uu,OM,EU,HT,Hsq,iz,uC⟩:=Bt hP hQ ha ha' SE SF hT yG hstep hs0;clear hP hQ ha ha' SE SF hT yG hstep hs0 hF hsP hsQ;obtain⟨W,cd,ae,ai⟩:=kF w 45 [ag false,.string ⟨#[]⟩,af 0] 45 [ag false,.string ⟨#[]⟩,af 0];go_enter Tryz.func278,Tryz.ntmps278;go_wp2_with fail;first|refine eN (aN W (w.heap.size+1) 0 [ag false,.string ⟨#[]⟩,af 0]) aR ?_|refine eJ (aN W (w.heap.size+1) 0 [ag false,.string ⟨#[]⟩,af 0]) aR ?_
 intro w1 hs0;have ae:=bC hs0 ae;simp only[bD,List.set]at ae;have ai:=qC ae;have lr:=ae.2.1.out.lt;have ls:=ae.2.2.1.out.lt;go_wp2_with fail;go_loopw[11] (λi wr=>∃(k:Nat) (X:Dyadic),k<=n/\i=af (k:Int)/\F k=X/\ar wr w.heap.size 45 [ag false,.string ⟨#[]⟩,af 0]/\ar wr (w.heap.size+1) 45 (aV (canon X))/\Bw w wr) (λi _=>n-(intOf i).toNat);case atStart=>exact⟨0,0,Nat.zero_le _,rfl,uC.out,ae.2.1.out,ae.2.2.1.out,ae.1.out⟩
 case round=>
  skip
  obtain⟨k,X,hk,rfl,hX,pr,ps,pb⟩:=hrel;by_cases hlt:k<n
  . have k1:k<P.length:=by rw[HP.out];exact hlt
    have k2:k<Q.length:=by rw[HQ.out];exact hlt
    obtain⟨sp,mp,ep,iW⟩:=nY (P[k]);obtain⟨sq,mq,eq,rL⟩:=nY (Q[k]);have fp:=OM.out _ (List.getElem_mem k1);have pZ:=EU.out _ (List.getElem_mem k2);have hst:=iz.out k k1 k2;rw[iW]at fp hst;rw[rL]at pZ hst;obtain⟨D,hD⟩:=au (dval (sp,mp,ep)-dval (sq,mq,eq));obtain⟨E,hE⟩:=au (D*D);obtain⟨Y,hY⟩:=au (X+E);rw[hX,hD,hE,hY]at hst;have je:Sm (B+1) D:=by rw[<-hD];exact Sm.sub fp.2 pZ.2
    have hEs:Sm (2*B+2) E:=by rw[<-hE];exact(Sm.mul je je).mono zo
    have eY:Sm (2*B+2+k) X:=by rw[<-hX];exact Hsq.out k
    obtain⟨b1,o1,ey,p0,p1,p2⟩:=(Ha.out.below pb).num k k1 iW;obtain⟨b2,o2,iF,q0,q1,q2⟩:=(uu.out.below pb).num k k2 rL;have oX:=ot n cap k (k:Int) ey hlt rfl;have rH:=ot n cap' k (k:Int) iF hlt rfl;have Hp:Hid (aQ wr b1 (o1+k*3) [ag sp,ah mp,af ep]):=iI p0 p1 p2;have Hq:Hid (aQ wr b2 (o2+k*3) [ag sq,ah mq,af eq]):=iI q0 q1 q2;obtain⟨oH,Ck,HD,HE,HY,bN,HDs,HEs,JQ,Hr⟩:=Bt fp pZ hD hE hY hst je hEs eY pr;have Hs:Hid (ar wr (w.heap.size+1) 45 (bE X)):=ps;obtain⟨jC,dH⟩:=aH pb (HT.out.below pb);have szb:=pb.size;clear pr ps pb fp pZ hst hD hE hY je hEs eY p0 p1 p2 q0 q1 q2 iW rL hX ey iF;have Hb:=hbz wr;go_upto_region 5 with fail
    go_cut[7] (λs7 wx=>∃g:Nat,s7=.pointer (some ⟨g,0,none⟩)/\wr.heap.size<=g/\ar wx g 45 (bE D)/\Bw wr wx);case first=>
     have p0:wr.cell? ⟨b1,o1+k*3,none⟩=some (ag sp):=Hp.out.cell 0 zm;have p1:wr.cell? ⟨b1,o1+k*3+1,none⟩=some (ah mp):=Hp.out.cell 1 zm;have p2:wr.cell? ⟨b1,o1+k*3+2,none⟩=some (af ep):=Hp.out.cell 2 zm;have q0:wr.cell? ⟨b2,o2+k*3,none⟩=some (ag sq):=Hq.out.cell 0 zm;have q1:wr.cell? ⟨b2,o2+k*3+1,none⟩=some (ah mq):=Hq.out.cell 1 zm;have q2:wr.cell? ⟨b2,o2+k*3+2,none⟩=some (af eq):=Hq.out.cell 2 zm;obtain⟨ae,ai⟩:=qZ (Hp.an<|Hq.an trivial);obtain⟨Hp,Hq,_⟩:=ae;obtain⟨p0,p1,p2⟩:=Hp.out.w3;obtain⟨q0,q1,q2⟩:=Hq.out.w3;refine VY (λw'=>aJ w' b1 (o1+k*3) (ag sp)/\aJ w' b1 (o1+k*3+1) (ah mp)/\aJ w' b1 (o1+k*3+2) (af ep)/\aJ w' b2 (o2+k*3) (ag sq)/\aJ w' b2 (o2+k*3+1) (ah mq)/\aJ w' b2 (o2+k*3+2) (af eq)) (λi=>Nat.blt i 10) 8 9 [(9,false),(10,false)] [(8,false),(10,false)] [0,1,2,3,4,5,6,7] zk zk rfl rfl zk zc ⟨p0,p1,p2,q0,q1,q2⟩ ?_;iterate 8 (refine UV rfl rfl (v:=?_) (λw' hw'=>?_) ?_;rotate_left;(focus obtain⟨q0,q1,q2,q3,q4,q5⟩:=hw';go_simp;try with_reducible rfl))
     refine UR rfl rfl rfl rfl (λK hK=>?_) (λK hK=>?_)
     . go_simp;with_reducible refine(Ao sp mp ep sq mq eq D B HD.out _ oH.out Ck.out zo (by first|exact dH.out|exact aB.drew dH.out|exact aB.alloc dH.out _|exact aB.drew (aB.alloc dH.out _) |exact aB.alloc (aB.drew dH.out) _)).mono ?_
       rintro e w5 ⟨rfl,hq⟩;have dh:Bw wr w5:=cM hq;refine hK _ _ ⟨cell_later dh p0,cell_later dh p1,cell_later dh p2,cell_later dh q0,cell_later dh q1,cell_later dh q2⟩ ?_
       refine aO rfl rfl (λK hK=>?_);go_simp;refine hK _ _ (λ_=>⟨aM (cell_later dh p0),aM (cell_later dh p1),aM (cell_later dh p2),aM (cell_later dh q0),aM (cell_later dh q1),aM (cell_later dh q2)⟩) ?_
       refine aO rfl rfl (λK hK=>?_);go_simp;refine hK _ _ (λh=>absurd h zd) ?_;simp only[bH];go_wp2_with fail;go_meet;exact⟨w5.heap.size,rfl,dh.size,ar.new _ _ _,dh.alloc dh.size _⟩
     . go_simp;refine hK _ _ ⟨aM p0,aM p1,aM p2,aM q0,aM q1,aM q2⟩ ?_
       refine aO rfl rfl (λK hK=>?_);go_simp;with_reducible refine(Ao sp mp ep sq mq eq D B HD.out _ oH.out Ck.out zo (by first|exact dH.out|exact aB.drew dH.out|exact aB.alloc dH.out _|exact aB.drew (aB.alloc dH.out _) |exact aB.alloc (aB.drew dH.out) _)).mono ?_
       rintro e w5 ⟨rfl,hq⟩;have dh:Bw wr w5:=sP hq;have Hn:ar w5 wr.heap.size 45 [ag false,.string ⟨#[]⟩,af 0]:=ar.below (ar.new wr.drew 45 [ag false,.string ⟨#[]⟩,af 0]) hq;obtain⟨n0,mf,n1,mg,n2,mh⟩:=Hn.g3;refine hK _ _ (λ_=>⟨cell_later dh p0,cell_later dh p1,cell_later dh p2,cell_later dh q0,cell_later dh q1,cell_later dh q2⟩) ?_
       refine aO rfl rfl (λK hK=>?_);go_simp;refine hK _ _ (λh=>absurd h zd) ?_;simp only[bH];go_wp2_with fail;go_meet;exact⟨wr.heap.size,rfl,Nat.le_refl _,((Hn.set 0 _).set 1 _).set 2 _,((dh.sc wr.heap.size 0 (Nat.le_refl _) _).sc wr.heap.size 1 (Nat.le_refl _) _).sc wr.heap.size 2 (Nat.le_refl _) _⟩
    case rest=>
     obtain⟨g,rfl,hg,qd,qb⟩:=hcut;have Cj:Hid (Fit (B+1) (dx D)):=HDs.out.fit zo;have EY:Hid (Fit (2*B+10) (dx X)):=(JQ.out.mono zo).fit zo;have HfE:Hid (Fit (2*B+10) (dx E)):=(HEs.out.mono zo).fit zo;have HmE:Hid (dval (dx D) *dval (dx D)=E):=by show dval (canon D) *dval (canon D)=E;rw[bu];exact HE.out
     have HaY:Hid (dval (dx X)+dval (dx E)=Y):=by show dval (canon X)+dval (canon E)=Y;rw[bu,bu];exact HY.out
     have ls2:=Hs.out.lt;replace Hr:=aj (Hr.out.below qb);replace Hs:=aj (Hs.out.below qb);have Hd:=aj qd;replace dH:=aj (dH.out.below qb);clear Hb;have Hb:=aj (aF jC.out qb);have lg:=Hd.out.lt;clear qd qb;obtain⟨ae,ai⟩:=qZ (Hr.an<|Hs.an<|Hd.an trivial);have dH:Hid (aB wc):=dH.out;go_wp2_with fail;have ae:=Hb.an<|dH.an ae
     refine cQ 7 ae (cJ 8 0xe0c0a0806050301) ?_;refine bo ?_;refine nC 45 [ag (az (dN D)),ah (nt (dN D).natAbs),af (dE D),ag (az (dN D)),ah (nt (dN D).natAbs),af (dE D)] ae λw6 aG ae=>?_;refine bP ae (Am _ _ _ _ _ _ E (B+1) HmE.out _ 2 _ _ Cj.out Cj.out zo ae.1.out (qU ae.2.2.1.out)) λw7 ae=>?_;refine nC 45 [ag (az (dN X)),ah (nt (dN X).natAbs),af (dE X),ag (az (dN E)),ah (nt (dN E).natAbs),af (dE E)] ae λw8 aG ae=>?_;refine bP ae (yb _ _ _ _ _ _ Y (2*B+10) HaY.out _ 2 _ _ EY.out HfE.out zo ae.1.out (qU ae.2.2.2.1.out)) λw9 ae=>?_;have ai:=qC ae;refine qOp λK hK=>?_;go_simp;refine hK _ _ (λh=>absurd h zd) ?_
     refine cg (aN w9 (w.heap.size+1) 0 (bE Y)) aR ?_;intro jU hs0;have ae:=bC hs0 ae;simp only[bD,List.set]at ae;have ai:=qC ae;refine cP ae λai=>?_;go_wp2;go_roundw;case rel=>exact⟨k+1,Y,by omega,by go_num,bN.out,ae.2.2.2.2.1.out,ae.2.2.2.2.2.1.out,ae.2.2.1.out⟩
     case measure=>exact bi
  . obtain rfl:k=n:=by omega
    have Hr:=aj pr;have Hs:Hid (ar wr (w.heap.size+1) 45 (bE X)):=ps;obtain⟨HX,Hb⟩:=aH hX pb;clear pr ps pb hX;obtain⟨ae,ai⟩:=qZ (Hr.an<|Hs.an trivial);go_wp2;refine dI (aN wr (w.heap.size) 0 (bE X)) aR ?_;intro w9 hs0;have ae:=bC hs0 (Hb.an ae);simp only[bD,List.set]at ae;have ai:=qC ae;refine bodyPost_ret (v:=bT X) (by simp[results,Tryz.results278,go_sem,ai]) rfl ⟨by rw[HX.out],ae.1.out⟩
def gz (rows:List (List Raw))(n a b:Nat):Dyadic:=xw ((rows.getD a []).map dval) ((rows.getD b []).map dval) n
def Jc (sq:Nat->Nat->Dyadic)(a b:Nat)(s:Nat×Nat×Dyadic):Nat×Nat×Dyadic:=if 0<bg (sq a b-s.2.2)then(a,b,sq a b)else s
def Bu (sq:Nat->Nat->Dyadic)(a:Nat):Nat->Nat->Nat×Nat×Dyadic->Nat×Nat×Dyadic
 |0,_,s=>s
 |k+1,b,s=>Bu sq a k (b+1) (Jc sq a b s)
def xd (sq:Nat->Nat->Dyadic)(L:Nat):Nat->Nat->Nat×Nat×Dyadic->Nat×Nat×Dyadic
 |0,_,s=>s
 |k+1,a,s=>xd sq L k (a+1) (Bu sq a (L-(a+1)) (a+1) s)
def gZ (sq:Nat->Nat->Dyadic)(L:Nat):Nat×Nat×Dyadic:=xd sq L L 0 (0,1,sq 0 1)
def ars (sq:Nat->Nat->Dyadic)(Q:Nat×Nat×Dyadic->Prop)(L a k b:Nat)(s:Nat×Nat×Dyadic)(hs:Q s)(hab:a<b)(hb:b+k<=L)(h:∀a b,a<b->b<L->Q (a,b,sq a b)):Q (Bu sq a k b s):=by
 induction k generalizing b s with
 |zero=>exact hs
 | succ k ih=>
   unfold Bu;refine ih (b+1) _ ?_ zo zo;unfold Jc;split
   . exact h a b hab zo
   . exact hs
def arq (sq:Nat->Nat->Dyadic)(Q:Nat×Nat×Dyadic->Prop)(L k a:Nat)(s:Nat×Nat×Dyadic)(hs:Q s)(hb:a+k<=L)(h:∀a b,a<b->b<L->Q (a,b,sq a b)):Q (xd sq L k a s):=by
 induction k generalizing a s with
 |zero=>exact hs
 |succ k ih=>unfold xd;exact ih (a+1) _ (ars sq Q L a _ (a+1) s hs zo zo h) zo
def MX (sq:Nat->Nat->Dyadic)(L:Nat)(hL:2<=L):(gZ sq L).1<(gZ sq L).2.1/\(gZ sq L).2.1<L/\(gZ sq L).2.2=sq (gZ sq L).1 (gZ sq L).2.1:=
 arq sq (λs=>s.1<s.2.1/\s.2.1<L/\s.2.2=sq s.1 s.2.1) L L 0 (0,1,sq 0 1) ⟨Nat.zero_lt_one,hL,rfl⟩ zo (λa b h1 h2=>⟨h1,h2,rfl⟩)
abbrev Gd (s:Nat×Nat×Dyadic):List Value:=[af (s.1:Int),af (s.2.1:Int),ag (az (dN s.2.2)),ah (nt (dN s.2.2).natAbs),af (dE s.2.2)]
def At.drew {w:World}{a:Option Addr}{cs:List Value}(h:At w a cs):At w.drew a cs:=h
def At.alloc {w:World}{a:Option Addr}{cs:List Value}(h:At w a cs)(o:Obj):At (w.alloc o) a cs:=h.below zl
def avf (rows:List (List Raw))(n B x y:Nat)(a:Option Addr)(cap:Nat)(a':Option Addr)(cap':Nat)(D:Dyadic)(w:World)(hx:x<rows.length)(hy:y<rows.length)(hn:n<=8)(hrow:∀r∈rows,r.length=n)(hfit:∀r∈rows,∀c∈r,Fit B c)(hB:B<=10000000)
 (hD:gz rows n x y=D) (ha:At w a (rows[x].flatMap aV)) (ha':At w a' (rows[y].flatMap aV)) (hT:aB w):
 Cv 278 #[.slice a rows[x].length cap,.slice a' rows[y].length cap'] w (bT D):=by
 have h1:=hrow _ (List.getElem_mem hx);have h2:=hrow _ (List.getElem_mem hy);have e1:rows.getD x []=rows[x]:=by simp[hx]
 have e2:rows.getD y []=rows[y]:=by simp[hy]
 unfold gz at hD;rw[e1,e2]at hD;rw[h1,h2,<-hD];exact ave a n cap rows[x] a' cap' rows[y] B w h1 h2 hn ha ha' (hfit _ (List.getElem_mem hx)) (hfit _ (List.getElem_mem hy)) hB hT
def avd {rows:List (List Raw)}{n B:Nat}(hfit:∀r∈rows,∀c∈r,Fit B c)(x y:Nat):Sm (2*B+2+n) (gz rows n x y):=by
 have h:∀z,∀c∈(rows.getD z []).map dval,Sm B c:=λz c hc=>by
  obtain⟨u,hu,rfl⟩:=List.mem_map.1 hc;by_cases hz:z<rows.length
  . have e:rows.getD z []=rows[z]:=by simp[hz]
    rw[e]at hu;exact(hfit _ (List.getElem_mem hz) u hu).2
  . have e:rows.getD z []=[]:=by simp[List.getD_eq_getElem?_getD,List.getElem?_eq_none (by omega:rows.length<=z)]
    rw[e]at hu;cases hu
 exact afC (h x) (h y) n
def arw (a:Option Addr)(L cap n:Nat)(rows:List (List Raw))(B:Nat)(w:World)(hL:rows.length=L)(hL2:2<=L)(hL9:L<=9)(hn:n<=8)(hrow:∀r∈rows,r.length=n)(ha:Tbl w a rows)
 (hfit:∀r∈rows,∀c∈r,Fit B c) (hB:B<=10000000) (hT:aB w):
 Cv 238 #[.slice a L cap] w (.agg (Gd (gZ (gz rows n) L)).toArray):=by
 obtain⟨sq,yG⟩:=au (gz rows n);have hsm:∀x y,Sm (2*B+10) (sq x y):=λx y=>by rw[<-yG];exact(avd hfit x y).mono zo
 have hcall:∀x y (hx:x<rows.length) (hy:y<rows.length) (a1:Option Addr) (c1:Nat) (a2:Option Addr) (c2:Nat) (W:World),At W a1 (rows[x].flatMap aV)->At W a2 (rows[y].flatMap aV)->aB W->
  Cv 278 #[.slice a1 rows[x].length c1,.slice a2 rows[y].length c2] W (bT (sq x y)):=λx y hx hy a1 c1 a2 c2 W h1 h2 h3=>
  avf rows n B x y a1 c1 a2 c2 (sq x y) W hx hy hn hrow hfit hB (by rw[<-yG]) h1 h2 h3
 obtain⟨F,hF⟩:=au (gZ (gz rows n) L);rw[hF];rw[yG]at hF;obtain⟨HL,Ha,Kr,kO,HF,HT,lJ⟩:=iX hL ha hsm hcall hF hT hT;clear hL ha hsm hcall hF hT hfit hrow yG;obtain⟨X,hX⟩:=au (sq 0 1);have HX:=aj hX;clear hX;obtain⟨W,cd,ae,ai⟩:=fJ w 249 [af 0,af 0,ag false,.string ⟨#[]⟩,af 0];have HT:Hid (aB W):=HT.out.below ae.1.out;have HS:Hid (Tbl W a rows):=Ha.out.below ae.1.out;go_enter Tryz.func238,Tryz.ntmps238;have lr:=ae.2.1.out.lt;obtain⟨b0,o0,a1,c1,gQ,hc0,iG⟩:=HS.out.row 0 (by rw[HL.out];omega);obtain⟨jW,mG,a2,c2,ey,hc1,jf⟩:=HS.out.row 1 (by rw[HL.out];omega);obtain⟨rfl,rfl⟩:jW=b0/\mG=o0:=by rw[gQ]at ey;simp at ey;exact⟨ey.1.symm,ey.2.symm⟩
 clear ey;have i0:=ng L cap 0 0 gQ zo rfl;have i1:=ng L cap 1 1 gQ zo rfl;rw[Nat.mul_one]at i0 i1;rw[Nat.add_zero]at i0 hc0;have kM:=aj gQ;have ug:jW<W.heap.size:=World.block_lt_of_cell? W _ hc0;have wU:=λW'=>kO.out 0 1 (by rw[HL.out];omega) (by rw[HL.out];omega) a1 c1 a2 c2 W';rw[HX.out]at wU;obtain⟨n0,hn0⟩:=au ((rows[0]'(by rw[HL.out];omega)).length);obtain⟨n1,dK⟩:=au ((rows[1]'(by rw[HL.out];omega)).length);rw[hn0]at hc0;rw[dK]at hc1;simp only[hn0,dK]at wU;obtain⟨Ab,jo,oG⟩:=bM wU iG jf;have Hu:Hid (aQ W jW mG [.slice a1 n0 c1]):=λj hj=>by
  obtain rfl:j=0:=by simp at hj;omega
  exact hc0
 have Hv:Hid (aQ W jW (mG+1) [.slice a2 n1 c2]):=λj hj=>by
  obtain rfl:j=0:=by simp at hj;omega
  exact hc1
 clear wU iG jf gQ hn0 dK hc0 hc1;go_upto_region 1 with fail
 go_cut[3] (λs3 wx=>∃g:Nat,s3=.pointer (some ⟨g,0,none⟩)/\W.heap.size<=g/\ar wx g 249 (Gd (0,1,X))/\Bw W wx);case first=>
  have Hb:=ae.1;have Hr:=ae.2.1;obtain⟨ae,ai⟩:=qZ (Hu.an<|Hv.an trivial);have HT:Hid (aB W):=HT.out;obtain⟨Hu,Hv,_⟩:=ae;have u0:=Hu.out.w1;have v0:=Hv.out.w1;refine VY (λw'=>aJ w' jW mG (.slice a1 n0 c1)/\aJ w' jW (mG+1) (.slice a2 n1 c2)) (λi=>Nat.blt i 10) 7 9 [(8,true),(9,false),(10,false)] [(7,false),(8,true),(10,false)] [0,1,2,3,4,5,6] zk zk rfl rfl zk zc ⟨u0,v0⟩ ?_;iterate 7 (refine UV rfl rfl (v:=?_) (λw' hw'=>?_) ?_;rotate_left;(focus obtain⟨q0,q1⟩:=hw';go_simp;try with_reducible rfl))
  refine UR rfl rfl rfl rfl (λK hK=>?_) (λK hK=>?_)
  . go_simp;with_reducible refine(Ab.out _ (by first|exact jo.out|exact At.drew jo.out) (by first|exact oG.out|exact At.drew oG.out) (by first|exact HT.out|exact aB.drew HT.out|exact aB.alloc HT.out _|exact aB.drew (aB.alloc HT.out _) |exact aB.alloc (aB.drew HT.out) _)).mono ?_
    rintro e w5 ⟨rfl,hq⟩;have dh:Bw W w5:=cM hq;refine hK _ _ ⟨cell_later dh u0,cell_later dh v0⟩ ?_
    refine pT rfl rfl ?_
    refine aO rfl rfl (λK hK=>?_);go_simp;refine hK _ _ (λ_=>⟨aM (cell_later dh u0),aM (cell_later dh v0)⟩) ?_
    refine aO rfl rfl (λK hK=>?_);go_simp;refine hK _ _ (λh=>absurd h zd) ?_;simp only[bH];go_wp2_with fail;go_meet;exact⟨w5.heap.size,rfl,dh.size,ar.new _ _ _,dh.alloc dh.size _⟩
  . go_simp;refine hK _ _ ⟨aM u0,aM v0⟩ ?_
    refine aO rfl rfl (λK hK=>?_);go_simp;with_reducible refine(Ab.out (W.alloc (.cells #[af 0,af 0,ag false,.string ⟨#[]⟩,af 0] 249)).drew (jo.out.alloc _).drew (oG.out.alloc _).drew (by first|exact HT.out|exact aB.drew HT.out|exact aB.alloc HT.out _|exact aB.drew (aB.alloc HT.out _) |exact aB.alloc (aB.drew HT.out) _)).mono ?_
    rintro e w5 ⟨rfl,hq⟩;have dh:Bw W w5:=sP hq;have Hn:ar w5 W.heap.size 249 [af 0,af 0,ag false,.string ⟨#[]⟩,af 0]:=ar.below (ar.new W.drew 249 [af 0,af 0,ag false,.string ⟨#[]⟩,af 0]) hq;have n0':=Hn.cell 0;have BG:=Hn.cell 1;have BH:=Hn.cell 2;have n3':=Hn.cell 3;have n4':=Hn.cell 4;have mf:=Hn.free 0;have mg:=Hn.free 1;have mh:=Hn.free 2;have nZ:=Hn.free 3;have oc:=Hn.free 4;refine hK _ _ (λ_=>⟨cell_later dh u0,cell_later dh v0⟩) ?_
    refine pT rfl rfl ?_
    refine aO rfl rfl (λK hK=>?_);go_simp;refine hK _ _ (λh=>absurd h zd) ?_;simp only[bH];go_wp2_with fail;go_meet;exact⟨W.heap.size,rfl,Nat.le_refl _,((((Hn.set 0 _).set 1 _).set 2 _).set 3 _).set 4 _,((((dh.sc W.heap.size 0 (Nat.le_refl _) _).sc W.heap.size 1 (Nat.le_refl _) _).sc W.heap.size 2 (Nat.le_refl _) _).sc W.heap.size 3 (Nat.le_refl _) _).sc W.heap.size 4 (Nat.le_refl _) _⟩
 case rest=>
  obtain⟨g,rfl,hg,qd,qb⟩:=hcut;obtain⟨Hd,Hr,Hb⟩:=bM qd (ae.2.1.out.below qb) (aF ae.1.out qb);have lg:=Hd.out.lt;have lr2:=Hr.out.lt;have szW:=qb.size;clear qd qb i0 i1 Ab jo oG Hu Hv kM HS HT;have WQ:Hid (Sm (2*B+10) X):=by rw[<-HX.out];exact Kr.out 0 1
  have se:Hid (xd sq L (L-0) 0 (0,1,X)=F):=by rw[<-HX.out];exact HF.out
  go_wp2_with fail;go_loopw[18] (λx wr=>∃(k:Nat) (s:Nat×Nat×Dyadic),k<=L/\x=af (k:Int)/\xd sq L (L-k) k s=F/\Sm (2*B+10) s.2.2/\ar wr w.heap.size 249 [af 0,af 0,ag false,.string ⟨#[]⟩,af 0]/\ar wr g 249 (Gd s)/\Bw w wr) (λx _=>L-(intOf x).toNat);case atStart=>exact⟨0,(0,1,X),Nat.zero_le _,rfl,se.out,WQ.out,Hr.out,Hd.out,Hb.out⟩
  case round=>
   clear Hr Hd Hb se WQ;obtain⟨k,s,hk,rfl,hF,hs,pr,pd,pb⟩:=hrel;by_cases hlt:k<L
   . obtain⟨Hr,Hd,Hb,Hs⟩:=cG pr pd pb hs;have xB:Hid (xd sq L (L-(k+1)) (k+1) (Bu sq k (L-(k+1)) (k+1) s)=F):=by rw[show L-k=L-(k+1)+1 by omega]at hF;exact hF
     clear pr pd pb hs hF;go_wp2_with fail;go_loopw[5] (λx wr=>∃(b:Nat) (s:Nat×Nat×Dyadic),b<=L/\k<b/\x=af (b:Int)/\xd sq L (L-(k+1)) (k+1) (Bu sq k (L-b) b s)=F/\Sm (2*B+10) s.2.2/\ar wr w.heap.size 249 [af 0,af 0,ag false,.string ⟨#[]⟩,af 0]/\ar wr g 249 (Gd s)/\Bw w wr) (λx _=>L-(intOf x).toNat);case atStart=>exact⟨k+1,s,by omega,by omega,by go_num,xB.out,Hs.out,Hr.out,Hd.out,Hb.out⟩
     case round=>
      clear Hr Hd Hb xB Hs;obtain⟨b,s,hb1,hb2,rfl,hF,hs,pr,pd,pb⟩:=hrel;obtain⟨Hr,Hd,Hb,Hs,Wu⟩:=eD pr pd pb hs hF;clear pr pd pb hs hF;by_cases bB:b<L
      . obtain⟨b0,o0,a1,c1,gQ,hc0,iG⟩:=(Ha.out.below Hb.out).row k (by rw[HL.out];omega);obtain⟨jW,mG,a2,c2,ey,hc1,jf⟩:=(Ha.out.below Hb.out).row b (by rw[HL.out];omega);obtain⟨rfl,rfl⟩:jW=b0/\mG=o0:=by rw[gQ]at ey;simp at ey;exact⟨ey.1.symm,ey.2.symm⟩
        clear ey;have i0:=ng L cap k (k:Int) gQ hlt rfl;have i1:=ng L cap b (b:Int) gQ bB rfl;rw[Nat.mul_one]at i0 i1;have wU:=λW'=>kO.out k b (by rw[HL.out];omega) (by rw[HL.out];omega) a1 c1 a2 c2 W';obtain⟨Y,hY⟩:=au (sq k b);have tE:=Kr.out k b;rw[hY]at wU tE;obtain⟨n0,hn0⟩:=au ((rows[k]'(by rw[HL.out];omega)).length);obtain⟨n1,dK⟩:=au ((rows[b]'(by rw[HL.out];omega)).length);rw[hn0]at hc0;rw[dK]at hc1;simp only[hn0,dK]at wU;obtain⟨Ab,jo,oG,HY,WU,HT⟩:=fZ wU iG jf hY tE (lJ.out.below Hb.out);have Hu:Hid (aQ wr jW (mG+k) [.slice a1 n0 c1]):=λj hj=>by
         obtain rfl:j=0:=by simp at hj;omega
         exact hc0
        have Hv:Hid (aQ wr jW (mG+b) [.slice a2 n1 c2]):=λj hj=>by
         obtain rfl:j=0:=by simp at hj;omega
         exact hc1
        clear wU iG jf gQ hn0 dK hc0 hc1 hY tE;have ls1:=Hr.out.lt;have ls2:=Hd.out.lt;go_upto_region 8 with fail
        go_cut[6] (λs6 wx=>∃g':Nat,s6=.pointer (some ⟨g',0,none⟩)/\wr.heap.size<=g'/\ar wx g' 45 (bE Y)/\Bw wr wx);case first=>
         obtain⟨ae,ai⟩:=qZ (Hu.an<|Hv.an trivial);obtain⟨Hu,Hv,_⟩:=ae;have u0:=Hu.out.w1;have v0:=Hv.out.w1;refine VY (λw'=>aJ w' jW (mG+k) (.slice a1 n0 c1)/\aJ w' jW (mG+b) (.slice a2 n1 c2)) (λi=>Nat.blt i 10) 8 9 [(9,false),(10,false)] [(8,false),(10,false)] [0,1,2,3,4,5,6,7] zk zk rfl rfl zk zc ⟨u0,v0⟩ ?_;iterate 8 (refine UV rfl rfl (v:=?_) (λw' hw'=>?_) ?_;rotate_left;(focus obtain⟨q0,q1⟩:=hw';go_simp;try with_reducible rfl))
         refine UR rfl rfl rfl rfl (λK hK=>?_) (λK hK=>?_)
         . go_simp;with_reducible refine(Ab.out _ (by first|exact jo.out|exact At.drew jo.out) (by first|exact oG.out|exact At.drew oG.out) (by first|exact HT.out|exact aB.drew HT.out|exact aB.alloc HT.out _|exact aB.drew (aB.alloc HT.out _) |exact aB.alloc (aB.drew HT.out) _)).mono ?_
           rintro e w5 ⟨rfl,hq⟩;have dh:Bw wr w5:=cM hq;refine hK _ _ ⟨cell_later dh u0,cell_later dh v0⟩ ?_
           refine aO rfl rfl (λK hK=>?_);go_simp;refine hK _ _ (λ_=>⟨aM (cell_later dh u0),aM (cell_later dh v0)⟩) ?_
           refine aO rfl rfl (λK hK=>?_);go_simp;refine hK _ _ (λh=>absurd h zd) ?_;simp only[bH];go_wp2_with fail;go_meet;exact⟨w5.heap.size,rfl,dh.size,ar.new _ _ _,dh.alloc dh.size _⟩
         . go_simp;refine hK _ _ ⟨aM u0,aM v0⟩ ?_
           refine aO rfl rfl (λK hK=>?_);go_simp;with_reducible refine(Ab.out (wr.alloc (.cells #[ag false,.string ⟨#[]⟩,af 0] 45)).drew (jo.out.alloc _).drew (oG.out.alloc _).drew (by first|exact HT.out|exact aB.drew HT.out|exact aB.alloc HT.out _|exact aB.drew (aB.alloc HT.out _) |exact aB.alloc (aB.drew HT.out) _)).mono ?_
           rintro e w5 ⟨rfl,hq⟩;have dh:Bw wr w5:=sP hq;have Hn:ar w5 wr.heap.size 45 [ag false,.string ⟨#[]⟩,af 0]:=ar.below (ar.new wr.drew 45 [ag false,.string ⟨#[]⟩,af 0]) hq;obtain⟨n0',mf,BG,mg,BH,mh⟩:=Hn.g3;refine hK _ _ (λ_=>⟨cell_later dh u0,cell_later dh v0⟩) ?_
           refine aO rfl rfl (λK hK=>?_);go_simp;refine hK _ _ (λh=>absurd h zd) ?_;simp only[bH];go_wp2_with fail;go_meet;exact⟨wr.heap.size,rfl,Nat.le_refl _,((Hn.set 0 _).set 1 _).set 2 _,((dh.sc wr.heap.size 0 (Nat.le_refl _) _).sc wr.heap.size 1 (Nat.le_refl _) _).sc wr.heap.size 2 (Nat.le_refl _) _⟩
        case rest=>
         obtain⟨g',rfl,hg',qn,qb⟩:=hcut;have Hn:=aj qn;replace Hr:=aj (Hr.out.below qb);replace Hd:=aj (Hd.out.below qb);replace Hb:=aj (aF Hb.out qb);have xD:=aj (HT.out.below qb);clear qn qb Hu Hv jo oG Ab HT i0 i1;obtain⟨si,sj,sx⟩:=s;have HfY:Hid (Ok (dx Y)):=(WU.out.fit zo).1;have EW:Hid (Ok (dx sx)):=(Hs.out.fit zo).1;obtain⟨c,hc⟩:=au (bg (Y-sx));have HC:Hid (bg (dval (dx Y)-dval (dx sx))=c):=by
          show bg (dval (canon Y)-dval (canon sx))=c
          rw[bu,bu];exact hc
         have Wv:Hid (xd sq L (L-(k+1)) (k+1) (Bu sq k (L-(b+1)) (b+1) (Jc sq k b (si,sj,sx)))=F):=by have h:=Wu.out;rw[show L-b=L-(b+1)+1 by omega]at h;exact h
         have hstep:Jc sq k b (si,sj,sx)=if 0<c then(k,b,Y)else(si,sj,sx):=by
          unfold Jc;rw[HY.out];show(if 0<bg (Y-sx)then _ else _)=_
          rw[hc]
         have iz:=aj hstep;clear hc hstep;obtain⟨ae,ai⟩:=qZ (Hd.an<|Hn.an<|Hr.an trivial);go_wp2_with fail;refine aK (Hb.an ae) (Al _ _ _ _ _ _ c HC.out _ HfY.out EW.out xD.out) λw7 ae ai=>?_;by_cases hc0:0<c
         . go_wp2;go_roundw;case rel=>
            refine⟨b+1,(k,b,Y),by omega,by omega,by go_num,?_,WU.out,?_,?_,?_⟩
            . have h:=Wv.out;rw[iz.out,if_pos hc0]at h;exact h
            . exact((((ae.2.2.2.1.out.so g 0 zo _).so g 1 zo _).so g 2 zo _).so g 3 zo _).so g 4 zo _
            . exact((((ae.2.1.out.set 0 _).set 1 _).set 2 _).set 3 _).set 4 _
            . exact((((ae.1.out.sc g 0 zo _).sc g 1 zo _).sc g 2 zo _).sc g 3 zo _).sc g 4 zo _
           case measure=>exact bi
         . go_wp2;go_roundw;case rel=>refine⟨b+1,(si,sj,sx),by omega,by omega,by go_num,?_,Hs.out,ae.2.2.2.1.out,ae.2.1.out,ae.1.out⟩;have h:=Wv.out;rw[iz.out,if_neg zo]at h;exact h
           case measure=>exact bi
      . obtain rfl:b=L:=by omega
        go_wp2;go_roundw;case rel=>refine⟨k+1,s,by omega,by go_num,?_,Hs.out,Hr.out,Hd.out,Hb.out⟩;have h:=Wu.out;rw[Nat.sub_self]at h;exact h
        case measure=>exact bi
   . obtain rfl:k=L:=by omega
     rw[Nat.sub_self]at hF;have JM:Hid (s=F):=hF;obtain⟨si,sj,sx⟩:=s;obtain⟨Hr,Hd,Hb⟩:=bM pr pd pb;clear pr pd pb hF hs;obtain⟨ae,ai⟩:=qZ (Hd.an<|Hr.an trivial);go_wp2;refine dI (aN wr (w.heap.size) 0 [af (si:Int),af (sj:Int),ag (az (dN sx)),ah (nt (dN sx).natAbs),af (dE sx)]) aR ?_;intro w9 hs0;have ae:=bC hs0 (Hb.an ae);simp only[bD,List.set]at ae;have ai:=qC ae;refine bodyPost_ret (v:=.agg (Gd (si,sj,sx)).toArray) (by simp[results,Tryz.results238,go_sem,ai]) rfl ⟨by rw[<-JM.out],ae.1.out⟩
def Tryz.aAc :(Tryz.prog.info? 63).map (λi=>(i.zero,i.size,i.bytes))=some (some (.slice none 0 0),1,24):=by kernel_rfl
def rD (r:List Raw):List Raw:=r.map λx=>canon (dval x)
def LG (r:List Raw):(rD r).length=r.length:=by simp[rD]
def Rn (r:List Raw):(rD r).flatMap aV=dC (r.map dval):=by rw[yc,List.map_map];rfl
def Own2 (e:TypeId)(w:World)(base:Nat)(R:List (List Dyadic))(k:Nat)(v:Value):Prop:=
 ∃vals:List Value,vals.length=k/\w.ownsRow base e 1 v k vals/\∀i (h:i<vals.length),∃a c,vals[i]=.slice a (R.getD i []).length c/\At w a (dC (R.getD i []))/\∀b o,a=some ⟨b,o,none⟩->some b≠v.ownBlock/\b<w.heap.size
def Own2.nil (e:TypeId)(w:World)(base:Nat)(R:List (List Dyadic)):Own2 e w base R 0 (.slice none 0 0):=
 ⟨[],rfl,World.ownsRow_nil _ _ _ _,λ_ h=>absurd h (Nat.not_lt_zero _)⟩
def Own2.below {e:TypeId}{w w':World}{base k:Nat}{R:List (List Dyadic)}{v:Value}(h:Own2 e w base R k v)(hb:Bw w w'):Own2 e w' base R k v:=by obtain⟨vals,hl,ho,hi⟩:=h;refine⟨vals,hl,ownsRow_below ho hb,λi h=>?_⟩;obtain⟨a,c,h1,h2,h3⟩:=hi i h;exact⟨a,c,h1,h2.below hb,λb o e=>⟨(h3 b o e).1,Nat.lt_of_lt_of_le (h3 b o e).2 hb.size⟩⟩
def Own2.push {e:TypeId}{w w':World}{base k:Nat}{R:List (List Dyadic)}{v v':Value}{vals:List Value}(hl:vals.length=k)(hi:∀i (h:i<vals.length),∃a c,vals[i]=.slice a (R.getD i []).length c/\At w a (dC (R.getD i []))/\∀b o,a=some ⟨b,o,none⟩->some b≠v.ownBlock/\b<w.heap.size)
 {a:Option Addr} {c:Nat} (ha:At w a (dC (R.getD k []))) (hab:∀b o,a=some ⟨b,o,none⟩->some b≠v.ownBlock/\b<w.heap.size)
 (ho:w'.ownsRow base e 1 v' (k+1) (vals++[.slice a (R.getD k []).length c])) (hg:w.grownBy w' v.ownBlock) (fD:v'.ownBlock=v.ownBlock\/v'.ownBlock=some w.heap.size):Own2 e w' base R (k+1) v':=by
 have hne:∀b,some b≠v.ownBlock->b<w.heap.size->some b≠v'.ownBlock:=by
  intro b h1 h2;rcases fD with h|h
  . rw[h];exact h1
  . rw[h];intro h3;simp at h3;omega
 refine⟨_,by simp[hl],ho,λi h=>?_⟩;by_cases hk:i<vals.length
 . obtain⟨a1,c1,h1,h2,h3⟩:=hi i hk;refine⟨a1,c1,by rw[List.getElem_append_left hk];exact h1,h2.grown hg (λb o e=>(h3 b o e).1),λb o e=>⟨hne b (h3 b o e).1 (h3 b o e).2,Nat.lt_of_lt_of_le (h3 b o e).2 hg.size⟩⟩
 . have hik:i=k:=by simp at h;omega
   subst hik;refine⟨a,c,?_,ha.grown hg (λb o e=>(hab b o e).1),λb o e=>⟨hne b (hab b o e).1 (hab b o e).2,Nat.lt_of_lt_of_le (hab b o e).2 hg.size⟩⟩;rw[List.getElem_append_right zo];simp[hl]
def BM {W:World}{base:Nat}{e:TypeId}{size:Nat}{a:Option Addr}{n c:Nat}{xs:List Value}(h:W.ownsRow base e size (.slice a n c) n xs):n<=c:=by
 rcases h.2 with⟨h1,h2⟩ |⟨g,cap,cur,h1,_,_,h2,_⟩
 . omega
 . simp at h1;omega
def Own2.tbl {e:TypeId}{w:World}{base k:Nat}{R:List (List Raw)}{v:Value}(h:Own2 e w base (R.map λr=>r.map dval) k v)(hk:R.length=k):∃a c,v=.slice a k c/\k<=c/\Tbl w a (R.map rD):=by
 obtain⟨vals,hl,ho,hi⟩:=h;obtain⟨a,c,hv,hat,_⟩:=cw ho;subst hv;refine⟨a,c,rfl,BM ho,vals,by simp[hl,hk],hat,λi h1 h2=>?_⟩;obtain⟨a1,c1,e1,e2,_⟩:=hi i h2;have hi1:i<R.length:=by simpa using h1
 have eg:(R.map λr=>r.map dval).getD i []=R[i].map dval:=by simp[hi1]
 rw[eg]at e1 e2;refine⟨a1,c1,?_,?_⟩
 . rw[e1];simp[LG]
 . rw[List.getElem_map,Rn];exact e2
def arx (a:Option Addr)(L cap n:Nat)(rows:List (List Raw))(B:Nat)(w:World)(hL:rows.length=L)(hv:kI rows=n)(hn:1<=n)(ha:Tbl w a rows)
 (hfit:∀r∈rows,∀c∈r,Fit B c) (hB:B<=10000000) (hT:aB w):
 Cv 179 #[.slice a L cap] w (.tuple #[af ((gZ (gz rows n) L).1:Int),af ((gZ (gz rows n) L).2.1:Int),bT (gZ (gz rows n) L).2.2,af 0]):=by
 obtain⟨c1,c2,c3,c4⟩:=JE hv zo;have hvars:=λW=>λ(h:Tbl W a rows)=>NG a L cap rows W hL zo h;have AV:=λW=>λ(h:Tbl W a rows) (hT:aB W)=>arw a L cap n rows B W hL zo zo zo (λr hr=>by have:=c4 r hr;omega) h hfit hB hT;rw[hv]at hvars;obtain⟨⟨i,j,X⟩,hF⟩:∃F,gZ (gz rows n) L=F:=⟨_,rfl⟩;simp only[hF]at AV;rw[hF];obtain⟨ajU,Pd,Ha,HT⟩:=cG hvars AV ha hT;have h0:((n:Int)==0)=false:=by simp;omega
 have h0':¬(n:Int)=0:=by omega
 clear hvars AV ha hT hF hfit hv c1 c2 c3 c4 hL;obtain⟨W,cd,ae,ai⟩:=fJ w 45 [ag false,.string ⟨#[]⟩,af 0];go_enter Tryz.func179,Tryz.ntmps179;go_wp2_with fail;refine aK ae (ajU.out _ (Ha.out.below ae.1.out)) λw1 ae ai=>?_;go_wp2_with fail;refine aK ae (Pd.out _ (Ha.out.below ae.1.out) (HT.out.below ae.1.out)) λw2 ae ai=>?_;obtain⟨w3,ayd,aG,ae,ai⟩:=bO w2 ae 249 [af (i:Int),af (j:Int),ag (az (dN X)),ah (nt (dN X).natAbs),af (dE X)];go_wp2_with fail;refine cQ 10 ae (cJ 12 0x161413110f0d0b0907050301) ?_;refine bo ?_;have ai:=qC ae;refine qOp λK hK=>?_;go_simp;refine hK _ _ (λh=>absurd h zd) ?_
 refine cg (aN w3 (w.heap.size) 0 (bE X)) aR ?_;intro w4 hs0;have ae:=bC hs0 ae;simp only[bD,List.set]at ae;have ai:=qC ae;have ai:=qC ae;refine qOp λK hK=>?_;go_simp;refine hK _ _ (λh=>absurd h zd) ?_
 refine cP ae λai=>?_;have Hb:=ae.2.1;have r0:w4.cell? ⟨w.heap.size,0,none⟩=some (ag (az (dN X))):=ae.2.2.1.out.cell 0;have r1:w4.cell? ⟨w.heap.size,1,none⟩=some (ah (nt (dN X).natAbs)):=ae.2.2.1.out.cell 1;have r2:w4.cell? ⟨w.heap.size,2,none⟩=some (af (dE X)):=ae.2.2.1.out.cell 2;go_wp2;exact bodyPost_ret (v:=.tuple #[af (i:Int),af (j:Int),bT X,af 0]) (by simp[results,Tryz.results179,go_sem,r0,r1,r2,ai]) rfl ⟨rfl,cK⟩
def midD (p q:List Raw):List Dyadic:=List.zipWith (λx y=>(dval x+dval y) *hp 1) p q
def pz (p q:List Raw):List Raw:=(midD p q).map canon
def aev {p q:List Raw}(h:p.length=q.length):(midD p q).length=p.length:=by simp[midD,h]
def aex {p q:List Raw}(h:p.length=q.length):(pz p q).length=p.length:=by simp[pz,aev h]
def arU (p q:List Raw)(k:Nat)(h:k<p.length)(h':k<q.length):(midD p q).take (k+1)=(midD p q).take k++[(dval p[k]+dval q[k]) *hp 1]:=by unfold midD;rw[List.take_succ_eq_append_getElem zi];simp
def aew {B:Nat}{p q:List Raw}(hp':∀x∈p,Fit B x)(hq:∀x∈q,Fit B x)(hB:B<=10000000):∀x∈pz p q,Fit (B+3) x:=by
 intro x hx;unfold pz midD at hx;obtain⟨d,hd,rfl⟩:=List.mem_map.1 hx;obtain⟨i,hi,rfl⟩:=List.mem_iff_getElem.1 hd;have hi1:i<p.length/\i<q.length:=by simp at hi;omega
 rw[List.getElem_zipWith];have h1:=Sm.mul (Sm.add (hp' _ (List.getElem_mem hi1.1)).2 (hq _ (List.getElem_mem hi1.2)).2) (MD 1);exact(h1.mono (show B+1+(1+1)<=B+3 by omega)).fit zo
def Tryz.az7 :(Tryz.prog.info? 29).map (λi=>(i.zero,i.size,i.bytes))=some (some (.slice none 0 0),1,24):=by kernel_rfl
def jY (o p:List Raw):List Dyadic:=List.zipWith (λx y=>dval x-dval y) p o
def Lq {o p:List Raw}(h:p.length=o.length):(jY o p).length=p.length:=by simp[jY,h]
def amX (o p:List Raw)(k:Nat)(h:k<p.length)(h':k<o.length):(jY o p).take (k+1)=(jY o p).take k++[dval p[k]-dval o[k]]:=by unfold jY;rw[List.take_succ_eq_append_getElem zi];simp
def Own2.aAf {e:TypeId}{w:World}{base k:Nat}{R:List (List Dyadic)}{v:Value}(h:Own2 e w base R k v)(hk:R.length=k):∃a c,v=.slice a k c/\k<=c/\Tbl w a (R.map λr=>r.map canon):=by
 obtain⟨vals,hl,ho,hi⟩:=h;obtain⟨a,c,hv,hat,_⟩:=cw ho;subst hv;refine⟨a,c,rfl,BM ho,vals,by simp[hl,hk],hat,λi h1 h2=>?_⟩;obtain⟨a1,c1,e1,e2,_⟩:=hi i h2;have hi1:i<R.length:=by simpa using h1
 have eg:R.getD i []=R[i]:=by simp[hi1]
 rw[eg]at e1 e2;refine⟨a1,c1,?_,?_⟩
 . rw[e1];simp
 . rw[List.getElem_map,<-yc];exact e2
def afi (b o cap m n:Nat)(rows:List (List Raw))(B:Nat)(w:World)(hL:rows.length=m+1)(hm:m<=8)(hcap:m+1<=cap)(ol:1<=m)(hn:1<=n)(DC:n<=8)(hrow:∀r∈rows,r.length=n)(ha:Tbl w (some ⟨b,o,none⟩) rows)
 (hfit:∀r∈rows,∀c∈r,Fit B c) (hB:B<=10000000) (hT:aB w):
 Cl 117 #[.slice (some ⟨b,o,none⟩) (m+1) cap] w λe w'=>∃a' c',e=.returned (.slice a' m c')/\m<=c'/\
  Tbl w' a' (((rows.drop 1).map λp=>jY (rows.getD 0 []) p).map λr=>r.map canon)/\Bw w w':=by
 obtain⟨i0,hi,hz0,hz1,hz2⟩:=info_parts Tryz.azX;obtain⟨j0,hj,hy0,hy1,hy2⟩:=info_parts Tryz.az7;obtain⟨S,hS⟩:=au ((rows.drop 1).map λp=>jY (rows.getD 0 []) p);have hSL:S.length=m:=by rw[<-hS];simp[hL]
 have oP:∀k (h0:0<rows.length) (h1:k+1<rows.length),S.getD k []=jY rows[0] rows[k+1]:=by
  intro k h0 h1;subst hS;have e0:rows.getD 0 []=rows[0]:=by simp[h0]
  rw[e0];have h2:k<(rows.drop 1).length:=by simp;omega
  simp[h1]
 rw[hS];have hcell:=λ(W:World) (h:Tbl W (some ⟨b,o,none⟩) rows) (k:Nat) (hk:k<rows.length)=>h.row k hk;obtain⟨Hi,cu,bV,bX,Hj,kR,jF,kU,HSL,vK,Xe,HT⟩:=gL hi hz0 hz1 hz2 hj hy0 hy1 hy2 hSL oP hcell hT;obtain⟨Ha,sI,zN,HL⟩:=cG ha hrow hfit hL;clear hi hz0 hz1 hz2 hj hy0 hy1 hy2 hS hSL oP hcell ha hT hL hrow hfit;have e1:m+1-1=m:=by omega
 have e2:¬cap=1:=by omega
 go_enter Tryz.func117,Tryz.ntmps117;have Hb:=hbz w;go_wp2_with fail;obtain⟨r0,Bg⟩:=au (rows[0]'(by rw[HL.out];omega));obtain⟨_,_,a0,c0,gQ,hc0,iG⟩:=Xe.out w Ha.out 0 (by rw[HL.out];omega);obtain⟨rfl,rfl⟩:b=_/\o=_:=by simp at gQ;exact gQ
 have hn0:r0.length=n:=by rw[<-Bg];exact sI.out _ (List.getElem_mem _)
 have ko:∀x∈r0,Fit B x:=by rw[<-Bg];exact zN.out _ (List.getElem_mem _)
 have lf:∀k (h1:k+1<rows.length),S.getD k []=jY r0 rows[k+1]:=λk h1=>by rw[vK.out k zo h1,Bg]
 rw[Bg]at hc0 iG;rw[hn0]at hc0;rw[Nat.add_zero]at hc0;have DZ:=ng (m+1) cap 0 0 (show some (⟨b,o,none⟩:Addr)=some ⟨b,o,none⟩from rfl) zo rfl;rw[Nat.mul_one,Nat.add_zero]at DZ;obtain⟨ux,jo,zS,ET,HS0⟩:=eD hc0 iG hn0 ko lf;have ug:b<w.heap.size:=World.block_lt_of_cell? w _ hc0;clear hc0 iG hn0 ko lf Bg gQ Hb;go_loopw[3,11] (λs3 x wr=>∃(k:Nat) (v:Value),k<=m/\x=af (k:Int)/\v=s3/\Own2 29 wr w.heap.size S k v/\Bw w wr) (λ_ x _=>m-(intOf x).toNat);case atStart=>exact⟨0,_,Nat.zero_le _,rfl,rfl,Own2.nil _ _ _ _,Below.refl _ _⟩
 case round=>
  obtain⟨k,v,hk,rfl,rfl,pv,pb⟩:=hrel;by_cases hlt:k<m
  . have hk2:k+1<rows.length:=by rw[HL.out];omega
    obtain⟨p,mA⟩:=au (rows[k+1]);obtain⟨_,_,a1,c1,hab,hc1,hat⟩:=Xe.out wr (Ha.out.below pb) (k+1) hk2;obtain⟨rfl,rfl⟩:b=_/\o=_:=by simp at hab;exact hab
    have mz:p.length=n:=by rw[<-mA];exact sI.out _ (List.getElem_mem hk2)
    have jR:∀x∈p,Fit B x:=by rw[<-mA];exact zN.out _ (List.getElem_mem hk2)
    have wA:=HS0.out k hk2;rw[mA]at hc1 hat wA;rw[mz]at hc1;have oX:=ng m (cap-1) k (k:Int) (show some (⟨b,o+1,none⟩:Addr)=some ⟨b,o+1,none⟩from rfl) hlt rfl;rw[Nat.mul_one]at oX;have aps:wr.cell? ⟨b,o+1+k,none⟩=some (.slice a1 n c1):=by rw[show o+1+k=o+(k+1)by omega];exact hc1
    obtain⟨Z,hZ⟩:=au (jY r0 p);rw[hZ]at wA;obtain⟨dV,mN,uA,Ce,HZ,aP,ij⟩:=iX hat mz jR wA hZ pb pv;clear hat mz jR wA hZ pb pv hab mA hc1;have ic:=aP.out.size;obtain⟨wc,hwc⟩:∃wc,wc=wr:=⟨_,rfl⟩;subst hwc;go_wp2_with fail;go_loopw[6,17] (λs6 x wr=>∃(j:Nat) (v2:Value),j<=n/\x=af (j:Int)/\v2=s6/\wr.ownsRow wc.heap.size 45 3 v2 j (dC (Z.take j))/\Bw wc wr) (λ_ x _=>n-(intOf x).toNat);case atStart=>exact⟨0,_,Nat.zero_le _,rfl,rfl,World.ownsRow_nil _ _ _ _,Below.refl _ _⟩
    case round=>
     clear aps;obtain⟨j,v2,hj,rfl,rfl,ho,hb2⟩:=hrel;by_cases bB:j<n
     . have k1:j<p.length:=by rw[mN.out];exact bB
       have k2:j<r0.length:=by rw[zS.out];exact bB
       obtain⟨sp,mp,ep,iW⟩:=nY (p[j]);obtain⟨sq,mq,eq,rL⟩:=nY (r0[j]);have fp:=uA.out _ (List.getElem_mem k1);have pZ:=ET.out _ (List.getElem_mem k2);rw[iW]at fp;rw[rL]at pZ;obtain⟨X,hX⟩:=au (dval (sp,mp,ep)-dval (sq,mq,eq));have sJ:Hid (dC (Z.take (j+1))=dC (Z.take j)++(bE X)):=by
        show _=_
        rw[<-HZ.out,amX _ _ _ k1 k2,CU,iW,rL,hX];rfl
       have eP:=aF aP.out hb2;obtain⟨b1,o1,ey,p0,p1,p2⟩:=(dV.out.below hb2).num j k1 iW;obtain⟨b2,o2,iF,q0,q1,q2⟩:=(jo.out.below eP).num j k2 rL;have acs:=ot n c1 j (j:Int) ey bB rfl;have ays:=ot n c0 j (j:Int) iF bB rfl;have nj:b1<wc.heap.size:=(by subst ey;exact dV.out.lt (by intro h0;have:=congrArg List.length h0;rw[iD aV 3 (λ_=>rfl)]at this;simp at this;omega));have kz:b2<wc.heap.size:=Nat.lt_of_lt_of_le (by subst iF;exact jo.out.lt (by intro h0;have:=congrArg List.length h0;rw[iD aV 3 (λ_=>rfl)]at this;simp at this;omega)) ic;have lbc:b<wc.heap.size:=Nat.lt_of_lt_of_le ug ic;have Hu:Hid (aQ wr b o [.slice a0 n c0]):=λi hi=>by
        obtain rfl:i=0:=by simp at hi;omega
        exact cell_later eP ux.out
       have Hp:Hid (aQ wr b1 (o1+j*3) [ag sp,ah mp,af ep]):=iI p0 p1 p2;have Hq:Hid (aQ wr b2 (o2+j*3) [ag sq,ah mq,af eq]):=iI q0 q1 q2;obtain⟨oH,Ck,HX,Ho,zJ,dH⟩:=fZ fp pZ hX ho hb2 (HT.out.below eP);have Ep:=hb2.size;clear ho hb2 fp pZ hX iW rL ey iF p0 p1 p2 q0 q1 q2 eP;have Hb:=hbz wr;go_wp2_with fail;obtain⟨ae,ai⟩:=qZ (Hu.an<|Hp.an<|Hq.an trivial);obtain⟨Hu,Hp,Hq,_⟩:=ae;have u0:=Hu.out.w1;obtain⟨p0,p1,p2⟩:=Hp.out.w3;obtain⟨q0,q1,q2⟩:=Hq.out.w3;refine fx (λw'=>aJ w' b o (.slice a0 n c0)/\aJ w' b1 (o1+j*3) (ag sp)/\aJ w' b1 (o1+j*3+1) (ah mp)/\aJ w' b1 (o1+j*3+2) (af ep)/\aJ w' b2 (o2+j*3) (ag sq)/\aJ w' b2 (o2+j*3+1) (ah mq)/\aJ w' b2 (o2+j*3+2) (af eq)) (λi=>Nat.blt i 100000) [(0,true),(1,true),(2,true),(3,true),(4,true),(5,true),(6,true),(7,true),(8,true),(9,true),(10,true),(11,false),(12,false),(13,false),(14,true)] zk zk rfl zk zc ⟨u0,p0,p1,p2,q0,q1,q2⟩ ?_;iterate 11 (refine pT rfl rfl ?_ (by intro w' ⟨q0,q1,q2,q3,q4,q5,q6⟩;go_simp;try with_reducible rfl))
       refine aO rfl rfl (λK hK=>?_);go_simp;with_reducible refine(Ao sp mp ep sq mq eq X B HX.out _ oH.out Ck.out zo (by first|exact dH.out|exact aB.drew dH.out|exact aB.alloc dH.out _|exact aB.drew (aB.alloc dH.out _) |exact aB.alloc (aB.drew dH.out) _)).mono ?_
       rintro e w6 ⟨rfl,hq⟩;have ak:Bw wr w6:=by first|exact hq|exact cM hq
       replace Hu:=kW Hu ak;replace Hp:=kW Hp ak;replace Hq:=kW Hq ak;have u0:=Hu.out.w1;obtain⟨p0,p1,p2⟩:=Hp.out.w3;obtain⟨q0,q1,q2⟩:=Hq.out.w3;replace Hb:=bj Hb ak;refine hK _ _ (λ_=>⟨u0,p0,p1,p2,q0,q1,q2⟩) ?_
       refine aO rfl rfl (λK hK=>?_);go_simp;refine hK _ _ (λ_=>⟨aM u0,aM p0,aM p1,aM p2,aM q0,aM q1,aM q2⟩) ?_
       refine cg (λw7=>ar w7 (w6.heap.size) 45 (bE X)/\Bw w6 w7) (by first|exact iY|exact iZ) ?_;rintro w7 ⟨qc,ak⟩;replace Hu:=kW Hu ak;replace Hp:=kW Hp ak;replace Hq:=kW Hq ak;have Hc:=aj qc;clear qc;have u0:=Hu.out.w1;obtain⟨p0,p1,p2⟩:=Hp.out.w3;obtain⟨q0,q1,q2⟩:=Hq.out.w3;obtain⟨c0,c1,c2⟩:=Hc.out.c3;replace Hb:=bj Hb ak;refine aO rfl rfl (λK hK=>?_);have cf:=ownsRow_below Ho.out Hb.out;have jS:=Hb.out.size;refine wp_append_own _ _ _ 29 rfl wc.heap.size 45 i0 _ 3 32 Tryz.underlying29 Hi.out cu.out bV.out bX.out rfl zd v2 j (dC (Z.take j)) rfl cf ⟨w6.heap.size,0,none⟩ 1 1 (bE X) rfl rfl (fM Hc.out) zy zx zo zo ?_;intro v' w8 dO bA _;obtain⟨g',cq,rfl⟩:=ownsRow_succ dO;have nb:∀b,b<wc.heap.size->some b≠v2.ownBlock:=λb hb e=>by have:=cE cf b e.symm;omega
       refine hK _ _ (λ_=>⟨cW bA u0 (nb _ lbc),cW bA p0 (nb _ nj),cW bA p1 (nb _ nj),cW bA p2 (nb _ nj),cW bA q0 (nb _ kz),cW bA q1 (nb _ kz),cW bA q2 (nb _ kz)⟩) ?_
       refine pT rfl rfl ?_
       simp only[bH];go_wp2;go_roundw;case rel=>
        refine⟨j+1,_,by omega,by go_num,rfl,?_,?_⟩
        . rw[sJ.out];exact dO
        . exact(aF zJ.out Hb.out).grown bA zo (λj e=>cE cf j e)
       case measure=>exact bi
     . obtain rfl:j=n:=by omega
       have oQ:Z.take j=Z:=List.take_of_length_le (by rw[<-HZ.out,Lq (by rw[mN.out,zS.out]),mN.out];exact Nat.le_refl _);rw[oQ]at ho;obtain⟨a2,cap2,rfl,rG,iF⟩:=cw ho;have jg:=ho.lt;obtain⟨vals,hvl,hov,om⟩:=ij.out.below hb2;have Hb:=hbz wr;obtain⟨_,_,yD,_⟩:=ij.out;have hvs:=yD.lt;have hin:∀b o,a2=some ⟨b,o,none⟩->some b≠v.ownBlock/\b<wr.heap.size:=by intro b o e;subst e;have h1:=jg b rfl;refine⟨λh2=>?_,h1.2⟩;have h3:=hvs b h2.symm;omega
       obtain⟨mL,EL,sM,vT,cV,bW⟩:=fZ hin rG hvl om hov hb2;have Ju:=hb2.size;have xE:Hid (Z.length=j):=by show _=_;rw[<-HZ.out,Lq (by rw[mN.out,zS.out]),mN.out]
       clear hin rG hvl om hov yD hvs hb2 iF jg oQ ho bB hj;obtain⟨W6,pW,aG,ae,ai⟩:=bO wr (Hb.an trivial) 29 [.slice a2 j cap2];have cf:=ownsRow_below cV.out ae.2.1.out;have jS:=ae.2.1.out.size;have hnews:∀i u,([.slice a2 j cap2]:List Value)[i]?=some u->W6.cell? ((⟨wr.heap.size,0,none⟩:Addr).add i)=some u:=fM ae.1.out;skip
       go_wp2_with (at_builtin;refine wpList_append_own_at _ rfl _ _ 153 rfl w.heap.size 29 j0 _ 1 24 Tryz.underlying153 Hj.out kR.out jF.out kU.out rfl zd v k vals rfl cf ⟨wr.heap.size,0,none⟩ 1 1 [.slice a2 j cap2] rfl rfl hnews zy zx zo zo ?_;intro v' w7 dA eo _ fD;obtain⟨g',oL,rfl⟩:=ownsRow_succ dA);go_roundw;case rel=>
        refine⟨k+1,_,by omega,by go_num,rfl,?_,?_⟩
        . refine Own2.push (a:=a2) (c:=cap2) sM.out (w:=W6) ?_ ?_ ?_ ?_ eo fD
          . intro i h;obtain⟨a,c,h1,h2,h3⟩:=vT.out i h;exact⟨a,c,h1,h2.below ae.2.1.out,λb o e=>⟨(h3 b o e).1,Nat.lt_of_lt_of_le (h3 b o e).2 jS⟩⟩
          . rw[Ce.out];exact EL.out.below ae.2.1.out
          . exact λb o e=>⟨(mL.out b o e).1,Nat.lt_of_lt_of_le (mL.out b o e).2 jS⟩
          . rw[Ce.out,xE.out];exact dA
        . exact(aF (aF aP.out bW.out) ae.2.1.out).grown eo zo (λj e=>cE cf j e)
       case measure=>exact bi
  . obtain rfl:k=m:=by omega
    obtain⟨a2,c2,rfl,hcl,pk⟩:=Own2.aAf pv HSL.out;obtain⟨Cy,aP⟩:=aH pk pb;clear pv pb pk;go_wp2;refine bodyPost_ret (results_tmp rfl _ _ _) rfl ⟨a2,c2,rfl,hcl,Cy.out,aP.out⟩
end Go.Proofs.YtpfgffadgkkedaaGreatDoor
namespace Go.Proofs.YtpfgffadgkkedaaGreatDoor
def CM (a:List UInt8):Op.bytesLess a a=false:=by
 induction a with
 |nil=>rfl
 |cons x a ih=>simp[Op.bytesLess,ih]
def FT {a b c:List UInt8}(h:Op.bytesLess a b=true)(k:Op.bytesLess b c=true):Op.bytesLess a c=true:=by
 induction a generalizing b c with
 | nil=>
   cases c with
   |nil=>cases b<;>simp[Op.bytesLess]at k
   |cons z c=>simp[Op.bytesLess]
 | cons x a ih=>
   cases b with
   |nil=>simp[Op.bytesLess]at h
   | cons y b=>
     cases c with
     |nil=>simp[Op.bytesLess]at k
     | cons z c=>
       simp only[Op.bytesLess,Bool.or_eq_true,Bool.and_eq_true,decide_eq_true_eq,beq_iff_eq]at h k⊢;rcases h with h|⟨rfl,h⟩
       . rcases k with k|⟨rfl,k⟩
         . exact .inl (UInt8.lt_trans h k)
         . exact .inl h
       . rcases k with k|⟨rfl,k⟩
         . exact .inl k
         . exact .inr ⟨rfl,ih h k⟩
def CN {a b:List UInt8}(h:Op.bytesLess a b=false)(k:Op.bytesLess b a=false):a=b:=by
 induction a generalizing b with
 | nil=>cases b with
   |nil=>rfl
   |cons y b=>simp[Op.bytesLess]at h
 | cons x a ih=>cases b with
   |nil=>simp[Op.bytesLess]at k
   | cons y b=>
     simp only[Op.bytesLess,Bool.or_eq_false_iff,Bool.and_eq_false_iff,decide_eq_false_iff_not,beq_eq_false_iff_ne]at h k;have e:x=y:=by have h1:=UInt8.not_lt.1 h.1;have h2:=UInt8.not_lt.1 k.1;exact UInt8.le_antisymm h2 h1
     subst e;rw[ih (by rcases h.2 with h|h;exact absurd rfl h;exact h) (by rcases k.2 with h|h;exact absurd rfl h;exact h)]
def Nw (x y:Trm):Trm:=(x.1,canon (dval x.2+dval y.2))
def yS :Nat->List Trm->List Trm->List Trm
 |0,a,b=>a++b
 |_+1,[],b=>b
 |_+1,x::a,[]=>x::a
 |k+1,x::a,y::b=>if Op.bytesLess x.1 y.1 then x::yS k a (y::b)else if Op.bytesLess y.1 x.1 then y::yS k (x::a) b else Nw x y::yS k a b
def Ur (a b:List Trm)(j k:Nat)(hj:a.length+b.length<=j)(hk:a.length+b.length<=k):yS j a b=yS k a b:=by
 induction j generalizing k a b with
 |zero=>have ha:a=[]:=List.length_eq_zero_iff.1 zo;have hb:b=[]:=List.length_eq_zero_iff.1 zo;subst ha;subst hb;cases k<;>rfl
 | succ j ih=>
   cases k with
   |zero=>have ha:a=[]:=List.length_eq_zero_iff.1 zo;have hb:b=[]:=List.length_eq_zero_iff.1 zo;subst ha;subst hb;rfl
   | succ k=>
     cases a with
     |nil=>rfl
     | cons x a=>cases b with
       |nil=>rfl
       |cons y b=>simp only[List.length_cons]at hj hk;simp only[yS];rw[ih a (y::b) k zi zi,ih (x::a) b k zi zi,ih a b k zo zo]
def gw (a b:List Trm):List Trm:=yS (a.length+b.length) a b
def BC (b:List Trm):gw [] b=b:=by
 unfold gw;cases b with
 |nil=>rfl
 |cons y b=>rfl
def BD (a:List Trm):gw a []=a:=by
 unfold gw;cases a with
 |nil=>rfl
 |cons y b=>rfl
def xk (x y:Trm)(a b:List Trm):gw (x::a) (y::b)=if Op.bytesLess x.1 y.1 then x::gw a (y::b)else if Op.bytesLess y.1 x.1 then y::gw (x::a) b else Nw x y::gw a b:=by
 unfold gw;rw[show(x::a).length+(y::b).length=(a.length+b.length+1)+1 by simp;omega];simp only[yS]
 rw[Ur a (y::b) (a.length+b.length+1) (a.length+(y::b).length) zi zm,Ur (x::a) b (a.length+b.length+1) ((x::a).length+b.length) zi zm,
  Ur a b (a.length+b.length+1) (a.length+b.length) zo zo]
def aeD (a b:List Trm):(gw a b).length<=a.length+b.length:=by
 obtain⟨n,hn⟩:=au (a.length+b.length);induction n using Nat.strongRecOn generalizing a b with
 | _ n ih=>
   cases a with
   |nil=>rw[BC];simp
   | cons x a=>cases b with
     |nil=>rw[BD];simp
     | cons y b=>
       rw[xk];simp only[List.length_cons]at hn⊢;split
       . have:=ih _ (by simp only[List.length_cons];omega) a (y::b) rfl;simp only[List.length_cons]at this⊢;omega
       . split
         . have:=ih _ (by simp only[List.length_cons];omega) (x::a) b rfl;simp only[List.length_cons]at this⊢;omega
         . have:=ih _ zo a b rfl;simp only[List.length_cons]at this⊢;omega
def bR :List Trm->List UInt8->Dyadic
 |[],_=>0
 |x::l,m=>(if x.1=m then dval x.2 else 0)+bR l m
def Ai (a b:List Trm)(m:List UInt8):bR (a++b) m=bR a m+bR b m:=by
 induction a with
 |nil=>simp[bR]
 |cons x a ih=>simp only[List.cons_append,bR,ih];grind
def Zk (a b:List Trm)(m:List UInt8):bR (gw a b) m=bR a m+bR b m:=by
 obtain⟨n,hn⟩:=au (a.length+b.length);induction n using Nat.strongRecOn generalizing a b with
 | _ n ih=>
   cases a with
   |nil=>rw[BC];simp[bR]
   | cons x a=>cases b with
     |nil=>rw[BD];simp[bR]
     | cons y b=>
       rw[xk];simp only[List.length_cons]at hn;split
       . have:=ih _ (by simp only[List.length_cons];omega) a (y::b) rfl;simp only[bR]at this⊢;rw[this];grind
       . split
         . have:=ih _ (by simp only[List.length_cons];omega) (x::a) b rfl;simp only[bR]at this⊢;rw[this];grind
         . rename_i h1 h2
           have:=ih _ zo a b rfl;have e:x.1=y.1:=CN (by simpa using h1) (by simpa using h2);simp only[bR,Nw,bu]at this⊢;rw[this,e];split<;>grind
def Up (l:List Trm):Prop:=l.Pairwise λx y=>Op.bytesLess x.1 y.1=true
def Na (a b:List Trm):∀x∈gw a b,∃y∈a++b,y.1=x.1:=by
 obtain⟨n,hn⟩:=au (a.length+b.length);induction n using Nat.strongRecOn generalizing a b with
 | _ n ih=>
   intro z hz;cases a with
   |nil=>rw[BC]at hz;exact⟨z,by simp[hz],rfl⟩
   | cons x a=>cases b with
     |nil=>rw[BD]at hz;exact⟨z,by simpa using hz,rfl⟩
     | cons y b=>
       rw[xk]at hz;simp only[List.length_cons]at hn;split at hz
       . rcases List.mem_cons.1 hz with rfl|hz
         . exact⟨z,by simp,rfl⟩
         . obtain⟨u,hu,e⟩:=ih _ (by simp only[List.length_cons];omega) a (y::b) rfl z hz;exact⟨u,by simp at hu⊢;rcases hu with h|h|h<;>simp[h],e⟩
       . split at hz
         . rcases List.mem_cons.1 hz with rfl|hz
           . exact⟨z,by simp,rfl⟩
           . obtain⟨u,hu,e⟩:=ih _ (by simp only[List.length_cons];omega) (x::a) b rfl z hz;exact⟨u,by simp at hu⊢;rcases hu with h|h|h<;>simp[h],e⟩
         . rcases List.mem_cons.1 hz with rfl|hz
           . exact⟨x,by simp,rfl⟩
           . obtain⟨u,hu,e⟩:=ih _ zo a b rfl z hz;exact⟨u,by simp at hu⊢;rcases hu with h|h<;>simp[h],e⟩
def ar5 (a b:List Trm)(ha:Up a)(hb:Up b):Up (gw a b):=by
 obtain⟨n,hn⟩:=au (a.length+b.length);induction n using Nat.strongRecOn generalizing a b with
 | _ n ih=>
   cases a with
   |nil=>rw[BC];exact hb
   | cons x a=>cases b with
     |nil=>rw[BD];exact ha
     | cons y b=>
       rw[xk];simp only[List.length_cons]at hn;obtain⟨ha1,ha2⟩:=List.pairwise_cons.1 ha;obtain⟨hb1,hb2⟩:=List.pairwise_cons.1 hb;split
       . rename_i h
         refine List.pairwise_cons.2 ⟨λz hz=>?_,ih _ (by simp only[List.length_cons];omega) a (y::b) ha2 hb rfl⟩;obtain⟨u,hu,e⟩:=Na _ _ z hz;rw[<-e];rcases List.mem_append.1 hu with h2|h2
         . exact ha1 u h2
         . rcases List.mem_cons.1 h2 with rfl|h2
           . exact h
           . exact FT h (hb1 u h2)
       . split
         . rename_i h0 h
           refine List.pairwise_cons.2 ⟨λz hz=>?_,ih _ (by simp only[List.length_cons];omega) (x::a) b ha hb2 rfl⟩;obtain⟨u,hu,e⟩:=Na _ _ z hz;rw[<-e];rcases List.mem_append.1 hu with h2|h2
           . rcases List.mem_cons.1 h2 with rfl|h2
             . exact h
             . exact FT h (ha1 u h2)
           . exact hb1 u h2
         . rename_i h1 h2
           have e:x.1=y.1:=CN (by simpa using h1) (by simpa using h2);refine List.pairwise_cons.2 ⟨λz hz=>?_,ih _ zo a b ha2 hb2 rfl⟩;obtain⟨u,hu,e2⟩:=Na _ _ z hz;rw[<-e2];show Op.bytesLess x.1 u.1=true
           rcases List.mem_append.1 hu with h3|h3
           . exact ha1 u h3
           . rw[e];exact hb1 u h3
def vC :Nat->List Trm->List Trm
 |0,l=>l
 |k+1,l=>if l.length<2 then l else gw (vC k (l.take (l.length/2))) (vC k (l.drop (l.length/2)))
def afD (l:List Trm)(j k:Nat)(hj:l.length<=j)(hk:l.length<=k):vC j l=vC k l:=by
 induction j generalizing k l with
 |zero=>have h:l=[]:=List.length_eq_zero_iff.1 zo;subst h;cases k<;>simp[vC]
 | succ j ih=>
   cases k with
   |zero=>have h:l=[]:=List.length_eq_zero_iff.1 zo;subst h;simp[vC]
   | succ k=>
     simp only[vC];split
     . rfl
     . rw[ih (l.take (l.length/2)) k zi zi,ih (l.drop (l.length/2)) k zi zi]
def gA (l:List Trm):List Trm:=vC l.length l
def Nv (l:List Trm)(h:l.length<2):gA l=l:=by
 unfold gA;cases l with
 |nil=>rfl
 |cons x l=>simp only[List.length_cons,vC];rw[if_pos (by simpa using h)]
def VB (l:List Trm)(h:2<=l.length):gA l=gw (gA (l.take (l.length/2))) (gA (l.drop (l.length/2))):=by obtain⟨k,hk⟩:∃k,l.length=k+1:=⟨l.length-1,by omega⟩;unfold gA;rw[hk];simp only[vC];rw[if_neg zo,hk,afD (l.take ((k+1)/2)) k ((l.take ((k+1)/2)).length) zi (Nat.le_refl _),afD (l.drop ((k+1)/2)) k ((l.drop ((k+1)/2)).length) zi (Nat.le_refl _)]
def Jt {Q:List Trm->List Trm->Prop}(h0:∀l,l.length<2->Q l l)(h1:∀a b c d,Q a c->Q b d->Q (a++b) (gw c d))(l:List Trm):Q l (gA l):=by
 obtain⟨n,hn⟩:=au l.length;induction n using Nat.strongRecOn generalizing l with
 | _ n ih=>
   by_cases h:l.length<2
   . rw[Nv l h];exact h0 l h
   . rw[VB l zo];have:=h1 _ _ _ _ (ih (l.take (l.length/2)).length zi (l.take (l.length/2)) rfl) (ih (l.drop (l.length/2)).length zi (l.drop (l.length/2)) rfl);rwa [List.take_append_drop]at this
def amg (l:List Trm)(m:List UInt8):bR (gA l) m=bR l m:=
 Jt (Q:=λl r=>bR r m=bR l m) (λ_ _=>rfl) (λa b c d h1 h2=>by rw[Zk,Ai,h1,h2]) l
def avh (l:List Trm):Up (gA l):=
 Jt (Q:=λ_ r=>Up r) (λl h=>by
  cases l with
  |nil=>exact List.Pairwise.nil
  | cons x l=>cases l with
    |nil=>exact List.pairwise_singleton _ _
    |cons y l=>simp at h;omega) (λa b c d h1 h2=>ar5 c d h1 h2) l
def Nu (l:List Trm):(gA l).length<=l.length:=
 Jt (Q:=λl r=>r.length<=l.length) (λ_ _=>Nat.le_refl _) (λa b c d h1 h2=>by have:=aeD c d;simp;omega) l
def avg (l:List Trm):∀x∈gA l,∃y∈l,y.1=x.1:=
 Jt (Q:=λl r=>∀x∈r,∃y∈l,y.1=x.1) (λl _ x hx=>⟨x,hx,rfl⟩) (λa b c d h1 h2 x hx=>by
  obtain⟨y,hy,e⟩:=Na c d x hx;rcases List.mem_append.1 hy with h|h
  . obtain⟨z,hz,e2⟩:=h1 y h;exact⟨z,by simp[hz],e2.trans e⟩
  . obtain⟨z,hz,e2⟩:=h2 y h;exact⟨z,by simp[hz],e2.trans e⟩) l
def gy (x:Trm):Bool:=!(bg (dval x.2)==0)
def aU (l:List Trm):List Trm:=((gA l).filter gy).map λx=>(x.1,canon (dval x.2))
def Good (l:List Trm):Prop:=Up l/\∀x∈l,dval x.2≠0/\x.2=canon (dval x.2)
def ye (X:Dyadic):(bg X==0)=false↔X≠0:=by
 have h:bg X=0↔X=0:=by
  constructor
  . intro h;have h1:dN X=0:=by
     unfold bg eF at h;by_cases h1:dN X<0
     . rw[if_pos h1]at h;cases h
     . rw[if_neg h1]at h;by_cases h2:dN X=0
       . exact h2
       . rw[if_neg h2]at h;cases h
    have h2:=vw X;rw[h1,xq]at h2;exact h2
  . rintro rfl;rfl
 rw[beq_eq_false_iff_ne];exact not_congr h
def Zj (l:List Trm)(m:List UInt8):bR (l.filter gy) m=bR l m:=by
 induction l with
 |nil=>rfl
 | cons x l ih=>
   rw[List.filter_cons];split
   . simp only[bR,ih]
   . rename_i h
     have h0:dval x.2=0:=Classical.byContradiction λhc=>h (by unfold gy;rw[(ye _).2 hc];rfl);simp only[bR,ih,h0];split<;>grind
def amb (l:List Trm)(m:List UInt8):bR (l.map λx=>(x.1,canon (dval x.2))) m=bR l m:=by
 induction l with
 |nil=>rfl
 |cons x l ih=>simp only[List.map_cons,bR,ih,bu]
def rA (l:List Trm)(m:List UInt8):bR (aU l) m=bR l m:=by unfold aU;rw[amb,Zj,amg]
def av7 {l:List Trm}(h:Up l):Up (l.map λx=>(x.1,canon (dval x.2))):=List.Pairwise.map _ (λ_ _ h=>h) h
def aoq (l:List Trm)(h:Up l):Good ((l.filter gy).map λx=>(x.1,canon (dval x.2))):=by
 refine⟨av7 (List.Pairwise.filter _ h),λx hx=>?_⟩;obtain⟨y,hy,rfl⟩:=List.mem_map.1 hx;have h2:=(List.mem_filter.1 hy).2;unfold gy at h2;refine⟨?_,?_⟩
 . show dval (canon (dval y.2))≠0
   rw[bu];exact(ye _).1 (by simpa using h2)
 . show canon (dval y.2)=canon (dval (canon (dval y.2)))
   rw[bu]
def jJ (l:List Trm):Good (aU l):=aoq _ (avh l)
def kV (l:List Trm):(aU l).length<=l.length:=by unfold aU;rw[List.length_map];exact Nat.le_trans (List.length_filter_le _ _) (Nu l)
def Zl (l:List Trm)(m:List UInt8)(h:∀x∈l,x.1≠m):bR l m=0:=by
 induction l with
 |nil=>rfl
 |cons x l ih=>simp only[bR];rw[if_neg (h x zm),ih (λy hy=>h y (by simp[hy]))];grind
def Good.tail {x:Trm}{l:List Trm}(h:Good (x::l)):Good l:=⟨(List.pairwise_cons.1 h.1).2,λy hy=>h.2 y (by simp[hy])⟩
def Good.off {x:Trm}{l:List Trm}(h:Good (x::l)):bR l x.1=0:=by refine Zl _ _ (λy hy e=>?_);have:=(List.pairwise_cons.1 h.1).1 y hy;rw[e,CM]at this;cases this
def Good.head {x:Trm}{l:List Trm}(h:Good (x::l)):bR (x::l) x.1=dval x.2:=by simp only[bR,if_pos,h.off];grind
def Good.before {x y:Trm}{l:List Trm}(h:Good (y::l))(hx:Op.bytesLess x.1 y.1=true):bR (y::l) x.1=0:=by
 refine Zl _ _ (λz hz e=>?_);rcases List.mem_cons.1 hz with rfl|hz
 . rw[e,CM]at hx;cases hx
 . have:=FT hx ((List.pairwise_cons.1 h.1).1 z hz);rw[e,CM]at this;cases this
def Rs {a b:List Trm}(ha:Good a)(hb:Good b)(h:∀m,bR a m=bR b m):a=b:=by
 induction a generalizing b with
 | nil=>
   cases b with
   |nil=>rfl
   |cons y b=>have:=h y.1;rw[hb.head]at this;exact absurd this.symm (hb.2 y zm).1
 | cons x a ih=>
   cases b with
   |nil=>have:=h x.1;rw[ha.head]at this;exact absurd this (ha.2 x zm).1
   | cons y b=>
     have h1:Op.bytesLess x.1 y.1=false:=by
      cases hc:Op.bytesLess x.1 y.1 with
      |false=>rfl
      |true=>have:=h x.1;rw[ha.head,hb.before hc]at this;exact absurd this (ha.2 x zm).1
     have h2:Op.bytesLess y.1 x.1=false:=by
      cases hc:Op.bytesLess y.1 x.1 with
      |false=>rfl
      |true=>have:=h y.1;rw[hb.head,ha.before hc]at this;exact absurd this.symm (hb.2 y zm).1
     have e1:x.1=y.1:=CN h1 h2;have e2:dval x.2=dval y.2:=by have:=h x.1;rw[ha.head]at this;rw[this,e1,hb.head]
     have e3:x=y:=by refine Prod.ext e1 ?_;rw[(ha.2 x zm).2,(hb.2 y zm).2,e2]
     subst e3
     rw[ih ha.tail hb.tail (λm=>by
      have:=h m;simp only[bR]at this;generalize (if x.1=m then dval x.2 else 0)=u at this
      grind)]
end Go.Proofs.YtpfgffadgkkedaaGreatDoor
namespace Go.Proofs.YtpfgffadgkkedaaGreatDoor
open Go.RowKit
attribute [local go_sem ↓] Go.wp_at_zero Go.wp_at_succ
end Go.Proofs.YtpfgffadgkkedaaGreatDoor
namespace Go.Proofs.YtpfgffadgkkedaaGreatDoor
abbrev YC:=List (List Nat×Dyadic)
def aeZ (g:List Nat->Dyadic):YC->Dyadic
 |[]=>0
 |p::ps=>p.2*g p.1+aeZ g ps
def delta (r x:List Nat):Dyadic:=if x=r then 1 else 0
def axt (ps:YC)(r:List Nat):Dyadic:=aeZ (delta r) ps
def avr (x:List Nat)(k v:Nat)(hk:k<x.length):(x.set k v).sum+x.getD k 0=x.sum+v:=by
 induction x generalizing k with
 |nil=>simp at hk
 | cons a x ih=>
   cases k with
   |zero=>simp;omega
   |succ k=>have:=ih k (by simpa using hk);simp at this⊢;omega
end Go.Proofs.YtpfgffadgkkedaaGreatDoor
