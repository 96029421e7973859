/- Small facts that many walks share: numbers in memory,windows,own rows. -/
import Derived.Test.YtoopepmmepmfnaaGreatDoorZ9
import Derived.Test.YtoopepmmepmfnaaGreatDoorZ10
import Derived.Test.YtoopepmmepmfnaaGreatDoorZ7
import Derived.Carry
import Derived.Maps.AppendAt
import Derived.Maps.OwnIn
import Derived.Maps.Own
import Derived.Maps.Views
import Derived.Maps.Keyed
import Derived.Maps.OwnSet
import Derived.Shelf.Abstract
import Derived.Shelf.RegionOpen
import Derived.OwnWalkIn
import Derived.TacticsInMore
import Derived.LoopNIn
import Derived.LoopIn
import Derived.Lib.BufferWrite
import Derived.Deep.WholeRow
import Derived.Test.YtoopepmmepmfnaaGreatDoorZ5
set_option linter.unusedVariables false
set_option linter.unusedSimpArgs false
set_option maxRecDepth 100000
set_option maxHeartbeats 16000000
namespace Go.Proofs.YtoopepmmepmfnaaGreatDoor
open Go.RowKit
attribute [local go_sem ↓] Go.wp_at_zero Go.wp_at_succ
def hp (k:Nat):Dyadic:=Dyadic.ofIntWithPrec 1 k
theorem agN (k:Nat):hp (k+1)+hp (k+1)=hp k:=by unfold hp;rw[uA];exact mG 1 1 k
theorem agO :hp 0=1:=rfl
theorem Va :hp 1+hp 1=1:=by rw[agN 0,agO]
theorem XC (D:Dyadic)(k:Nat):ar (aj (dN D),nt (dN D).natAbs,dE D+ -(k:Int))=D*hp k:=by
 have h:=bC D;unfold ar canon at h;unfold ar hp;simp only[dI]at h⊢;conv=>rhs;rw[<-h]
 rw[qN,Int.mul_one];congr 1;omega
theorem EN (k:Nat):Sm (k+1) (hp k):=by
 refine⟨2,?_,?_⟩
 . unfold hp;rw[<-mG 1 1 k];rfl
 . have:2^2<=2^(2* (k+1)):=Nat.pow_le_pow_right zd zo;omega
theorem Tryz.aqJ :(Tryz.prog.info? 39).map (λi=>(i.zero,i.size,i.bytes))=some (some (.agg #[.bool false,.string (bs []),.int .i64 0]),3,32):=by kernel_rfl
def dC (ds:List Dyadic):List Value:=ds.flatMap λd=>bJ (canon d)
theorem aen (ds:List Dyadic):(dC ds).length=ds.length*3:=lu _ 3 (λ_=>rfl) ds
theorem JR (a b:List Dyadic):dC (a++b)=dC a++dC b:=by unfold dC;rw[List.flatMap_append]
theorem Xa {Y:Nat->Prop}{W W':World}{base:Nat}{e:TypeId}{size:Nat}{v:Value}{n:Nat}{xs:List Value}(h:W.ownsRow base e size v n xs)(hc:Chg Y W W')(hy:∀b,v.ownBlock=some b->¬Y b):W'.ownsRow base e size v n xs:=by
 refine⟨h.1,?_⟩;rcases h.2 with h1|⟨g,cap,cur,rfl,hb,hg,h2,h3,h4,h5⟩
 . exact .inl h1
 . exact .inr ⟨g,cap,cur,rfl,hb,(hc.block g (Array.getElem?_eq_some_iff.1 hg).1 (hy g rfl)).trans hg,h2,h3,h4,h5⟩
theorem eI {W:World}{base:Nat}{e:TypeId}{size:Nat}{v:Value}{n:Nat}{xs:List Value}(h:W.ownsRow base e size v n xs):∃a cap,v=.slice a n cap/\At W a xs/\∀b o,a=some ⟨b,o,none⟩->base<=b:=by
 rcases h.2 with⟨rfl,rfl⟩ |⟨g,cap,cur,rfl,hb,hg,h2,h3,h4,h5⟩
 . refine⟨none,0,rfl,.inl ?_,λb o e=>by cases e⟩;have:=h.1;simpa using this
 . refine⟨_,cap,rfl,.inr ⟨g,0,rfl,λj hj=>?_⟩,λb o e=>by cases e;exact hb⟩;have:=h.cells (g:=g) rfl j (xs[j]) (by simp[hj]);rw[Nat.zero_add];have e2:((⟨g,0,none⟩:Addr).add j)=⟨g,j,none⟩:=by simp[Addr.add];omega
   rw[e2]at this;rw[this];simp[hj]
def bg (w:World)(b o:Nat)(cs:List Value):Prop:=∀j (h:j<cs.length),w.cell? ⟨b,o+j,none⟩=some cs[j]
theorem bg.cell {w:World}{b o:Nat}{cs:List Value}(h:bg w b o cs)(j:Nat)(hj:j<cs.length):w.cell? ⟨b,o+j,none⟩=some cs[j]:=h j hj
theorem bg.w1 {w:World}{b o:Nat}{x0:Value}(h:bg w b o [x0]):w.cell? ⟨b,o,none⟩=some x0:=h 0 zm
theorem bg.w2 {w:World}{b o:Nat}{x0 x1:Value}(h:bg w b o [x0,x1]):w.cell? ⟨b,o,none⟩=some x0/\w.cell? ⟨b,o+1,none⟩=some x1:=⟨h 0 zm,h 1 zm⟩
theorem bg.w3 {w:World}{b o:Nat}{x0 x1 x2:Value}(h:bg w b o [x0,x1,x2]):w.cell? ⟨b,o,none⟩=some x0/\w.cell? ⟨b,o+1,none⟩=some x1/\w.cell? ⟨b,o+2,none⟩=some x2:=⟨h 0 zm,h 1 zm,h 2 zm⟩
theorem bg.w4 {w:World}{b o:Nat}{x0 x1 x2 x3:Value}(h:bg w b o [x0,x1,x2,x3]):w.cell? ⟨b,o,none⟩=some x0/\w.cell? ⟨b,o+1,none⟩=some x1/\w.cell? ⟨b,o+2,none⟩=some x2/\w.cell? ⟨b,o+3,none⟩=some x3:=⟨h 0 zm,h 1 zm,h 2 zm,h 3 zm⟩
theorem bg.below {w w':World}{b o:Nat}{cs:List Value}(h:bg w b o cs)(hb:Bw w w'):bg w' b o cs:=λj hj=>cell_later hb (h j hj)
theorem kW {w w':World}{b o:Nat}{cs:List Value}(h:Hid (bg w b o cs))(k:Bw w w'):Hid (bg w' b o cs):=h.out.below k
theorem bg.aqG {w:World}{b o:Nat}{cs:List Value}(h:bg w b o cs)(a:Addr)(hne:b≠a.block)(u:Value):bg (w.setCell a u) b o cs:=λj hj=>eW hne (h j hj)
theorem kSx {w w':World}{b c p o:Nat}{cs vs:List Value}(h:Hid (bg w b c cs))(k:bf w p o vs w')(n:p≠b):Hid (bg w' b c cs):=by
 have g:∀(vs:List Value) (o:Nat) (w:World),bg w b c cs->bg (sM p o vs w) b c cs:=by
  intro vs;induction vs with
  |nil=>intro o w h;exact h
  |cons v vs ih=>intro o w h;exact ih _ _ (h.aqG ⟨p,o,none⟩ (λe=>n e.symm) v)
 rcases k with rfl|rfl
 . exact g vs o _ h.out
 . exact g vs o w.drew h.out
theorem aeo (ds:List Dyadic)(i:Nat)(D:Dyadic):(((dC ds).set (i*3) (.bool (aj (dN D)))).set (i*3+1) (.string (bs (nt (dN D).natAbs)))).set (i*3+2) (.int .i64 (dE D))=dC (ds.set i D):=by
 induction ds generalizing i with
 |nil=>simp[dC]
 | cons x ds ih=>
   have e:∀y:Dyadic,∀zs,dC (y::zs)=.bool (aj (dN y))::.string (bs (nt (dN y).natAbs))::.int .i64 (dE y)::dC zs:=λy zs=>rfl;cases i with
   |zero=>rw[e];rfl
   |succ i=>rw[List.set_cons_succ,e,e,<-ih i,show(i+1) *3=i*3+1+1+1 by omega];rfl
theorem Aj (ds:List Dyadic):dC ds=(ds.map canon).flatMap bJ:=by unfold dC;rw[List.flatMap_map]
theorem eK {P:Program}{fn:Func}{R:Ending->World->Prop}{e:Exit}{a:Act}{W:World}(S:World->Prop)(hS:S W)(h:∀W',S W'->bodyPost P fn R e a W'):bodyPost P fn R e a W:=h W hS
theorem ag.not_row {W:World}{B:Nat}{t e:TypeId}{cs:List Value}(h:ag W B t cs)(hte:t≠e){base size k:Nat}{v:Value}{xs:List Value}(hr:W.ownsRow base e size v k xs):some B≠v.ownBlock:=by
 rcases hr.2 with⟨rfl,_⟩ |⟨g,cap,cur,rfl,_,hgb,_⟩
 . simp[Value.ownBlock]
 . intro e';simp only[Value.ownBlock,Option.some.injEq]at e';subst e';have:=h.symm.trans hgb;simp at this;exact hte this.2
theorem ag.row {W W':World}{B:Nat}{t e:TypeId}{cs:List Value}(h:ag W B t cs)(hte:t≠e){base size k:Nat}{v:Value}{xs:List Value}(hr:W.ownsRow base e size v k xs)(hg:W.grownBy W' v.ownBlock):ag W' B t cs:=
 h.grown hg (h.not_row hte hr)
theorem ownsRow_below {W W':World}{base:Nat}{e:TypeId}{size:Nat}{v:Value}{n:Nat}{xs:List Value}(h:W.ownsRow base e size v n xs)(hb:Bw W W'):W'.ownsRow base e size v n xs:=by refine Xa (Y:=λ_=>False) h (Chg.of_below hb) (λ_ _ h=>h)
theorem eJ {W:World}{base:Nat}{e:TypeId}{size:Nat}{v:Value}{n:Nat}{xs:List Value}(h:W.ownsRow base e size v n xs):∀k,v.ownBlock=some k->base<=k:=λk hk=>(h.lt k hk).1
theorem nU {w:World}{b o:Nat}{x y z:Value}(h0:w.cell? ⟨b,o,none⟩=some x)(h1:w.cell? ⟨b,o+1,none⟩=some y)(h2:w.cell? ⟨b,o+2,none⟩=some z):bg w b o [x,y,z]:=by
 intro j hj;rcases j with _|_|_|j
 . exact h0
 . exact h1
 . exact h2
 . simp at hj;omega
theorem jL {W:World}{b:Nat}{t:TypeId}{cs:List Value}(h:ag W b t cs):∀j u,cs[j]?=some u->W.cell? ((⟨b,0,none⟩:Addr).add j)=some u:=by
 intro j u hj;have e2:((⟨b,0,none⟩:Addr).add j)=⟨b,j,none⟩:=by simp[Addr.add];omega
 rw[e2,h.cell];exact hj
theorem At.num {W:World}{a:Option Addr}{dQ:List Raw}(h:At W a (dQ.flatMap bJ))(k:Nat)(hk:k<dQ.length){s:Bool}{m:List UInt8}{e:Int}(hx:dQ[k]=(s,m,e)):
 ∃b o,a=some ⟨b,o,none⟩/\W.cell? ⟨b,o+k*3,none⟩=some (.bool s)/\W.cell? ⟨b,o+k*3+1,none⟩=some (.string (bs m))/\W.cell? ⟨b,o+k*3+2,none⟩=some (.int .i64 e):=by
 obtain⟨b,o,ha,hc⟩:=h.elem (f:=bJ) (sz:=3) (λ_=>rfl) zd k hk;rw[hx]at hc;exact⟨b,o,ha,by simpa[bJ]using hc 0 zd,by simpa[bJ]using hc 1 zd,by simpa[bJ]using hc 2 zd⟩
theorem RU {B:Nat}{cs:List Dyadic}(h:∀c∈cs,Sm B c)(k:Nat):Sm B (cs.getD k 0):=by
 by_cases hk:k<cs.length
 . have:cs.getD k 0=cs[k]:=by simp[hk]
   rw[this];exact h _ (List.getElem_mem hk)
 . have:cs.getD k 0=0:=by simp[List.getD_eq_getElem?_getD,List.getElem?_eq_none (by omega:cs.length<=k)]
   rw[this];exact Sm.zero B
end Go.Proofs.YtoopepmmepmfnaaGreatDoor
namespace Go.Proofs.YtoopepmmepmfnaaGreatDoor
abbrev Pr:=Dyadic ×Dyadic
def bu (s:Raw×Raw):Pr:=(ar s.1,ar s.2)
def dK (p:Pr):Raw×Raw:=(canon p.1,canon p.2)
theorem XL (p:Pr):bu (dK p)=p:=by unfold bu dK;rw[bC,bC]
def gF (p:Pr):Pr:=if 0<aL (p.1-p.2)then(p.2,p.1)else p
def wT (p:Pr):Dyadic:=(gF p).2-(gF p).1
def mC (p:Pr):Dyadic:=(p.1+p.2) *hp 1
theorem aiv (p:Pr):mC (gF p)=mC p:=by
 unfold gF mC;split
 . show(p.2+p.1) *hp 1=_;rw[show p.2+p.1=p.1+p.2 by grind]
 . rfl
def iZ (bx:List Pr):Int:=if bx=[]then 1 else if bx.any (λp=>decide (0<=aL (p.1-p.2)))then 5 else 0
def gm (f:Nat->Dyadic):Nat->Nat
 |0=>0
 |k+1=>if 0<aL (f k-f (gm f k))then k else gm f k
theorem xK (X:Dyadic):0<aL X↔0<X:=by
 have h1:=oF X;have h2:=Rz X;constructor
 . intro h;have a1:¬X<0:=λhx=>by have:=h1.2 hx;omega
   have a2:X≠0:=λhx=>by have:=h2.2 hx;omega
   grind
 . intro h;have a1:¬aL X<0:=λhx=>by have:=h1.1 hx;grind
   have a2:aL X≠0:=λhx=>by have:=h2.1 hx;grind
   omega
theorem XY (a b:Dyadic):0<a-b↔b<a:=by grind
theorem QK (f:Nat->Dyadic)(L:Nat)(hL:1<=L):gm f L<L/\(∀k,k<L->¬f (gm f L)<f k)/\∀k,k<gm f L->f k<f (gm f L):=by
 induction L with
 |zero=>omega
 | succ L ih=>
   by_cases h0:L=0
   . subst h0;have e:gm f 1=0:=by unfold gm gm;simp
     rw[e]
     exact ⟨by omega, fun k hk => by have:k=0:=by omega
                                     subst this;grind,λk hk=>absurd hk zo⟩
   . obtain⟨i1,i2,i3⟩:=ih zo;show(if 0<aL (f L-f (gm f L))then L else gm f L)<L+1/\_
     have e:gm f (L+1)=if 0<aL (f L-f (gm f L))then L else gm f L:=rfl
     rw[e];by_cases h:0<aL (f L-f (gm f L))
     . rw[if_pos h];have h2:f (gm f L)<f L:=(XY _ _).1 ((xK _).1 h);refine⟨by omega,λk hk=>?_,λk hk=>?_⟩
       . by_cases vM:k=L
         . subst vM;grind
         . have:=i2 k zo;grind
       . have:=i2 k zo;grind
     . rw[if_neg h];have h2:¬f (gm f L)<f L:=λh3=>h ((xK _).2 ((XY _ _).2 h3));refine⟨by omega,λk hk=>?_,i3⟩;by_cases vM:k=L
       . subst vM;exact h2
       . exact i2 k zo
def nz (bx:List Pr)(a:Nat)(up:Bool):List Pr:=(bx.map gF).set a (if up then(mC (bx.getD a (0,0)),(gF (bx.getD a (0,0))).2)else((gF (bx.getD a (0,0))).1,mC (bx.getD a (0,0))))
theorem agb (bx:List Pr)(a:Nat)(up:Bool):(nz bx a up).length=bx.length:=by simp[nz]
def qR (bx:List Pr):Nat:=gm (λi=>wT (bx.getD i (0,0))) bx.length
def uG (bx:List Pr):Nat->List Pr
 |0=>bx
 |k+1=>nz (uG bx k) (qR (uG bx k)) false
def tC (bx:List Pr)(k:Nat):Nat:=qR (uG bx k)
theorem akV (bx:List Pr)(k:Nat):(uG bx k).length=bx.length:=by
 induction k with
 |zero=>rfl
 |succ k ih=>show(nz _ _ _).length=_;rw[agb,ih]
def kK (bx:List Pr):Nat->Nat->Nat
 |0,_=>0
 |k+1,i=>kK bx k i+(if i=tC bx k then 1 else 0)
theorem Yh (bx:List Pr)(k i:Nat):kK bx k i<=k:=by
 induction k with
 |zero=>exact Nat.le_refl _
 |succ k ih=>unfold kK;split<;>omega
def ol (B:Nat)(bx:List Pr):Prop:=∀p∈bx,Sm B p.1/\Sm B p.2
theorem uz {B:Nat}{p:Pr}(h:Sm B p.1/\Sm B p.2):Sm B (gF p).1/\Sm B (gF p).2:=by
 unfold gF;split
 . exact⟨h.2,h.1⟩
 . exact h
theorem Wz {B:Nat}{p:Pr}(h:Sm B p.1/\Sm B p.2):Sm (B+3) (mC p):=(Sm.mul (Sm.add h.1 h.2) (EN 1)).mono zo
theorem alU {B:Nat}{p:Pr}(h:Sm B p.1/\Sm B p.2):Sm (B+1) (wT p):=Sm.sub (uz h).2 (uz h).1
theorem ol.mono {B B':Nat}{bx:List Pr}(h:ol B bx)(hb:B<=B'):ol B' bx:=λp hp=>⟨(h p hp).1.mono hb,(h p hp).2.mono hb⟩
theorem ol.get {B:Nat}{bx:List Pr}(h:ol B bx)(a:Nat):Sm B (bx.getD a (0,0)).1/\Sm B (bx.getD a (0,0)).2:=by
 by_cases ha:a<bx.length
 . have e:bx.getD a (0,0)=bx[a]:=by simp[ha]
   rw[e];exact h _ (List.getElem_mem ha)
 . have e:bx.getD a (0,0)=(0,0):=by simp[List.getD_eq_getElem?_getD,List.getElem?_eq_none (by omega:bx.length<=a)]
   rw[e];exact⟨Sm.zero _,Sm.zero _⟩
theorem agd {B:Nat}{bx:List Pr}(h:ol B bx)(a:Nat)(up:Bool):ol (B+3) (nz bx a up):=by
 intro p hp;rcases List.mem_or_eq_of_mem_set hp with h1|h1
 . obtain⟨q,hq,rfl⟩:=List.mem_map.1 h1;exact⟨(uz (h q hq)).1.mono zo,(uz (h q hq)).2.mono zo⟩
 . have h2:=h.get a;subst h1;cases up
   . exact⟨(uz h2).1.mono zo,Wz h2⟩
   . exact⟨Wz h2,(uz h2).2.mono zo⟩
theorem akW {B:Nat}{bx:List Pr}(h:ol B bx)(k:Nat):ol (B+3*k) (uG bx k):=by
 induction k with
 |zero=>exact h
 |succ k ih=>exact(agd ih _ _).mono zo
def jY (c:Nat->Bool)(d:Nat):Nat->Nat->Option Nat
 |0,_=>none
 |f+1,q=>if 1024<d*q then none else if c q then some (d*q)else jY c d f (q+1)
def wj (c:Nat->Bool)(d:Nat):Option Nat:=jY c d 1026 0
def jk (g:Dyadic)(ds:Nat->Dyadic)(t:Nat->Nat):Nat->Dyadic
 |0=>0
 |i+1=>jk g ds t i+g*ds i*hp (t i)
end Go.Proofs.YtoopepmmepmfnaaGreatDoor
namespace Go.Proofs.YtoopepmmepmfnaaGreatDoor
open Go.RowKit
attribute [local go_sem ↓] Go.wp_at_zero Go.wp_at_succ
def idxFrom (p:Value->Bool):List Value->Nat->Int
 |[],_=>-1
 |v::l,k=>if p v then(k:Int)else idxFrom p l (k+1)
theorem Mw (p:Value->Bool)(l:List Value)(k n:Nat)(h:n<l.length):idxFrom p (l.drop n) k=if p l[n]then(k:Int)else idxFrom p (l.drop (n+1)) (k+1):=by rw[List.drop_eq_getElem_cons h];rfl
theorem VJ (p:Value->Bool)(l:List Value)(k:Nat):decide (0<=idxFrom p l k)=l.any p:=by
 induction l generalizing k with
 |nil=>rfl
 | cons v l ih=>
   unfold idxFrom;rw[List.any_cons];by_cases h:p v=true
   . rw[if_pos h,h,Bool.true_or];simp
   . rw[if_neg h,ih];simp[h]
theorem ahb (a:Option Addr)(n cap:Nat)(vals:List Value)(gf:Nat)(lb:Array Value)(p:Value->Bool)(w:World)(hn:vals.length=n)(hl:n<=1099511627776)(ha:At w a vals)
 (eg:∀args w,(callFunc gf args).run Tryz.prog w=.ok (.enter gf args) w)
 (hcl:∀v∈vals,∀W,Bw w W->Calls Tryz.prog gf (#[v]++lb) W λe w'=>e=.returned (.bool (p v))/\Bw W w'):
 Calls Tryz.prog 178 #[.slice a n cap,.func (.func gf) #[] lb] w λe w'=>e=.returned (.int .i64 (idxFrom p vals 0))/\Bw w w':=by
 obtain⟨Hn,Ha,fR,kq⟩:=dt hn ha hcl eg;clear hn ha hcl eg;have Hb:Hid (Bw w w):=Below.refl _ _;go_enter Tryz.func178,Tryz.ntmps178;go_wp2_with fail;go_loopw[5,8] (λ_ i wr=>∃k:Nat,k<=n/\i=.int .i64 (k:Int)/\idxFrom p vals 0=idxFrom p (vals.drop k) k/\Bw w wr) (λ_ i _=>n-(intOf i).toNat);case atStart=>exact⟨0,Nat.zero_le _,rfl,rfl,Hb.out⟩
 case round=>
  clear Hb;obtain⟨k,hk,rfl,fL,pb⟩:=hrel;obtain⟨kR,Hb⟩:=aJ fL pb;clear fL pb;by_cases hlt:k<n
  . have aZ:k<vals.length:=by rw[Hn.out];exact hlt
    obtain⟨b,o,hab,hcs⟩:=(Ha.out.below Hb.out).get (by intro h;rw[h]at aZ;simp at aZ);obtain⟨v,hv⟩:=az (vals[k]);have hc0:wr.cell? ⟨b,o+k,none⟩=some v:=by rw[hcs k aZ,List.getElem?_eq_getElem aZ,hv]
    have aX:=ui n cap k (k:Int) hab hlt rfl;rw[Nat.mul_one]at aX;have hcall:=fR.out v (by rw[<-hv];exact List.getElem_mem aZ) wr Hb.out;have hstep:=Mw p vals k k aZ;rw[hv,<-kR.out]at hstep;obtain⟨gj,iX⟩:=aJ hstep hcall;have kQ:=kq.out;clear hcs hab hv hstep hcall;go_wp2_with fail;refine iX.out.mono ?_;rintro e w1 ⟨rfl,hb1⟩;replace Hb:=af (aG Hb.out hb1);clear hb1 hc0 aX kQ;obtain⟨t,ht⟩:=az (p v);rw[ht]at gj⊢;clear ht;cases t with
    |true=>go_wp2;refine bodyPost_ret (results_tmp rfl _ _ _) rfl ⟨?_,Hb.out⟩;have h:=gj.out;rw[if_pos (by trivial)]at h;rw[h];rfl
    | false=>
      go_wp2;go_roundw;case rel=>exact⟨k+1,by omega,by go_num,by have h:=gj.out;rw[if_neg zd]at h;exact h,Hb.out⟩
      case measure=>simp[intOf];omega
  . obtain rfl:k=n:=by omega
    go_wp2;refine bodyPost_ret (results_tmp rfl _ _ _) rfl ⟨?_,Hb.out⟩;have h:=kR.out;rw[List.drop_of_length_le (by rw[Hn.out];exact Nat.le_refl _)]at h;rw[h];rfl
theorem aec (a:Option Addr)(n cap:Nat)(vals:List Value)(gf:Nat)(lb:Array Value)(p:Value->Bool)(w:World)(hn:vals.length=n)(hl:n<=1099511627776)(ha:At w a vals)
 (eg:∀args w,(callFunc gf args).run Tryz.prog w=.ok (.enter gf args) w)
 (hcl:∀v∈vals,∀W,Bw w W->Calls Tryz.prog gf (#[v]++lb) W λe w'=>e=.returned (.bool (p v))/\Bw W w'):
 Calls Tryz.prog 140 #[.slice a n cap,.func (.func gf) #[] lb] w λe w'=>e=.returned (.bool (vals.any p))/\Bw w w':=by
 have h1:=ahb a n cap vals gf lb p w hn hl ha eg hcl;rw[<-VJ p vals 0];generalize idxFrom p vals 0=i at*;have H1:=af h1;clear h1 hcl eg ha hn;have Hb:Hid (Bw w w):=Below.refl _ _;go_enter Tryz.func140,Tryz.ntmps140;go_wp2_with fail;refine(H1.out).mono ?_;rintro e w1 ⟨rfl,ae⟩;replace Hb:=ak Hb ae;clear ae;go_wp2;refine bodyPost_ret (v:=.bool (decide (0<=i))) (by simp[results,Tryz.results140,go_sem]) rfl ⟨rfl,?_⟩;(repeat first|exact Hb.out| (refine Below.setCell ?_ (by have:=Hb.out.size;first| (dsimp only;omega) | (show _<=_;omega) | (simp<;>omega)) _) | (refine Below.alloc ?_ zt _) |refine Below.drew ?_)
theorem aha (a:Option Addr)(n cap:Nat)(vals:List Value)(gf:Nat)(lb:Array Value)(p:Value->Bool)(w:World)(hn:vals.length=n)(hl:n<=1099511627776)(ha:At w a vals)
 (eg:∀args w,(callFunc gf args).run Tryz.prog w=.ok (.enter gf args) w)
 (hcl:∀v∈vals,∀W,Bw w W->Calls Tryz.prog gf (#[v]++lb) W λe w'=>e=.returned (.bool (p v))/\Bw W w'):
 Calls Tryz.prog 206 #[.slice a n cap,.func (.func gf) #[] lb] w λe w'=>e=.returned (.int .i64 (idxFrom p vals 0))/\Bw w w':=by
 obtain⟨Hn,Ha,fR,kq⟩:=dt hn ha hcl eg;clear hn ha hcl eg;have Hb:Hid (Bw w w):=Below.refl _ _;go_enter Tryz.func206,Tryz.ntmps206;go_wp2_with fail;go_loopw[5,8] (λ_ i wr=>∃k:Nat,k<=n/\i=.int .i64 (k:Int)/\idxFrom p vals 0=idxFrom p (vals.drop k) k/\Bw w wr) (λ_ i _=>n-(intOf i).toNat);case atStart=>exact⟨0,Nat.zero_le _,rfl,rfl,Hb.out⟩
 case round=>
  clear Hb;obtain⟨k,hk,rfl,fL,pb⟩:=hrel;obtain⟨kR,Hb⟩:=aJ fL pb;clear fL pb;by_cases hlt:k<n
  . have aZ:k<vals.length:=by rw[Hn.out];exact hlt
    obtain⟨b,o,hab,hcs⟩:=(Ha.out.below Hb.out).get (by intro h;rw[h]at aZ;simp at aZ);obtain⟨v,hv⟩:=az (vals[k]);have hc0:wr.cell? ⟨b,o+k,none⟩=some v:=by rw[hcs k aZ,List.getElem?_eq_getElem aZ,hv]
    have aX:=yi n cap k (k:Int) hab hlt rfl;rw[Nat.mul_one]at aX;have hcall:=fR.out v (by rw[<-hv];exact List.getElem_mem aZ) wr Hb.out;have hstep:=Mw p vals k k aZ;rw[hv,<-kR.out]at hstep;obtain⟨gj,iX⟩:=aJ hstep hcall;have kQ:=kq.out;clear hcs hab hv hstep hcall;go_wp2_with fail;refine iX.out.mono ?_;rintro e w1 ⟨rfl,hb1⟩;replace Hb:=af (aG Hb.out hb1);clear hb1 hc0 aX kQ;obtain⟨t,ht⟩:=az (p v);rw[ht]at gj⊢;clear ht;cases t with
    |true=>go_wp2;refine bodyPost_ret (results_tmp rfl _ _ _) rfl ⟨?_,Hb.out⟩;have h:=gj.out;rw[if_pos (by trivial)]at h;rw[h];rfl
    | false=>
      go_wp2;go_roundw;case rel=>exact⟨k+1,by omega,by go_num,by have h:=gj.out;rw[if_neg zd]at h;exact h,Hb.out⟩
      case measure=>simp[intOf];omega
  . obtain rfl:k=n:=by omega
    go_wp2;refine bodyPost_ret (results_tmp rfl _ _ _) rfl ⟨?_,Hb.out⟩;have h:=kR.out;rw[List.drop_of_length_le (by rw[Hn.out];exact Nat.le_refl _)]at h;rw[h];rfl
theorem aeb (a:Option Addr)(n cap:Nat)(vals:List Value)(gf:Nat)(lb:Array Value)(p:Value->Bool)(w:World)(hn:vals.length=n)(hl:n<=1099511627776)(ha:At w a vals)
 (eg:∀args w,(callFunc gf args).run Tryz.prog w=.ok (.enter gf args) w)
 (hcl:∀v∈vals,∀W,Bw w W->Calls Tryz.prog gf (#[v]++lb) W λe w'=>e=.returned (.bool (p v))/\Bw W w'):
 Calls Tryz.prog 179 #[.slice a n cap,.func (.func gf) #[] lb] w λe w'=>e=.returned (.bool (vals.any p))/\Bw w w':=by
 have h1:=aha a n cap vals gf lb p w hn hl ha eg hcl;rw[<-VJ p vals 0];generalize idxFrom p vals 0=i at*;have H1:=af h1;clear h1 hcl eg ha hn;have Hb:Hid (Bw w w):=Below.refl _ _;go_enter Tryz.func179,Tryz.ntmps179;go_wp2_with fail;refine(H1.out).mono ?_;rintro e w1 ⟨rfl,ae⟩;replace Hb:=ak Hb ae;clear ae;go_wp2;refine bodyPost_ret (v:=.bool (decide (0<=i))) (by simp[results,Tryz.results179,go_sem]) rfl ⟨rfl,?_⟩;(repeat first|exact Hb.out| (refine Below.setCell ?_ (by have:=Hb.out.size;first| (dsimp only;omega) | (show _<=_;omega) | (simp<;>omega)) _) | (refine Below.alloc ?_ zt _) |refine Below.drew ?_)
theorem ag9 (a:Option Addr)(n cap:Nat)(vals:List Value)(gf:Nat)(lb:Array Value)(p:Value->Bool)(w:World)(hn:vals.length=n)(hl:n<=1099511627776)(ha:At w a vals)
 (eg:∀args w,(callFunc gf args).run Tryz.prog w=.ok (.enter gf args) w)
 (hcl:∀v∈vals,∀W,Bw w W->Calls Tryz.prog gf (#[v]++lb) W λe w'=>e=.returned (.bool (p v))/\Bw W w'):
 Calls Tryz.prog 181 #[.slice a n cap,.func (.func gf) #[] lb] w λe w'=>e=.returned (.int .i64 (idxFrom p vals 0))/\Bw w w':=by
 obtain⟨Hn,Ha,fR,kq⟩:=dt hn ha hcl eg;clear hn ha hcl eg;have Hb:Hid (Bw w w):=Below.refl _ _;go_enter Tryz.func181,Tryz.ntmps181;go_wp2_with fail;go_loopw[5,8] (λ_ i wr=>∃k:Nat,k<=n/\i=.int .i64 (k:Int)/\idxFrom p vals 0=idxFrom p (vals.drop k) k/\Bw w wr) (λ_ i _=>n-(intOf i).toNat);case atStart=>exact⟨0,Nat.zero_le _,rfl,rfl,Hb.out⟩
 case round=>
  clear Hb;obtain⟨k,hk,rfl,fL,pb⟩:=hrel;obtain⟨kR,Hb⟩:=aJ fL pb;clear fL pb;by_cases hlt:k<n
  . have aZ:k<vals.length:=by rw[Hn.out];exact hlt
    obtain⟨b,o,hab,hcs⟩:=(Ha.out.below Hb.out).get (by intro h;rw[h]at aZ;simp at aZ);obtain⟨v,hv⟩:=az (vals[k]);have hc0:wr.cell? ⟨b,o+k,none⟩=some v:=by rw[hcs k aZ,List.getElem?_eq_getElem aZ,hv]
    have aX:=yj n cap k (k:Int) hab hlt rfl;rw[Nat.mul_one]at aX;have hcall:=fR.out v (by rw[<-hv];exact List.getElem_mem aZ) wr Hb.out;have hstep:=Mw p vals k k aZ;rw[hv,<-kR.out]at hstep;obtain⟨gj,iX⟩:=aJ hstep hcall;have kQ:=kq.out;clear hcs hab hv hstep hcall;go_wp2_with fail;refine iX.out.mono ?_;rintro e w1 ⟨rfl,hb1⟩;replace Hb:=af (aG Hb.out hb1);clear hb1 hc0 aX kQ;obtain⟨t,ht⟩:=az (p v);rw[ht]at gj⊢;clear ht;cases t with
    |true=>go_wp2;refine bodyPost_ret (results_tmp rfl _ _ _) rfl ⟨?_,Hb.out⟩;have h:=gj.out;rw[if_pos (by trivial)]at h;rw[h];rfl
    | false=>
      go_wp2;go_roundw;case rel=>exact⟨k+1,by omega,by go_num,by have h:=gj.out;rw[if_neg zd]at h;exact h,Hb.out⟩
      case measure=>simp[intOf];omega
  . obtain rfl:k=n:=by omega
    go_wp2;refine bodyPost_ret (results_tmp rfl _ _ _) rfl ⟨?_,Hb.out⟩;have h:=kR.out;rw[List.drop_of_length_le (by rw[Hn.out];exact Nat.le_refl _)]at h;rw[h];rfl
def Pt (w:World)(v:Value)(dQ:List Raw):Prop:=∃a cap,v=.slice a dQ.length cap/\At w a (dQ.flatMap bJ)
theorem Pt.below {w w':World}{v:Value}{dQ:List Raw}(h:Pt w v dQ)(hb:Bw w w'):Pt w' v dQ:=
 let ⟨a,cap,hv,ha⟩:=h;⟨a,cap,hv,ha.below hb⟩
def cn (w:World)(a:Option Addr)(rows:List (List Raw)):Prop:=∃vals:List Value,vals.length=rows.length/\At w a vals/\∀i (h:i<rows.length) (h':i<vals.length),Pt w vals[i] rows[i]
theorem cn.below {w w':World}{a:Option Addr}{rows:List (List Raw)}(h:cn w a rows)(hb:Bw w w'):cn w' a rows:=
 let ⟨vals,hl,ha,hp⟩:=h;⟨vals,hl,ha.below hb,λi h1 h2=>(hp i h1 h2).below hb⟩
theorem kL {w w':World}{a:Option Addr}{rows:List (List Raw)}(h:Hid (cn w a rows))(k:Bw w w'):Hid (cn w' a rows):=h.out.below k
theorem cn.row {w:World}{a:Option Addr}{rows:List (List Raw)}(h:cn w a rows)(k:Nat)(hk:k<rows.length):
 ∃b o a' cap',a=some ⟨b,o,none⟩/\w.cell? ⟨b,o+k,none⟩=some (.slice a' rows[k].length cap')/\At w a' (rows[k].flatMap bJ):=by
 obtain⟨vals,hl,ha,hp⟩:=h;have hk2:k<vals.length:=by rw[hl];exact hk
 obtain⟨b,o,hab,hcs⟩:=ha.get (by intro h0;rw[h0]at hk2;simp at hk2);obtain⟨a',cap',hv,hat⟩:=hp k hk hk2;exact⟨b,o,a',cap',hab,by rw[hcs k hk2,List.getElem?_eq_getElem hk2,hv],hat⟩
def uj :Value->Int
 | .slice _ n _=>n
 |_=>0
def wB (N:Int)(v:Value):Bool:=decide (uj v≠N)
theorem QD {w:World}{vals:List Value}{rows:List (List Raw)}(N:Int)(hl:vals.length=rows.length)(hp:∀i (h:i<rows.length) (h':i<vals.length),Pt w vals[i] rows[i]):
 vals.any (wB N)=rows.any λr=>decide ((r.length:Int)≠N):=by
 induction vals generalizing rows with
 |nil=>have:rows=[]:=List.length_eq_zero_iff.1 hl.symm;subst this;rfl
 | cons v vs ih=>
   match rows,hl with
   |r::rs,hl=>have h0:=hp 0 zm zm;obtain⟨a,cap,hv,_⟩:=h0;have hv':v=.slice a r.length cap:=hv;have:=ih (rows:=rs) (by simpa using hl) (λi h h'=>hp (i+1) zi zi);rw[List.any_cons,List.any_cons,this];subst hv';rfl
theorem alF (bn:Nat)(N:Int)(a:Option Addr)(n cap:Nat)(w:World)(hN:w.cell? ⟨bn,0,none⟩=some (.int .i64 N)):
 Calls Tryz.prog 139 #[.slice a n cap,.pointer (some ⟨bn,0,none⟩)] w λe w'=>e=.returned (.bool (wB N (.slice a n cap)))/\Bw w w':=by
 have Hb:Hid (Bw w w):=Below.refl _ _;go_enter Tryz.func139,Tryz.ntmps139;go_wp2;refine bodyPost_ret (results_tmp rfl _ _ _) rfl ⟨?_,Hb.out⟩;simp only[wB,uj];by_cases h:(n:Int)=N<;>simp[h]
def lN (rows:List (List Raw)):Int:=
 let n:Int:=rows.length-1
 if n<1\/8<n\/(rows.any λr=>decide ((r.length:Int)≠n))then 0 else n
theorem NR (a:Option Addr)(L cap:Nat)(rows:List (List Raw))(w:World)(hL:rows.length=L)(hl:L<=1099511627776)(ha:cn w a rows):
 Calls Tryz.prog 93 #[.slice a L cap] w λe w'=>e=.returned (.int .i64 (lN rows))/\Bw w w':=by
 obtain⟨vals,hvl,hat,hp⟩:=ha;have vE:=λN=>QD (w:=w) N hvl hp;have hcl:∀(bn:Nat) (W:World),W.cell? ⟨bn,0,none⟩=some (.int .i64 ((L:Int)-1))->At W a vals->Calls Tryz.prog 140 #[.slice a L cap,.func (.func 139) #[] #[.pointer (some ⟨bn,0,none⟩)]] W λe w'=>e=.returned (.bool (rows.any λr=>decide ((r.length:Int)≠(L:Int)-1)))/\Bw W w':=by intro bn W hc hA;rw[<-vE];refine aec a L cap vals 139 #[.pointer (some ⟨bn,0,none⟩)] (wB ((L:Int)-1)) W (by rw[hvl,hL]) hl hA (enters_of Tryz.func139 zk rfl) (λv hv W' hb=>?_);obtain⟨i,hi,rfl⟩:=List.mem_iff_getElem.1 hv;obtain⟨a',cap',e,_⟩:=hp i (by rw[<-hvl];exact hi) hi;rw[e];exact alF bn _ a' _ cap' W' (cell_later hb hc)
 have hv:lN rows=if(L:Int)-1<1\/8<(L:Int)-1\/(rows.any λr=>decide ((r.length:Int)≠(L:Int)-1))=true then 0 else(L:Int)-1:=by unfold lN;rw[hL]
 obtain⟨T,hT⟩:=az (rows.any λr=>decide ((r.length:Int)≠(L:Int)-1));rw[hT]at hv;simp only[hT]at hcl;obtain⟨fR,ej,Hv⟩:=cP hcl hat hv;obtain⟨V,hV⟩:=az (lN rows);rw[hV]at Hv⊢;clear hcl hat hv vE hvl hp hL hT hV;obtain⟨W,cL,Hb,Hn⟩:=gX w 3 [.int .i64 ((L:Int)-1)];have n0:=Hn.out.c1;go_enter Tryz.func93,Tryz.ntmps93;by_cases h1:(L:Int)-1<1
 . have hv:=Hv.out;rw[if_pos (.inl h1)]at hv;subst hv;go_wp2;refine bodyPost_ret (v:=.int .i64 0) (by simp[results,Tryz.results93,go_sem]) rfl ⟨rfl,?_⟩;(repeat first|exact Hb.out| (refine Below.setCell ?_ (by have:=Hb.out.size;first| (dsimp only;omega) | (show _<=_;omega) | (simp<;>omega)) _) | (refine Below.alloc ?_ zt _) |refine Below.drew ?_)
 . by_cases h2:8<(L:Int)-1
   . have hv:=Hv.out;rw[if_pos (.inr (.inl h2))]at hv;subst hv;go_wp2;refine bodyPost_ret (v:=.int .i64 0) (by simp[results,Tryz.results93,go_sem]) rfl ⟨rfl,?_⟩;(repeat first|exact Hb.out| (refine Below.setCell ?_ (by have:=Hb.out.size;first| (dsimp only;omega) | (show _<=_;omega) | (simp<;>omega)) _) | (refine Below.alloc ?_ zt _) |refine Below.drew ?_)
   . have iX:=af (fR.out w.heap.size W n0 (ej.out.below Hb.out));go_wp2_with fail;refine(iX.out).mono ?_;rintro e w1 ⟨rfl,ae⟩;clear n0;replace Hn:=kB Hn ae;have n0:=Hn.out.c1;replace Hb:=ak Hb ae;clear ae;cases T with
     |true=>have hv:=Hv.out;rw[if_pos (.inr (.inr rfl))]at hv;subst hv;go_wp2;refine bodyPost_ret (v:=.int .i64 0) (by simp[results,Tryz.results93,go_sem]) rfl ⟨rfl,?_⟩;(repeat first|exact Hb.out| (refine Below.setCell ?_ (by have:=Hb.out.size;first| (dsimp only;omega) | (show _<=_;omega) | (simp<;>omega)) _) | (refine Below.alloc ?_ zt _) |refine Below.drew ?_)
     |false=>have hv:=Hv.out;rw[if_neg (by rintro(h|h|h);omega;omega;cases h)]at hv;subst hv;go_wp2;refine bodyPost_ret (v:=.int .i64 ((L:Int)-1)) (by simp[results,Tryz.results93,go_sem]) rfl ⟨rfl,?_⟩;(repeat first|exact Hb.out| (refine Below.setCell ?_ (by have:=Hb.out.size;first| (dsimp only;omega) | (show _<=_;omega) | (simp<;>omega)) _) | (refine Below.alloc ?_ zt _) |refine Below.drew ?_)
theorem aiu (bn:Nat)(a0:Option Addr)(N c0:Nat)(a:Option Addr)(n cap:Nat)(w:World)(hN:w.cell? ⟨bn,0,none⟩=some (.slice a0 N c0)):
 Calls Tryz.prog 180 #[.slice a n cap,.pointer (some ⟨bn,0,none⟩)] w λe w'=>e=.returned (.bool (wB (N:Int) (.slice a n cap)))/\Bw w w':=by
 have Hb:Hid (Bw w w):=Below.refl _ _;go_enter Tryz.func180,Tryz.ntmps180;go_wp2;refine bodyPost_ret (results_tmp rfl _ _ _) rfl ⟨?_,Hb.out⟩;simp only[wB,uj];by_cases h:(n:Int)=(N:Int)<;>simp[h]
def sD (rows:List (List Raw)):Int:=if 8<rows.length\/(rows.any λr=>decide ((r.length:Int)≠(rows.length:Int)))then 1 else 0
theorem MI (a:Option Addr)(L cap:Nat)(rows:List (List Raw))(w:World)(hL:rows.length=L)(hl:L<=1099511627776)(ha:cn w a rows):
 Calls Tryz.prog 141 #[.slice a L cap] w λe w'=>e=.returned (.int .i64 (sD rows))/\Bw w w':=by
 obtain⟨vals,hvl,hat,hp⟩:=ha;have vE:=λN=>QD (w:=w) N hvl hp;have hcl:∀(bn:Nat) (W:World),W.cell? ⟨bn,0,none⟩=some (.slice a L cap)->At W a vals->Calls Tryz.prog 179 #[.slice a L cap,.func (.func 180) #[] #[.pointer (some ⟨bn,0,none⟩)]] W λe w'=>e=.returned (.bool (rows.any λr=>decide ((r.length:Int)≠(L:Int))))/\Bw W w':=by intro bn W hc hA;rw[<-vE];refine aeb a L cap vals 180 #[.pointer (some ⟨bn,0,none⟩)] (wB (L:Int)) W (by rw[hvl,hL]) hl hA (enters_of Tryz.func180 zk rfl) (λv hv W' hb=>?_);obtain⟨i,hi,rfl⟩:=List.mem_iff_getElem.1 hv;obtain⟨a',cap',e,_⟩:=hp i (by rw[<-hvl];exact hi) hi;rw[e];exact aiu bn a L cap a' _ cap' W' (cell_later hb hc)
 have hv:sD rows=if 8<L\/(rows.any λr=>decide ((r.length:Int)≠(L:Int)))=true then 1 else 0:=by unfold sD;rw[hL]
 obtain⟨T,hT⟩:=az (rows.any λr=>decide ((r.length:Int)≠(L:Int)));rw[hT]at hv;simp only[hT]at hcl;obtain⟨fR,ej,Hv⟩:=cP hcl hat hv;obtain⟨V,hV⟩:=az (sD rows);rw[hV]at Hv⊢;clear hcl hat hv vE hvl hp hL hT hV;obtain⟨W,cL,Hb,Hn⟩:=gX w 124 [.slice a L cap];have n0:=Hn.out.c1;go_enter Tryz.func141,Tryz.ntmps141;by_cases h1:8<L
 . have hv:=Hv.out;rw[if_pos (.inl h1)]at hv;subst hv;have h2:(8:Int)<(L:Int):=by omega
   go_wp2;refine bodyPost_ret (v:=.int .i64 1) (by simp[results,Tryz.results141,go_sem]) rfl ⟨rfl,?_⟩;(repeat first|exact Hb.out| (refine Below.setCell ?_ (by have:=Hb.out.size;first| (dsimp only;omega) | (show _<=_;omega) | (simp<;>omega)) _) | (refine Below.alloc ?_ zt _) |refine Below.drew ?_)
 . have h2:¬(8:Int)<(L:Int):=by omega
   have iX:=af (fR.out w.heap.size W n0 (ej.out.below Hb.out));go_wp2_with fail;refine(iX.out).mono ?_;rintro e w1 ⟨rfl,ae⟩;clear n0;replace Hn:=kB Hn ae;have n0:=Hn.out.c1;replace Hb:=ak Hb ae;clear ae;cases T with
   |true=>have hv:=Hv.out;rw[if_pos (.inr rfl)]at hv;subst hv;go_wp2;refine bodyPost_ret (v:=.int .i64 1) (by simp[results,Tryz.results141,go_sem]) rfl ⟨rfl,?_⟩;(repeat first|exact Hb.out| (refine Below.setCell ?_ (by have:=Hb.out.size;first| (dsimp only;omega) | (show _<=_;omega) | (simp<;>omega)) _) | (refine Below.alloc ?_ zt _) |refine Below.drew ?_)
   |false=>have hv:=Hv.out;rw[if_neg (by rintro(h|h);omega;cases h)]at hv;subst hv;go_wp2;refine bodyPost_ret (v:=.int .i64 0) (by simp[results,Tryz.results141,go_sem]) rfl ⟨rfl,?_⟩;(repeat first|exact Hb.out| (refine Below.setCell ?_ (by have:=Hb.out.size;first| (dsimp only;omega) | (show _<=_;omega) | (simp<;>omega)) _) | (refine Below.alloc ?_ zt _) |refine Below.drew ?_)
theorem NQ {rows:List (List Raw)}{n:Int}(h:lN rows=n)(h0:n≠0):1<=n/\n<=8/\(rows.length:Int)=n+1/\∀r∈rows,(r.length:Int)=n:=by
 unfold lN at h;dsimp only at h;split at h
 . exact absurd h.symm h0
 . rename_i hc
   simp only[not_or,Bool.not_eq_true,List.any_eq_false,decide_eq_true_eq,Decidable.not_not]at hc;obtain⟨h1,h2,h3⟩:=hc;refine⟨by omega,by omega,by omega,λr hr=>?_⟩;have:=h3 r hr;omega
theorem Yu {rows:List (List Raw)}{n:Nat}(h1:rows.length=n+1)(h2:∀r∈rows,r.length=n)(h3:1<=n)(h8:n<=8):lN rows=n:=by
 unfold lN;dsimp only;rw[if_neg]
 . omega
 . rintro(h|h|h)
   . omega
   . omega
   . rw[List.any_eq_true]at h;obtain⟨r,hr,h⟩:=h;have:=h2 r hr;simp[h1,this]at h
end Go.Proofs.YtoopepmmepmfnaaGreatDoor
namespace Go.Proofs.YtoopepmmepmfnaaGreatDoor
theorem ah3 {c:Nat->Bool}{d:Nat}(f q n:Nat)(h:jY c d f q=some n):d*q<=n:=by
 induction f generalizing q with
 |zero=>cases h
 | succ f ih=>
   unfold jY at h;split at h
   . cases h
   . split at h
     . simp at h;omega
     . have h2:=ih (q+1) h;rw[Nat.mul_add]at h2;omega
theorem ah4 {c c':Nat->Bool}(hc:∀q,c' q=true->c q=true){d:Nat}(f q x:Nat)(h:jY c' d f q=some x):∃n,jY c d f q=some n/\n<=x:=by
 induction f generalizing q with
 |zero=>cases h
 | succ f ih=>
   have hge:=ah3 _ _ _ h;unfold jY at h;split at h
   . cases h
   . rename_i h1
     split at h
     . rename_i h2
       refine⟨d*q,?_,by simp at h;omega⟩;unfold jY;rw[if_neg h1,if_pos (hc q h2)]
     . by_cases h3:c q=true
       . exact⟨d*q,by unfold jY;rw[if_neg h1,if_pos h3],hge⟩
       . obtain⟨n,h4,h5⟩:=ih (q+1) h;exact⟨n,by unfold jY;rw[if_neg h1,if_neg h3];exact h4,h5⟩
def gT (g m:Dyadic)(ds:Nat->Dyadic)(bx:List Pr):Option Nat:=if aL (g-m)<0 then some 0 else wj (λk=>decide (aL (jk g ds (kK bx k) bx.length-m)<0)) 1
theorem QR {g m g' m':Dyadic}{ds:Nat->Dyadic}{bx:List Pr}(h0:g'-m'<0->g-m<0)(h1:∀t,jk g' ds t bx.length-m'<0->jk g ds t bx.length-m<0){x:Nat}(h:gT g' m' ds bx=some x):∃n,gT g m ds bx=some n/\n<=x:=by
 unfold gT at h⊢;by_cases h2:aL (g-m)<0
 . exact⟨0,by rw[if_pos h2],Nat.zero_le _⟩
 . rw[if_neg h2];rw[if_neg (λh3=>h2 ((oF _).2 (h0 ((oF _).1 h3))))]at h;refine ah4 (λq hq=>?_) _ _ _ h;have hq2:=of_decide_eq_true hq;exact decide_eq_true ((oF _).2 (h1 _ ((oF _).1 hq2)))
theorem akO (g g':Dyadic)(ds:Nat->Dyadic)(t:Nat->Nat)(h:g'=g+g)(L:Nat):jk g' ds t L=jk g ds t L+jk g ds t L:=by
 induction L with
 |zero=>unfold jk;grind
 |succ L ih=>unfold jk;rw[ih,h];grind
theorem Tn {m h:Dyadic}(hh:h+h=1)(h0:0<m):m*h<m/\0<m*h:=by
 have h1:m*h+m*h=m:=by
  have:m*h+m*h=m* (h+h):=by grind
  rw[this,hh];grind
 grind
theorem adG {g m:Dyadic}{ds:Nat->Dyadic}{bx:List Pr}(hm:0<m){x:Nat}(h:gT g (m*hp 1) ds bx=some x):∃n,gT g m ds bx=some n/\n<=x:=by have h1:=(Tn Va hm).1;exact QR (by grind) (λt=>by grind) h
theorem adI {g m:Dyadic}{ds:Nat->Dyadic}{bx:List Pr}(hm:0<m){x:Nat}(h:gT (g+g) m ds bx=some x):∃n,gT g m ds bx=some n/\n<=x:=by refine QR (by grind) (λt=>?_) h;rw[akO g (g+g) ds t rfl];grind
def sG (k:Nat):Int:=2^(k+1)-1
theorem ai0 (k:Nat):sG (k+1)=sG k*2+1:=by unfold sG;rw[Int.pow_succ 2 (k+1)];omega
end Go.Proofs.YtoopepmmepmfnaaGreatDoor
namespace Go.Proofs.YtoopepmmepmfnaaGreatDoor
open Go.RowKit
attribute [local go_sem ↓] Go.wp_at_zero Go.wp_at_succ
def Bv (w:World)(x:Value)(n v:Nat):Prop:=v<2^n/\((x=.slice none 0 0/\n=0)\/∃b o cap,x=.slice (some ⟨b,o,none⟩) n cap/\n<=cap/\∀j,j<n->w.cell? ⟨b,o+j,none⟩=some (.int .u8 (bd v j:Int)))
theorem Bv.below {w w':World}{x:Value}{n v:Nat}(h:Bv w x n v)(hb:Bw w w'):Bv w' x n v:=by
 refine⟨h.1,?_⟩;rcases h.2 with h|⟨b,o,cap,e,h1,hc⟩
 . exact .inl h
 . exact .inr ⟨b,o,cap,e,h1,λj hj=>cell_later hb (hc j hj)⟩
theorem Bv.aqL {w:World}{base:Nat}{e:TypeId}{x:Value}{n v:Nat}(h:w.ownsRow base e 1 x n (cG n (bd v)))(hx:v<2^n):Bv w x n v:=by
 refine⟨hx,?_⟩;rcases h.2 with⟨rfl,rfl⟩ |⟨g,cap,cur,rfl,hb,hg,h2,h3,h4,h5⟩
 . exact .inl ⟨rfl,rfl⟩
 . refine .inr ⟨g,0,cap,rfl,h2,λj hj=>?_⟩;have:=h.cells (g:=g) rfl j _ (kM n (bd v) j hj);have e2:((⟨g,0,none⟩:Addr).add j)=⟨g,j,none⟩:=by simp[Addr.add];omega
   rw[Nat.zero_add,<-e2];exact this
theorem Bv.aqF {w:World}{b:Nat}{t:TypeId}{n v:Nat}(h:ag w b t (cG n (bd v)))(hv:v<2^n):Bv w (.slice (some ⟨b,0,none⟩) n n) n v:=
 ⟨hv,.inr ⟨b,0,n,rfl,Nat.le_refl _,λj hj=>by rw[Nat.zero_add,h.cell,kM _ _ _ hj]⟩⟩
theorem Xo (b o n cap v:Nat)(w:World)(hm:n<=1099511627776)(hcap:n<=cap)(hc:∀j,j<n->w.cell? ⟨b,o+j,none⟩=some (.int .u8 (bd v j:Int)))(hv:v<2^n):
 Calls Tryz.prog 168 #[.slice (some ⟨b,o,none⟩) n cap] w λe w'=>e=.returned (.slice (some ⟨b,o,none⟩) (aU v) cap)/\w=w':=by
 have Hc:=af hc;clear hc;have Hv:=af hv;clear hv;go_enter Tryz.func168,Tryz.ntmps168;go_wp2_with fail;go_loop [3] (λx=>∃k:Nat,k<=n/\v<2^k/\x=.int .i64 (k:Int)) (λx=>(intOf x).toNat)
 case atStart=>exact⟨n,Nat.le_refl _,Hv.out,rfl⟩
 case round=>
  obtain⟨k,hk,hvk,rfl⟩:=hrel;have kZ:=af hvk;clear hvk;by_cases h0:0<k
  . have hcell:w.cell? ⟨b,o+(k-1),none⟩=some (.int .u8 (bd v (k-1):Int)):=Hc.out _ zo;have aX:=BN n cap (k-1) ((k:Int)-1) (rfl:(some ⟨b,o,none⟩:Option Addr)=_) zo zo;rw[Nat.mul_one]at aX;by_cases hd:bd v (k-1)=0
    . have hd':((bd v (k-1):Int)==0)=true:=by simp[hd]
      have Hd:=af hd;clear hd;go_wp2;refine⟨⟨k-1,by omega,?_,by go_num⟩,by simp[intOf];omega⟩;refine adC ?_ Hd.out;rw[show k-1+1=k by omega];exact kZ.out
    . have hd':((bd v (k-1):Int)==0)=false:=by simp[hd]
      have Hd:=af hd;clear hd;go_wp2;go_ret;have e:aU v=k:=by have:=adk (v:=v) (k:=k-1) (by rw[show k-1+1=k by omega];exact kZ.out) (adB Hd.out);omega
      rw[e];exact⟨rfl,rfl⟩
  . obtain rfl:k=0:=by omega
    go_wp2;go_ret;have e:aU v=0:=by have:=kZ.out;simp at this;subst this;rfl
    rw[e];exact⟨rfl,rfl⟩
theorem Xp (w:World):
 Calls Tryz.prog 168 #[.slice none 0 0] w λe w'=>e=.returned (.slice none 0 0)/\w=w':=by
 go_enter Tryz.func168,Tryz.ntmps168;go_wp2_with fail;refine wp_loop_rounds 1 ?_;rw[rounds_succ];go_wp2;go_ret;exact⟨rfl,rfl⟩
def zZ (x:Value)(lo:Nat):Prop:=∀b o n c,x=.slice (some ⟨b,o,none⟩) n c->lo<=b
theorem Nq (x:Value)(n v:Nat)(w:World)(hm:n<=1099511627776)(hx:Bv w x n v):
 Calls Tryz.prog 168 #[x] w λe w'=>(∃y,e=.returned y/\Bv w y (aU v) v/\∀lo,zZ x lo->zZ y lo)/\w=w':=by
 have hl:=iJ hx.1;rcases hx.2 with⟨rfl,rfl⟩ |⟨b,o,cap,rfl,h1,hc⟩
 . refine(Xp w).mono ?_;rintro e w' ⟨rfl,rfl⟩;exact⟨⟨_,rfl,⟨oz v,.inl ⟨rfl,by omega⟩⟩,λ_ h=>h⟩,rfl⟩
 . refine(Xo b o n cap v w hm h1 hc hx.1).mono ?_;rintro e w' ⟨rfl,rfl⟩;exact⟨⟨_,rfl,⟨oz v,.inr ⟨b,o,cap,rfl,by omega,λj hj=>hc j zo⟩⟩,λlo h b' o' n' c' e=>by cases e;exact h _ _ _ _ rfl⟩,rfl⟩
theorem akg (b o n cap v:Nat)(w:World)(hm:n<=1099511627776)(hcap:n<=cap)(hc:∀j,j<n->w.cell? ⟨b,o+j,none⟩=some (.int .u8 (bd v j:Int)))(hv:v<2^n):
 Calls Tryz.prog 119 #[.slice (some ⟨b,o,none⟩) n cap] w λe w'=>e=.returned (.string (bs (nt v)))/\Bw w w':=by
 have hle:=iJ hv;have hcut:=Xo b o n cap v w hm hcap hc hv;have hvl:=oz v;have rq:Hid ((List.range ((aU v+7)/8)).map (λj=>UInt8.ofNat (v/256^((aU v+7)/8-1-j)%256))=nt v):=MP _ _ (Ae v).1 (Ae v).2;generalize hL:aU v=L at*;obtain⟨nb,hnb⟩:=az ((L+7)/8);have hmk:=ut (((L:Int)+7)/8) nb zo zo;have LJ:((L:Int)+7)/8=(nb:Int):=by omega
 rw[LJ]at hmk;rw[hnb]at rq;obtain⟨ZU,Hc,Hv,rC,HL⟩:=iA hcut hc hv hvl hL;clear hcut hc hv hvl hL;go_enter Tryz.func119,Tryz.ntmps119;go_wp2_with fail;refine ZU.out.mono ?_;rintro e w' ⟨rfl,rfl⟩;go_wp2_with fail;go_loopw[4] (λi wr=>∃k:Nat,k<=L/\i=.int .i64 (k:Int)/\ag wr w.heap.size 5 (cG nb (λj=>v%2^k/256^(nb-1-j)%256))/\Bw w wr) (λi _=>L-(intOf i).toNat);case atStart=>
  refine⟨0,Nat.zero_le _,rfl,?_,zl⟩;have e:cG nb (λj=>v%2^0/256^(nb-1-j)%256)=cG nb λ_=>0:=nR λj hj=>by simp[Nat.mod_one]
  rw[e];exact ag.new _ _ _
 case round=>
  obtain⟨k,hk,rfl,hB,hb⟩:=hrel;by_cases hlt:k<L
  . have hq:k/8<nb:=by omega
    obtain⟨Z,hZ⟩:=az (bd v k);have hZ1:Z<=1:=by rw[<-hZ];exact tE v k
    have jb:wr.cell? ⟨b,o+k,none⟩=some (.int .u8 (Z:Int)):=by rw[<-hZ];exact cell_later hb (Hc.out _ zo)
    obtain⟨A,hA⟩:=az (v%2^k/256^(k/8)%256);have hcell:wr.cell? ⟨w.heap.size,nb-1-k/8,none⟩=some (.int .u8 (A:Int)):=by rw[hB.cell,kM _ _ _ zo,show nb-1-(nb-1-k/8)=k/8 by omega,hA]
    have hfree:wr.frozen? ⟨w.heap.size,nb-1-k/8,none⟩=false:=hB.free _;obtain⟨hb1,hb2⟩:=adJ v k;rw[hA,hZ]at hb1 hb2;have bD:=hB.set (nb-1-k/8) (.int .u8 ((A+Z*2^(k%8):Nat):Int));have hb3:=hb.setCell (p:=⟨w.heap.size,nb-1-k/8,none⟩) (Nat.le_refl _) (.int .u8 ((A+Z*2^(k%8):Nat):Int))
    rw[Cq,nR (g:=λj=>v%2^(k+1)/256^(nb-1-j)%256) λj hj=>by
     by_cases rT:j=nb-1-k/8
     . subst rT;rw[if_pos rfl,show nb-1-(nb-1-k/8)=k/8 by omega,hb1]
     . rw[if_neg rT,adK v k _ zo]]at bD
    obtain⟨dU,Hb⟩:=aJ bD hb3;clear hB hb bD hb3 hb1 hA hZ;have He:Hid ((((A:Int)+(Z:Int) *2^(k%8))%256)=((A+Z*2^(k%8):Nat):Int)):=by
     show _=_
     have:((Z:Int) *2^(k%8))=((Z*2^(k%8):Nat):Int):=by simp
     rw[this];omega
    clear hb2;go_wp2;go_region
    go_wp2;go_roundw;case rel=>rw[He.out];exact⟨k+1,by omega,by go_num,dU.out,Hb.out.drew⟩
    case measure=>simp[intOf];omega
  . obtain rfl:k=L:=by omega
    rw[Nat.mod_eq_of_lt rC.out]at hB;have rR:=yI hB nb;rw[rq.out]at rR;have Hb:=af hb;clear hb hB;go_wp2;go_ret;exact⟨rfl,Hb.out⟩
theorem akh (w:World):
 Calls Tryz.prog 119 #[.slice none 0 0] w λe w'=>e=.returned (.string (bs []))/\Bw w w':=by
 have hmk:=ut 0 0 rfl zo;have rR:=yI (ag.new w 5 (cG 0 λ_=>0)) 0;go_enter Tryz.func119,Tryz.ntmps119;go_wp2_with fail;refine(Xp w).mono ?_;rintro e w' ⟨rfl,rfl⟩;go_wp2_with fail;refine wp_loop_rounds 1 ?_;rw[rounds_succ];go_wp2;go_ret;exact⟨rfl,zl⟩
theorem Cj (x:Value)(n v:Nat)(w:World)(hm:n<=1099511627776)(hx:Bv w x n v):
 Calls Tryz.prog 119 #[x] w λe w'=>e=.returned (.string (bs (nt v)))/\Bw w w':=by
 rcases hx.2 with⟨rfl,rfl⟩ |⟨b,o,cap,rfl,h1,hc⟩
 . have h0:=hx.1;obtain rfl:v=0:=by simpa using h0
   exact akh w
 . exact akg b o n cap v w hm h1 hc hx.1
theorem Yp (n:Nat)(f:Nat->Nat):cG (n+1) f=cG n f++[.int .u8 (f n:Int)]:=by unfold cG;rw[List.range_succ,List.map_append];rfl
theorem ake (N:Nat)(w:World)(hN:N<WW):
 Calls Tryz.prog 72 #[.int .u64 (N:Int)] w λe w'=>e=.returned (.string (bs (nt N)))/\Bw w w':=by
 obtain⟨i0,hi,hz0,hz1,hz2⟩:=info_parts Tryz.aqI;have hNb:aU N<=64:=iJ (by rw[jo]at hN;exact hN);have hW:=il;go_enter Tryz.func72,Tryz.ntmps72;go_wp2_with fail;go_loopw[0,3] (λu v wr=>∃k:Nat,k<=aU N/\u=.int .u64 ((N/2^k:Nat):Int)/\wr.ownsRow w.heap.size 5 1 v k (cG k (bd N))/\Bw w wr) (λu _ _=>(intOf u).toNat);case atStart=>exact⟨0,Nat.zero_le _,by simp,World.ownsRow_nil _ _ _ _,Below.refl _ _⟩
 case round=>
  obtain⟨k,hk,rfl,hown,hb⟩:=hrel;obtain⟨M,hM⟩:=az (N/2^k);have AE:M<18446744073709551616:=by have:=Nat.div_le_self N (2^k);omega
  have HM:=af hM;rw[hM];have xR:N/2^(k+1)=M/2:=by rw[Nat.pow_succ,<-Nat.div_div_eq_div_mul,hM]
  have TC:bd N k=M%2:=by unfold bd;rw[hM]
  obtain⟨uN,CJ⟩:=aJ xR TC;clear hM xR TC hW hN;by_cases h0:0<M
  . have Ea:(0:Int)<(M:Int):=by omega
    have hkl:k<aU N:=by
     rcases Nat.lt_or_ge k (aU N)with h|h
     . exact h
     . have h1:N<2^k:=Nat.lt_of_lt_of_le (oz N) (Nat.pow_le_pow_right zd h);have:=HM.out;rw[Nat.div_eq_of_lt h1]at this;omega
    have hs0:=hb.size;have lU:=af hown;clear hown;go_wp2_with (first| (at_builtin;refine wpList_append_own _ rfl _ _ 94 rfl w.heap.size 5 i0 (.int .u8 0) 1 1 Tryz.underlying94 hi hz0 hz1 hz2 rfl zd _ _ _ rfl (lU.out.alloc _) ⟨wr.heap.size,0,none⟩ 1 1 [.int .u8 ((M:Int)%2)] rfl rfl (cell_one_new _ _ _) zy zx zo zi ?_;intro v' w1 ho hg _;obtain⟨Ho,Hg⟩:=aJ ho hg;clear ho hg));go_roundw;case rel=>
     refine⟨k+1,by omega,?_,?_,?_⟩
     . rw[uN.out];go_num
     . rw[Yp,CJ.out];have e:((M%2:Nat):Int)=(M:Int)%2:=by omega
       rw[e];exact Ho.out
     . exact(hb.alloc hs0 _).grown Hg.out zi (λj e=>eJ lU.out j e)
    case measure=>simp[intOf];omega
  . obtain rfl:M=0:=by omega
    have Un:N<2^k:=by have:=HM.out;exact(Nat.div_eq_zero_iff_lt (Nat.pow_pos zd)).1 this
    obtain⟨GN,Hb⟩:=aJ (Bv.aqL hown Un) hb;clear hown Un hb;go_wp2_with fail;refine(Cj u3 k N wr zo GN.out).mono ?_;rintro e w2 ⟨rfl,hb2⟩;have cQ:=af hb2;clear hb2;go_wp2;go_ret;exact⟨rfl,aG Hb.out cQ.out⟩
theorem QB (a:Nat)(ha:a<256):bits .and .u8 (a:Int) 1=((a%2:Nat):Int):=by
 have h1:(BitVec.ofInt 8 (a:Int)).toNat=a:=by rw[BitVec.ofInt_natCast,BitVec.toNat_ofNat];exact Nat.mod_eq_of_lt zo
 show IntKind.u8.wrap ((BitVec.ofInt 8 (a:Int)&&&BitVec.ofInt 8 1).toNat:Int)=_
 rw[BitVec.toNat_and,h1,show(BitVec.ofInt 8 1).toNat=1 from rfl,Nat.and_one_is_mod,IntKind.wrap_u8];omega
theorem Ch (l:List UInt8)(w:World)(hl:l.length<=68719476736):
 Calls Tryz.prog 131 #[.string (bs l)] w λe w'=>(∃y,e=.returned y/\Bv w' y (aU (nv l)) (nv l))/\Bw w w':=by
 obtain⟨i0,hi,hz0,hz1,hz2⟩:=info_parts Tryz.aqI;have hsz:(bs l).size=l.length:=lV l;go_enter Tryz.func131,Tryz.ntmps131;go_wp2_with fail;go_loopw[3,4,5] (λv i _ wr=>∃m:Nat,m<=l.length/\i=.int .i64 ((l.length:Int)-1-(m:Int))/\wr.ownsRow w.heap.size 5 1 v (8*m) (cG (8*m) (bd (nv l)))/\Bw w wr) (λ_ i _ _=>(intOf i+1).toNat);case atStart=>exact⟨0,Nat.zero_le _,by go_num,World.ownsRow_nil _ _ _ _,Below.refl _ _⟩
 case round=>
  obtain⟨m,hm,rfl,hown,hb⟩:=hrel;obtain⟨lU,Hb⟩:=aJ hown hb;clear hown hb;by_cases hlt:m<l.length
  . have hge:(m:Int)<=(l.length:Int)-1:=by omega
    have fL:=yl l ((l.length:Int)-1-(m:Int)) (l.length-1-m) zo zo;have ZQ:Hid (∀k,k<8->l[l.length-1-m].toNat/2^k%2=bd (nv l) (8*m+k)):=λk hk=>ajd l m k hlt hk;have hC:=(l[l.length-1-m]'zo).toNat_lt;generalize hCe:l[l.length-1-m].toNat=C at*;clear hCe;go_wp2_with fail;go_loopw[3,5] (λv j wr=>∃k:Nat,k<=8/\j=.int .i64 (k:Int)/\wr.ownsRow w.heap.size 5 1 v (8*m+k) (cG (8*m+k) (bd (nv l)))/\Bw w wr) (λ_ j _=>8-(intOf j).toNat);case atStart=>exact⟨0,Nat.zero_le _,rfl,lU.out,Hb.out⟩
    case round=>
     clear lU Hb;obtain⟨k,hk,rfl,hown,hb⟩:=hrel;obtain⟨lU,Hb⟩:=aJ hown hb;have hs0:=hb.size;clear hown hb;by_cases hk8:k<8
     . obtain ⟨Z,hZ⟩:=az (C/2^k%2);have hbk:=ZQ.out k hk8;rw[hZ]at hbk;have zq:=af hbk;clear hbk;have hand:bits .and .u8 ((C:Int)/2^k) 1=(Z:Int):=by
        have e:(C:Int)/2^k=((C/2^k:Nat):Int):=by simp
        have:=Nat.div_le_self C (2^k);rw[e,QB _ zo,hZ]
       clear hZ;go_wp2_with (first| (at_builtin;refine wpList_append_own _ rfl _ _ 94 rfl w.heap.size 5 i0 (.int .u8 0) 1 1 Tryz.underlying94 hi hz0 hz1 hz2 rfl zd _ _ _ rfl (lU.out.alloc _) ⟨wr.heap.size,0,none⟩ 1 1 [.int .u8 (Z:Int)] rfl rfl (cell_one_new _ _ _) zy zx zo zi ?_;intro v' w1 ho hg _;obtain⟨Ho,Hg⟩:=aJ ho hg;clear ho hg));go_roundw;case rel=>
        refine⟨k+1,by omega,?_,?_,?_⟩
        . go_num
        . rw[<-Nat.add_assoc,Yp,<-zq.out];exact Ho.out
        . exact(Hb.out.alloc hs0 _).grown Hg.out zi (λj e=>eJ lU.out j e)
       case measure=>simp[intOf];omega
     . obtain rfl:k=8:=by omega
       go_wp2;go_roundw;case rel=>exact⟨m+1,by omega,by go_num,lU.out,Hb.out⟩
       case measure=>simp[intOf];omega
  . obtain rfl:m=l.length:=by omega
    have GN:=af (Bv.aqL lU.out (yu l));clear hlt;go_wp2_with fail;refine(Nq u3 (8*l.length) (nv l) wr zo GN.out).mono ?_;rintro e w2 ⟨⟨y,rfl,hy,_⟩,rfl⟩;have Hy:=af hy;clear hy;go_wp2;go_ret;exact⟨⟨_,rfl,Hy.out⟩,Hb.out⟩
theorem FM (x:Value)(n v i:Nat)(w:World)(hx:Bv w x n v)(hi:i<=1099511627776)(hn:n<=1099511627776):
 Calls Tryz.prog 175 #[x,.int .i64 (i:Int)] w λe w'=>e=.returned (.int .u8 (bd v i:Int))/\w=w':=by
 obtain⟨hv,h⟩:=hx;by_cases hlt:i<n
 . rcases h with⟨rfl,h0⟩ |⟨b,o,cap,rfl,h1,hc⟩
   . omega
   . have hcell:=hc i hlt;have aX:=BN n cap i (i:Int) (rfl:(some ⟨b,o,none⟩:Option Addr)=_) hlt rfl;rw[Nat.mul_one]at aX;clear hc hv;go_enter Tryz.func175,Tryz.ntmps175;go_wp2;go_ret;exact⟨rfl,rfl⟩
 . have h0:bd v i=0:=ade hv zo;have H0:=af h0;clear h0 hv;rcases h with⟨rfl,h0⟩ |⟨b,o,cap,rfl,h1,hc⟩
   . subst h0;go_enter Tryz.func175,Tryz.ntmps175;go_wp2;go_ret;exact⟨by rw[H0.out];rfl,rfl⟩
   . clear hc;go_enter Tryz.func175,Tryz.ntmps175;go_wp2;go_ret;exact⟨by rw[H0.out];rfl,rfl⟩
theorem Bv.len {w:World}{x:Value}{n v:Nat}(h:Bv w x n v):∃a cap,x=.slice a n cap:=by
 rcases h.2 with⟨rfl,rfl⟩ |⟨b,o,cap,rfl,_⟩
 . exact⟨_,_,rfl⟩
 . exact⟨_,_,rfl⟩
theorem aj1 (x y:Value)(n m v u:Nat)(w:World)(hx:Bv w x n v)(hy:Bv w y m u)(hn:n<=1099511627776)(hm:m<=1099511627776):
 Calls Tryz.prog 176 #[x,y] w λe w'=>e=.returned (.int .i64 (cJ v u))/\w=w':=by
 obtain⟨a,cap,nK⟩:=hx.len;obtain⟨a',cap',Mt⟩:=hy.len;have iz:=λi (hi:i<=1099511627776)=>FM x n v i w hx hi hn;have hby:=λi (hi:i<=1099511627776)=>FM y m u i w hy hi hm;have hv:=hx.1;have hu:=hy.1;subst nK;subst Mt;obtain⟨rc,sV,Hv,Hu⟩:=dt iz hby hv hu;clear iz hby hv hu hx hy;obtain⟨M,hM⟩:=az (max n m);have hMI:max (n:Int) (m:Int)=(M:Int):=by omega
 have bR:Hid (v/2^M=u/2^M):=by
  show _=_
  rw[Nat.div_eq_of_lt (Nat.lt_of_lt_of_le Hv.out (Nat.pow_le_pow_right zd zo)),Nat.div_eq_of_lt (Nat.lt_of_lt_of_le Hu.out (Nat.pow_le_pow_right zd zo))]
 have AE:M<=1099511627776:=by omega
 clear hM;go_enter Tryz.func176,Tryz.ntmps176;go_wp2_with fail;go_loop [5] (λi=>∃k:Nat,k<=M/\v/2^k=u/2^k/\i=.int .i64 ((k:Int)-1)) (λi=>(intOf i+1).toNat)
 case atStart=>exact⟨M,Nat.le_refl _,bR.out,rfl⟩
 case round=>
  obtain⟨k,hk,hvk,rfl⟩:=hrel;have kZ:=af hvk;clear hvk;by_cases h0:0<k
  . obtain⟨j,rfl⟩:∃j,k=j+1:=⟨k-1,by omega⟩;have iz:=rc.out j zo;have hby:=sV.out j zo;obtain⟨pK,Hgt,CO⟩:=cP (λh=>QI (v:=v) (u:=u) kZ.out h) (λh=>QI (v:=u) (u:=v) kZ.out.symm h) (λh=>adc (v:=v) (u:=u) kZ.out h);have hp1:=tE v j;have hq1:=tE u j;generalize bd v j=p at*;generalize bd u j=q at*;obtain⟨H1,H2⟩:=aJ iz hby;clear iz hby;have hj:((j+1:Nat):Int)-1=(j:Int):=by omega
    rw[hj];clear hj h0;go_wp2_with fail;refine H1.out.mono ?_;rintro e w' ⟨rfl,rfl⟩;go_wp2_with fail;refine H2.out.mono ?_;rintro e w' ⟨rfl,rfl⟩;by_cases hpq:p<q
    . have agR:(p:Int)<(q:Int):=by omega
      go_wp2;go_ret;have:=pK.out hpq;exact⟨by unfold cJ;rw[if_pos this];rfl,rfl⟩
    . have agR:¬(p:Int)<(q:Int):=by omega
      go_wp2_with fail;refine H1.out.mono ?_;rintro e w' ⟨rfl,rfl⟩;go_wp2_with fail;refine H2.out.mono ?_;rintro e w' ⟨rfl,rfl⟩;by_cases hqp:q<p
      . have agU:(q:Int)<(p:Int):=by omega
        go_wp2;go_ret;have:=Hgt.out hqp;exact⟨by unfold cJ;rw[if_neg zo,if_pos this];rfl,rfl⟩
      . have agU:¬(q:Int)<(p:Int):=by omega
        go_wp2;refine⟨⟨j,by omega,CO.out zo,by go_num⟩,by simp[intOf]⟩
  . obtain rfl:k=0:=by omega
    have he:v=u:=by simpa using kZ.out
    go_wp2;go_ret;exact⟨by unfold cJ;rw[if_neg zo,if_neg zo];rfl,rfl⟩
theorem akc (x y:Value)(n m v u:Nat)(w:World)(hx:Bv w x n v)(hy:Bv w y m u)(hn:n<=1099511627776)(hm:m<=1099511627776)(rY:u<=v):
 Calls Tryz.prog 134 #[x,y] w λe w'=>(∃z,e=.returned z/\Bv w' z n (v-u)/\zZ z w.heap.size)/\Bw w w':=by
 obtain⟨a,cap,nK⟩:=hx.len;obtain⟨a',cap',Mt⟩:=hy.len;have iz:=λW (hW:Bw w W) i (hi:i<=1099511627776)=>FM x n v i W (hx.below hW) hi hn;have hby:=λW (hW:Bw w W) i (hi:i<=1099511627776)=>FM y m u i W (hy.below hW) hi hm;have ve:Hid (v-u<2^n):=by show _<_;have:=hx.1;omega
 subst nK;subst Mt;obtain⟨rc,sV,zW⟩:=cP iz hby rY;clear iz hby hx hy rY;have hmk:=ut (n:Int) n rfl zo;go_enter Tryz.func134,Tryz.ntmps134;go_wp2_with fail;go_loopw[6,7,8] (λb i _ wr=>∃k:Nat,k<=n/\i=.int .i64 (k:Int)/\b=.int .u8 (bb v u k:Int)/\ag wr w.heap.size 5 (cG n (λj=>if j<k then bd (v-u) j else 0))/\Bw w wr) (λ_ i _ _=>n-(intOf i).toNat);case atStart=>
  refine⟨0,Nat.zero_le _,rfl,by rw[ada];rfl,?_,zl⟩;have e:cG n (λj=>if j<0 then bd (v-u) j else 0)=cG n λ_=>0:=nR λj hj=>by rw[if_neg zo]
  rw[e];exact ag.new _ _ _
 case round=>
  obtain⟨k,hk,rfl,rfl,hB,hb⟩:=hrel;by_cases hlt:k<n
  . obtain⟨H1,H2⟩:=aJ (rc.out wr hb k zo) (sV.out wr hb k zo);have hs:=ac9 v u k;have hd:=ac8 v u k zW.out;have hp:=tE v k;have hq:=tE u k;have hr:=QG v u k;have hcell:wr.cell? ⟨w.heap.size,k,none⟩=some (.int .u8 0):=by rw[hB.cell,kM _ _ _ hlt,if_neg zo];rfl
    have hfree:wr.frozen? ⟨w.heap.size,k,none⟩=false:=hB.free _;have bD:=hB.set k (.int .u8 ((bd (v-u) k:Nat):Int))
    rw[Cq,nR (g:=λj=>if j<k+1 then bd (v-u) j else 0) λj hj=>by
     by_cases e:j=k
     . subst e;rw[if_pos rfl,if_pos zo]
     . rw[if_neg e];by_cases e2:j<k
       . rw[if_pos e2,if_pos zo]
       . rw[if_neg e2,if_neg zo]]at bD
    obtain⟨dU,Hb⟩:=aJ bD (hb.setCell (p:=⟨w.heap.size,k,none⟩) (Nat.le_refl _) (.int .u8 ((bd (v-u) k:Nat):Int)));clear hB bD hb;generalize bd v k=p at*;generalize bd u k=q at*;generalize bb v u k=r at*;generalize bd (v-u) k=z at*;have Hs:=af hs;clear hs;obtain⟨S,hS⟩:=az (2+p-q-r);have hS3:S<=3:=by omega
    have hw1:IntKind.u8.wrap (2+(p:Int))=2+(p:Int):=by rw[IntKind.wrap_u8];omega
    have hw2:IntKind.u8.wrap (2+(p:Int)-(q:Int))=2+(p:Int)-(q:Int):=by rw[IntKind.wrap_u8];omega
    have hw3:IntKind.u8.wrap (2+(p:Int)-(q:Int)-(r:Int))=(S:Int):=by rw[IntKind.wrap_u8];omega
    have hand:bits .and .u8 (S:Int) 1=(z:Int):=by rw[QB S zo,<-hd];omega
    obtain⟨HS,Hd⟩:=aJ hS hd;clear hS hd;go_wp2_with fail;refine H1.out.mono ?_;rintro e w' ⟨rfl,rfl⟩;go_wp2_with fail;refine H2.out.mono ?_;rintro e w' ⟨rfl,rfl⟩;go_wp2;go_roundw;case rel=>refine⟨k+1,by omega,by go_num,?_,dU.out,Hb.out⟩;rw[Hs.out];have:=HS.out;congr 1;split<;>omega
    case measure=>simp[intOf];omega
  . obtain rfl:k=n:=by omega
    rw[nR (g:=bd (v-u)) λj hj=>by rw[if_pos hj]]at hB;obtain⟨Hz,Hb⟩:=aJ (Bv.aqF hB ve.out) hb;clear hB hb;go_wp2;go_ret;exact⟨⟨_,rfl,Hz.out,λb o n' c e=>by cases e;exact Nat.le_refl _⟩,Hb.out⟩
end Go.Proofs.YtoopepmmepmfnaaGreatDoor
namespace Go.Proofs.YtoopepmmepmfnaaGreatDoor
open Go.RowKit
abbrev aI:=List UInt8×Raw
def aM (t:aI):List Value:=[.string (bs t.1),.bool t.2.1,.string (bs t.2.2.1),.int .i64 t.2.2.2]
theorem At.term {w:World}{a:Option Addr}{ts:List aI}(h:At w a (ts.flatMap aM))(k:Nat)(hk:k<ts.length){l:List UInt8}{s:Bool}{m:List UInt8}{e:Int}(hx:ts[k]=(l,s,m,e)):
 ∃b o,a=some ⟨b,o,none⟩/\bg w b (o+k*4) [.string (bs l),.bool s,.string (bs m),.int .i64 e]:=by
 obtain⟨b,o,hab,hcs⟩:=h.elem (f:=aM) (sz:=4) (λ_=>rfl) zd k hk;refine⟨b,o,hab,λj hj=>?_⟩;have:=hcs j hj;rw[hx]at this;rw[this];unfold aM;rw[List.getElem?_eq_getElem (by simpa using hj)]
def Ar (V:Int)(l:List UInt8)(x:Raw):Bool:=fP l V&& !(aL (ar x)==0)&&(canon (ar x)==x)
def oJ (V:Int)(ts:List aI)(k:Nat):Bool:=Ar V (ts.getD k default).1 (ts.getD k default).2&&(k==0||Op.bytesLess (bs (ts.getD (k-1) default).1).toList (bs (ts.getD k default).1).toList)
def wL (V:Int)(ts:List aI):Int:=if ¬(0<=V/\V<=12)then 1 else if 4096<ts.length then 3 else if(List.range ts.length).all (oJ V ts)then 0 else 1
end Go.Proofs.YtoopepmmepmfnaaGreatDoor
namespace Go.Proofs.YtoopepmmepmfnaaGreatDoor
theorem Ad (a:List UInt8):Op.bytesLess a a=false:=by
 induction a with
 |nil=>rfl
 |cons x a ih=>simp[Op.bytesLess,ih]
theorem JD {a b c:List UInt8}(h:Op.bytesLess a b=true)(k:Op.bytesLess b c=true):Op.bytesLess a c=true:=by
 induction a generalizing b c with
 | nil=>
   cases c with
   |nil=>cases b<;>simp[Op.bytesLess]at k
   |cons z c=>simp[Op.bytesLess]
 | cons x a ih=>
   cases b with
   |nil=>simp[Op.bytesLess]at h
   | cons y b=>
     cases c with
     |nil=>simp[Op.bytesLess]at k
     | cons z c=>
       simp only[Op.bytesLess,Bool.or_eq_true,Bool.and_eq_true,decide_eq_true_eq,beq_iff_eq]at h k⊢;rcases h with h|⟨rfl,h⟩
       . rcases k with k|⟨rfl,k⟩
         . exact .inl (UInt8.lt_trans h k)
         . exact .inl h
       . rcases k with k|⟨rfl,k⟩
         . exact .inl k
         . exact .inr ⟨rfl,ih h k⟩
theorem Dm {a b:List UInt8}(h:Op.bytesLess a b=false)(k:Op.bytesLess b a=false):a=b:=by
 induction a generalizing b with
 | nil=>cases b with
   |nil=>rfl
   |cons y b=>simp[Op.bytesLess]at h
 | cons x a ih=>cases b with
   |nil=>simp[Op.bytesLess]at k
   | cons y b=>
     simp only[Op.bytesLess,Bool.or_eq_false_iff,Bool.and_eq_false_iff,decide_eq_false_iff_not,beq_eq_false_iff_ne]at h k;have e:x=y:=by have h1:=UInt8.not_lt.1 h.1;have h2:=UInt8.not_lt.1 k.1;exact UInt8.le_antisymm h2 h1
     subst e;rw[ih (by rcases h.2 with h|h;exact absurd rfl h;exact h) (by rcases k.2 with h|h;exact absurd rfl h;exact h)]
def NC (x y:aI):aI:=(x.1,canon (ar x.2+ar y.2))
def uu :Nat->List aI->List aI->List aI
 |0,a,b=>a++b
 |_+1,[],b=>b
 |_+1,x::a,[]=>x::a
 |k+1,x::a,y::b=>if Op.bytesLess x.1 y.1 then x::uu k a (y::b)else if Op.bytesLess y.1 x.1 then y::uu k (x::a) b else NC x y::uu k a b
theorem MK (a b:List aI)(j k:Nat)(hj:a.length+b.length<=j)(hk:a.length+b.length<=k):uu j a b=uu k a b:=by
 induction j generalizing k a b with
 |zero=>have ha:a=[]:=List.length_eq_zero_iff.1 zo;have hb:b=[]:=List.length_eq_zero_iff.1 zo;subst ha;subst hb;cases k<;>rfl
 | succ j ih=>
   cases k with
   |zero=>have ha:a=[]:=List.length_eq_zero_iff.1 zo;have hb:b=[]:=List.length_eq_zero_iff.1 zo;subst ha;subst hb;rfl
   | succ k=>
     cases a with
     |nil=>rfl
     | cons x a=>cases b with
       |nil=>rfl
       |cons y b=>simp only[List.length_cons]at hj hk;simp only[uu];rw[ih a (y::b) k zi zi,ih (x::a) b k zi zi,ih a b k zo zo]
def fx (a b:List aI):List aI:=uu (a.length+b.length) a b
theorem yq (b:List aI):fx [] b=b:=by
 unfold fx;cases b with
 |nil=>rfl
 |cons y b=>rfl
theorem yr (a:List aI):fx a []=a:=by
 unfold fx;cases a with
 |nil=>rfl
 |cons y b=>rfl
theorem uv (x y:aI)(a b:List aI):fx (x::a) (y::b)=if Op.bytesLess x.1 y.1 then x::fx a (y::b)else if Op.bytesLess y.1 x.1 then y::fx (x::a) b else NC x y::fx a b:=by
 unfold fx;rw[show(x::a).length+(y::b).length=(a.length+b.length+1)+1 by simp;omega];simp only[uu]
 rw[MK a (y::b) (a.length+b.length+1) (a.length+(y::b).length) zi zm,MK (x::a) b (a.length+b.length+1) ((x::a).length+b.length) zi zm,
  MK a b (a.length+b.length+1) (a.length+b.length) zo zo]
theorem WG (a b:List aI):(fx a b).length<=a.length+b.length:=by
 obtain⟨n,hn⟩:=az (a.length+b.length);induction n using Nat.strongRecOn generalizing a b with
 | _ n ih=>
   cases a with
   |nil=>rw[yq];simp
   | cons x a=>cases b with
     |nil=>rw[yr];simp
     | cons y b=>
       rw[uv];simp only[List.length_cons]at hn⊢;split
       . have:=ih _ (by simp only[List.length_cons];omega) a (y::b) rfl;simp only[List.length_cons]at this⊢;omega
       . split
         . have:=ih _ (by simp only[List.length_cons];omega) (x::a) b rfl;simp only[List.length_cons]at this⊢;omega
         . have:=ih _ zo a b rfl;simp only[List.length_cons]at this⊢;omega
def cd :List aI->List UInt8->Dyadic
 |[],_=>0
 |x::l,m=>(if x.1=m then ar x.2 else 0)+cd l m
theorem xJ (a b:List aI)(m:List UInt8):cd (a++b) m=cd a m+cd b m:=by
 induction a with
 |nil=>simp[cd]
 |cons x a ih=>simp only[List.cons_append,cd,ih];grind
theorem Rb (a b:List aI)(m:List UInt8):cd (fx a b) m=cd a m+cd b m:=by
 obtain⟨n,hn⟩:=az (a.length+b.length);induction n using Nat.strongRecOn generalizing a b with
 | _ n ih=>
   cases a with
   |nil=>rw[yq];simp[cd]
   | cons x a=>cases b with
     |nil=>rw[yr];simp[cd]
     | cons y b=>
       rw[uv];simp only[List.length_cons]at hn;split
       . have:=ih _ (by simp only[List.length_cons];omega) a (y::b) rfl;simp only[cd]at this⊢;rw[this];grind
       . split
         . have:=ih _ (by simp only[List.length_cons];omega) (x::a) b rfl;simp only[cd]at this⊢;rw[this];grind
         . rename_i h1 h2
           have:=ih _ zo a b rfl;have e:x.1=y.1:=Dm (by simpa using h1) (by simpa using h2);simp only[cd,NC,bC]at this⊢;rw[this,e];split<;>grind
def Up (l:List aI):Prop:=l.Pairwise λx y=>Op.bytesLess x.1 y.1=true
theorem Fy (a b:List aI):∀x∈fx a b,∃y∈a++b,y.1=x.1:=by
 obtain⟨n,hn⟩:=az (a.length+b.length);induction n using Nat.strongRecOn generalizing a b with
 | _ n ih=>
   intro z hz;cases a with
   |nil=>rw[yq]at hz;exact⟨z,by simp[hz],rfl⟩
   | cons x a=>cases b with
     |nil=>rw[yr]at hz;exact⟨z,by simpa using hz,rfl⟩
     | cons y b=>
       rw[uv]at hz;simp only[List.length_cons]at hn;split at hz
       . rcases List.mem_cons.1 hz with rfl|hz
         . exact⟨z,by simp,rfl⟩
         . obtain⟨u,hu,e⟩:=ih _ (by simp only[List.length_cons];omega) a (y::b) rfl z hz;exact⟨u,by simp at hu⊢;rcases hu with h|h|h<;>simp[h],e⟩
       . split at hz
         . rcases List.mem_cons.1 hz with rfl|hz
           . exact⟨z,by simp,rfl⟩
           . obtain⟨u,hu,e⟩:=ih _ (by simp only[List.length_cons];omega) (x::a) b rfl z hz;exact⟨u,by simp at hu⊢;rcases hu with h|h|h<;>simp[h],e⟩
         . rcases List.mem_cons.1 hz with rfl|hz
           . exact⟨x,by simp,rfl⟩
           . obtain⟨u,hu,e⟩:=ih _ zo a b rfl z hz;exact⟨u,by simp at hu⊢;rcases hu with h|h<;>simp[h],e⟩
theorem aiF (a b:List aI)(ha:Up a)(hb:Up b):Up (fx a b):=by
 obtain⟨n,hn⟩:=az (a.length+b.length);induction n using Nat.strongRecOn generalizing a b with
 | _ n ih=>
   cases a with
   |nil=>rw[yq];exact hb
   | cons x a=>cases b with
     |nil=>rw[yr];exact ha
     | cons y b=>
       rw[uv];simp only[List.length_cons]at hn;obtain⟨ha1,ha2⟩:=List.pairwise_cons.1 ha;obtain⟨hb1,hb2⟩:=List.pairwise_cons.1 hb;split
       . rename_i h
         refine List.pairwise_cons.2 ⟨λz hz=>?_,ih _ (by simp only[List.length_cons];omega) a (y::b) ha2 hb rfl⟩;obtain⟨u,hu,e⟩:=Fy _ _ z hz;rw[<-e];rcases List.mem_append.1 hu with h2|h2
         . exact ha1 u h2
         . rcases List.mem_cons.1 h2 with rfl|h2
           . exact h
           . exact JD h (hb1 u h2)
       . split
         . rename_i h0 h
           refine List.pairwise_cons.2 ⟨λz hz=>?_,ih _ (by simp only[List.length_cons];omega) (x::a) b ha hb2 rfl⟩;obtain⟨u,hu,e⟩:=Fy _ _ z hz;rw[<-e];rcases List.mem_append.1 hu with h2|h2
           . rcases List.mem_cons.1 h2 with rfl|h2
             . exact h
             . exact JD h (ha1 u h2)
           . exact hb1 u h2
         . rename_i h1 h2
           have e:x.1=y.1:=Dm (by simpa using h1) (by simpa using h2);refine List.pairwise_cons.2 ⟨λz hz=>?_,ih _ zo a b ha2 hb2 rfl⟩;obtain⟨u,hu,e2⟩:=Fy _ _ z hz;rw[<-e2];show Op.bytesLess x.1 u.1=true
           rcases List.mem_append.1 hu with h3|h3
           . exact ha1 u h3
           . rw[e];exact hb1 u h3
def qP :Nat->List aI->List aI
 |0,l=>l
 |k+1,l=>if l.length<2 then l else fx (qP k (l.take (l.length/2))) (qP k (l.drop (l.length/2)))
theorem XQ (l:List aI)(j k:Nat)(hj:l.length<=j)(hk:l.length<=k):qP j l=qP k l:=by
 induction j generalizing k l with
 |zero=>have h:l=[]:=List.length_eq_zero_iff.1 zo;subst h;cases k<;>simp[qP]
 | succ j ih=>
   cases k with
   |zero=>have h:l=[]:=List.length_eq_zero_iff.1 zo;subst h;simp[qP]
   | succ k=>
     simp only[qP];split
     . rfl
     . rw[ih (l.take (l.length/2)) k zi zi,ih (l.drop (l.length/2)) k zi zi]
def fB (l:List aI):List aI:=qP l.length l
theorem FU (l:List aI)(h:l.length<2):fB l=l:=by
 unfold fB;cases l with
 |nil=>rfl
 |cons x l=>simp only[List.length_cons,qP];rw[if_pos (by simpa using h)]
theorem NB (l:List aI)(h:2<=l.length):fB l=fx (fB (l.take (l.length/2))) (fB (l.drop (l.length/2))):=by obtain⟨k,hk⟩:∃k,l.length=k+1:=⟨l.length-1,by omega⟩;unfold fB;rw[hk];simp only[qP];rw[if_neg zo,hk,XQ (l.take ((k+1)/2)) k ((l.take ((k+1)/2)).length) zi (Nat.le_refl _),XQ (l.drop ((k+1)/2)) k ((l.drop ((k+1)/2)).length) zi (Nat.le_refl _)]
theorem FT {Q:List aI->List aI->Prop}(h0:∀l,l.length<2->Q l l)(h1:∀a b c d,Q a c->Q b d->Q (a++b) (fx c d))(l:List aI):Q l (fB l):=by
 obtain⟨n,hn⟩:=az l.length;induction n using Nat.strongRecOn generalizing l with
 | _ n ih=>
   by_cases h:l.length<2
   . rw[FU l h];exact h0 l h
   . rw[NB l zo];have:=h1 _ _ _ _ (ih (l.take (l.length/2)).length zi (l.take (l.length/2)) rfl) (ih (l.drop (l.length/2)).length zi (l.drop (l.length/2)) rfl);rwa [List.take_append_drop]at this
theorem ad7 (l:List aI)(m:List UInt8):cd (fB l) m=cd l m:=
 FT (Q:=λl r=>cd r m=cd l m) (λ_ _=>rfl) (λa b c d h1 h2=>by rw[Rb,xJ,h1,h2]) l
theorem akS (l:List aI):Up (fB l):=
 FT (Q:=λ_ r=>Up r) (λl h=>by
  cases l with
  |nil=>exact List.Pairwise.nil
  | cons x l=>cases l with
    |nil=>exact List.pairwise_singleton _ _
    |cons y l=>simp at h;omega) (λa b c d h1 h2=>aiF c d h1 h2) l
theorem Cl (l:List aI):(fB l).length<=l.length:=
 FT (Q:=λl r=>r.length<=l.length) (λ_ _=>Nat.le_refl _) (λa b c d h1 h2=>by have:=WG c d;simp;omega) l
theorem XR (l:List aI):∀x∈fB l,∃y∈l,y.1=x.1:=
 FT (Q:=λl r=>∀x∈r,∃y∈l,y.1=x.1) (λl _ x hx=>⟨x,hx,rfl⟩) (λa b c d h1 h2 x hx=>by
  obtain⟨y,hy,e⟩:=Fy c d x hx;rcases List.mem_append.1 hy with h|h
  . obtain⟨z,hz,e2⟩:=h1 y h;exact⟨z,by simp[hz],e2.trans e⟩
  . obtain⟨z,hz,e2⟩:=h2 y h;exact⟨z,by simp[hz],e2.trans e⟩) l
def mE (x:aI):Bool:=!(aL (ar x.2)==0)
def bT (l:List aI):List aI:=((fB l).filter mE).map λx=>(x.1,canon (ar x.2))
def Good (l:List aI):Prop:=Up l/\∀x∈l,ar x.2≠0/\x.2=canon (ar x.2)
theorem Ka (X:Dyadic):(aL X==0)=false↔X≠0:=by
 have h:aL X=0↔X=0:=by
  constructor
  . intro h;have h1:dN X=0:=by
     unfold aL dO at h;by_cases h1:dN X<0
     . rw[if_pos h1]at h;cases h
     . rw[if_neg h1]at h;by_cases h2:dN X=0
       . exact h2
       . rw[if_neg h2]at h;cases h
    have h2:=uB X;rw[h1,uC]at h2;exact h2
  . rintro rfl;rfl
 rw[beq_eq_false_iff_ne];exact not_congr h
theorem ad2 (l:List aI)(m:List UInt8):cd (l.filter mE) m=cd l m:=by
 induction l with
 |nil=>rfl
 | cons x l ih=>
   rw[List.filter_cons];split
   . simp only[cd,ih]
   . rename_i h
     have h0:ar x.2=0:=Classical.byContradiction λhc=>h (by unfold mE;rw[(Ka _).2 hc];rfl);simp only[cd,ih,h0];split<;>grind
theorem ad4 (l:List aI)(m:List UInt8):cd (l.map λx=>(x.1,canon (ar x.2))) m=cd l m:=by
 induction l with
 |nil=>rfl
 |cons x l ih=>simp only[List.map_cons,cd,ih,bC]
theorem rH (l:List aI)(m:List UInt8):cd (bT l) m=cd l m:=by unfold bT;rw[ad4,ad2,ad7]
theorem alD {l:List aI}(h:Up l):Up (l.map λx=>(x.1,canon (ar x.2))):=List.Pairwise.map _ (λ_ _ h=>h) h
theorem afE (l:List aI)(h:Up l):Good ((l.filter mE).map λx=>(x.1,canon (ar x.2))):=by
 refine⟨alD (List.Pairwise.filter _ h),λx hx=>?_⟩;obtain⟨y,hy,rfl⟩:=List.mem_map.1 hx;have h2:=(List.mem_filter.1 hy).2;unfold mE at h2;refine⟨?_,?_⟩
 . show ar (canon (ar y.2))≠0
   rw[bC];exact(Ka _).1 (by simpa using h2)
 . show canon (ar y.2)=canon (ar (canon (ar y.2)))
   rw[bC]
theorem Ag (l:List aI):Good (bT l):=afE _ (akS l)
theorem Ah (l:List aI):(bT l).length<=l.length:=by unfold bT;rw[List.length_map];exact Nat.le_trans (List.length_filter_le _ _) (Cl l)
theorem Rc (l:List aI)(m:List UInt8)(h:∀x∈l,x.1≠m):cd l m=0:=by
 induction l with
 |nil=>rfl
 |cons x l ih=>simp only[cd];rw[if_neg (h x zm),ih (λy hy=>h y (by simp[hy]))];grind
theorem Good.tail {x:aI}{l:List aI}(h:Good (x::l)):Good l:=⟨(List.pairwise_cons.1 h.1).2,λy hy=>h.2 y (by simp[hy])⟩
theorem Good.off {x:aI}{l:List aI}(h:Good (x::l)):cd l x.1=0:=by refine Rc _ _ (λy hy e=>?_);have:=(List.pairwise_cons.1 h.1).1 y hy;rw[e,Ad]at this;cases this
theorem Good.head {x:aI}{l:List aI}(h:Good (x::l)):cd (x::l) x.1=ar x.2:=by simp only[cd,if_pos,h.off];grind
theorem Good.before {x y:aI}{l:List aI}(h:Good (y::l))(hx:Op.bytesLess x.1 y.1=true):cd (y::l) x.1=0:=by
 refine Rc _ _ (λz hz e=>?_);rcases List.mem_cons.1 hz with rfl|hz
 . rw[e,Ad]at hx;cases hx
 . have:=JD hx ((List.pairwise_cons.1 h.1).1 z hz);rw[e,Ad]at this;cases this
theorem afD {a b:List aI}(ha:Good a)(hb:Good b)(h:∀m,cd a m=cd b m):a=b:=by
 induction a generalizing b with
 | nil=>
   cases b with
   |nil=>rfl
   |cons y b=>have:=h y.1;rw[hb.head]at this;exact absurd this.symm (hb.2 y zm).1
 | cons x a ih=>
   cases b with
   |nil=>have:=h x.1;rw[ha.head]at this;exact absurd this (ha.2 x zm).1
   | cons y b=>
     have h1:Op.bytesLess x.1 y.1=false:=by
      cases hc:Op.bytesLess x.1 y.1 with
      |false=>rfl
      |true=>have:=h x.1;rw[ha.head,hb.before hc]at this;exact absurd this (ha.2 x zm).1
     have h2:Op.bytesLess y.1 x.1=false:=by
      cases hc:Op.bytesLess y.1 x.1 with
      |false=>rfl
      |true=>have:=h y.1;rw[hb.head,ha.before hc]at this;exact absurd this.symm (hb.2 y zm).1
     have e1:x.1=y.1:=Dm h1 h2;have e2:ar x.2=ar y.2:=by have:=h x.1;rw[ha.head]at this;rw[this,e1,hb.head]
     have e3:x=y:=by refine Prod.ext e1 ?_;rw[(ha.2 x zm).2,(hb.2 y zm).2,e2]
     subst e3
     rw[ih ha.tail hb.tail (λm=>by
      have:=h m;simp only[cd]at this;generalize (if x.1=m then ar x.2 else 0)=u at this
      grind)]
end Go.Proofs.YtoopepmmepmfnaaGreatDoor
namespace Go.Proofs.YtoopepmmepmfnaaGreatDoor
open Go.RowKit
attribute [local go_sem ↓] Go.wp_at_zero Go.wp_at_succ
def sK (a b:List UInt8):Int:=if Op.bytesLess a b then-1 else if Op.bytesLess b a then 1 else 0
theorem akC (l:List UInt8)(s:Bool)(m:List UInt8)(e:Int)(l':List UInt8)(s':Bool)(m':List UInt8)(e':Int)(w:World):
 Calls Tryz.prog 155 #[.agg #[.string (bs l),.bool s,.string (bs m),.int .i64 e],.agg #[.string (bs l'),.bool s',.string (bs m'),.int .i64 e']] w λex w'=>ex=.returned (.int .i64 (sK l l'))/\Bw w w':=by
 obtain⟨R,hR⟩:=az (sK l l');unfold sK at hR;rw[show sK l l'=R from hR];obtain⟨W,cL,Hb,Hx,Hy⟩:=jF w 93 [.string (bs l),.bool s,.string (bs m),.int .i64 e] 93 [.string (bs l'),.bool s',.string (bs m'),.int .i64 e'];obtain⟨x0,x1,x2,x3⟩:=Hx.out.c4;obtain⟨y0,y1,y2,y3⟩:=Hy.out.c4;cases h1:Op.bytesLess l l' with
 | true=>
   rw[h1]at hR;simp only[if_true]at hR;subst hR;have h2:Op.bytesLess (bs l).toList (bs l').toList=true:=by rw[iY,iY];exact h1
   clear h1;go_enter Tryz.func155,Tryz.ntmps155;go_wp2;go_ret;exact⟨rfl,Hb.out⟩
 | false=>
   rw[h1]at hR;simp only[Bool.false_eq_true,if_false]at hR;have h2:Op.bytesLess (bs l).toList (bs l').toList=false:=by rw[iY,iY];exact h1
   cases h3:Op.bytesLess l' l with
   | true=>
     rw[h3]at hR;simp only[if_true]at hR;subst hR;have hne:¬l=l':=by rintro rfl;rw[Ad]at h3;cases h3
     have h4:((bs l).toList==(bs l').toList)=false:=by rw[iY,iY];simpa using hne
     have h5:¬(bs l).toList=(bs l').toList:=by rw[iY,iY];exact hne
     clear h1 h3 hne;go_enter Tryz.func155,Tryz.ntmps155;go_wp2;go_ret;exact⟨rfl,Hb.out⟩
   |false=>rw[h3]at hR;simp only[Bool.false_eq_true,if_false]at hR;subst hR;obtain rfl:=Dm h1 h3;clear h1 h3;go_enter Tryz.func155,Tryz.ntmps155;go_wp2;go_ret;exact⟨rfl,Hb.out⟩
theorem ak1 (l:List UInt8)(s:Bool)(m:List UInt8)(e:Int)(l':List UInt8)(s':Bool)(m':List UInt8)(e':Int)(S:Dyadic)(B:Nat)(hS:ar (s,m,e)+ar (s',m',e')=S)(w:World)(hx:Fit B (s,m,e))(hy:Fit B (s',m',e'))(hB:B+2<=268435456)(hT:au w):
 Calls Tryz.prog 156 #[.agg #[.string (bs l),.bool s,.string (bs m),.int .i64 e],.agg #[.string (bs l'),.bool s',.string (bs m'),.int .i64 e']] w λex w'=>ex=.returned (.agg #[.string (bs l),.bool (aj (dN S)),.string (bs (nt (dN S).natAbs)),.int .i64 (dE S)])/\Bw w w':=by
 obtain⟨zG,Io,HS,HT⟩:=dt hx hy hS hT;clear hx hy hS hT;obtain⟨W,cL,Hb,Hx,Hy,Hr⟩:=MR w 93 [.string (bs l),.bool s,.string (bs m),.int .i64 e] 93 [.string (bs l'),.bool s',.string (bs m'),.int .i64 e'] 93 [.string ⟨#[]⟩,.bool false,.string ⟨#[]⟩,.int .i64 0];obtain⟨x0,x1,x2,x3⟩:=Hx.out.c4;obtain⟨y0,y1,y2,y3⟩:=Hy.out.c4;obtain⟨r0,ah,r1,ai,r2,aB,r3,aY⟩:=Hr.out.g4;go_enter Tryz.func156,Tryz.ntmps156;go_wp2_with fail;refine cf (λw'=>w'.cell? ⟨w.heap.size,0,none⟩=some (.string (bs l))/\w'.cell? ⟨w.heap.size,1,none⟩=some (.bool s)/\w'.cell? ⟨w.heap.size,2,none⟩=some (.string (bs m))/\w'.cell? ⟨w.heap.size,3,none⟩=some (.int .i64 e)/\w'.cell? ⟨w.heap.size+1,0,none⟩=some (.string (bs l'))/\w'.cell? ⟨w.heap.size+1,1,none⟩=some (.bool s')/\w'.cell? ⟨w.heap.size+1,2,none⟩=some (.string (bs m'))/\w'.cell? ⟨w.heap.size+1,3,none⟩=some (.int .i64 e')) (λi=>Nat.blt i 9) [(0,true),(1,true),(2,true),(3,true),(4,true),(5,true),(6,false),(7,false),(8,true),(9,false)] zk zk rfl zk zc ⟨x0,x1,x2,x3,y0,y1,y2,y3⟩ ?_;iterate 6 (refine pT rfl rfl ?_ (by intro w' ⟨q0,q1,q2,q3,q4,q5,q6,q7⟩;go_simp;try with_reducible rfl);try simp only[UU])
 refine aF rfl rfl (λK hK=>?_);go_simp;refine hK _ _ (λ_=>⟨aH x0,aH x1,aH x2,aH x3,aH y0,aH y1,aH y2,aH y3⟩) ?_;clear hK K;try simp only[UU]
 refine cj (λW3=>ag W3 (W.heap.size) 39 [.bool s,.string (bs m),.int .i64 e,.bool s',.string (bs m'),.int .i64 e']/\Bw W W3) (by first|exact fy|exact fA) ?_;rintro W3 ⟨qv,ae⟩;clear x0 x1 x2 x3 y0 y1 y2 y3 r0 ah r1 ai r2 aB r3 aY;have aij:=Hx.out.lt;have ain:=Hy.out.lt;have Fi:=Hr.out.lt;replace Hx:=kB Hx ae;replace Hy:=kB Hy ae;replace Hr:=kB Hr ae;have Hv:=af qv;clear qv;obtain⟨x0,x1,x2,x3⟩:=Hx.out.c4;obtain⟨y0,y1,y2,y3⟩:=Hy.out.c4;obtain⟨r0,ah,r1,ai,r2,aB,r3,aY⟩:=Hr.out.g4;obtain⟨v0,v1,v2,v3,v4,v5⟩:=Hv.out.c6;replace Hb:=ak Hb ae;clear ae;refine aF rfl rfl (λK hK=>?_);go_simp;with_reducible refine(vq s m e s' m' e' S B HS.out W.heap.size _ 39 _ zG.out Io.out hB Hv.out ((HT.out.below Hb.out))).mono ?_
 rintro e w4 ⟨rfl,hq⟩;have ae:Bw W3 w4:=by first|exact hq|exact aK hq
 clear x0 x1 x2 x3 y0 y1 y2 y3 r0 ah r1 ai r2 aB r3 aY v0 v1 v2 v3 v4 v5;replace Hx:=kB Hx ae;replace Hy:=kB Hy ae;replace Hr:=kB Hr ae;replace Hv:=kB Hv ae;obtain⟨x0,x1,x2,x3⟩:=Hx.out.c4;obtain⟨y0,y1,y2,y3⟩:=Hy.out.c4;obtain⟨r0,ah,r1,ai,r2,aB,r3,aY⟩:=Hr.out.g4;obtain⟨v0,v1,v2,v3,v4,v5⟩:=Hv.out.c6;replace Hb:=ak Hb ae;clear ae;refine hK _ _ (λ_=>⟨x0,x1,x2,x3,y0,y1,y2,y3⟩) ?_;clear hK K;try simp only[UU]
 refine pT rfl rfl ?_;try simp only[UU]
 refine aF rfl rfl (λK hK=>?_);go_simp;refine hK _ _ (λh=>absurd h zd) ?_;clear hK K;try simp only[UU]
 clear x0 x1 x2 x3 y0 y1 y2 y3 r0 ah r1 ai r2 aB r3 aY v0 v1 v2 v3 v4 v5;refine cj (bf w4 (w.heap.size+1+1) 0 [.string (bs l),.bool (aj (dN S)),.string (bs (nt (dN S).natAbs)),.int .i64 (dE S)]) bI ?_;intro w5 hs;replace Hx:=kS Hx hs zo;replace Hy:=kS Hy hs zo;replace Hr:=cp Hr hs;replace Hv:=kS Hv hs zo;obtain⟨x0,x1,x2,x3⟩:=Hx.out.c4;obtain⟨y0,y1,y2,y3⟩:=Hy.out.c4;obtain⟨r0,ah,r1,ai,r2,aB,r3,aY⟩:=Hr.out.g4;obtain⟨v0,v1,v2,v3,v4,v5⟩:=Hv.out.c6;replace Hb:=bS Hb hs ZS;clear hs;simp only[aN];go_wp2;refine bodyPost_ret (v:=.agg #[.string (bs l),.bool (aj (dN S)),.string (bs (nt (dN S).natAbs)),.int .i64 (dE S)]) (by simp[results,Tryz.results156,go_sem,r0,r1,r2,r3]) rfl ⟨rfl,?_⟩;(repeat first|exact Hb.out| (refine Below.setCell ?_ (by have:=Hb.out.size;first| (dsimp only;omega) | (show _<=_;omega) | (simp<;>omega)) _) | (refine Below.alloc ?_ zt _) |refine Below.drew ?_)
theorem adT (l:List UInt8)(s:Bool)(m:List UInt8)(e:Int)(w:World)(hx:Ok (s,m,e)):
 Calls Tryz.prog 190 #[.agg #[.string (bs l),.bool s,.string (bs m),.int .i64 e]] w λex w'=>ex=.returned (.bool (!mE (l,s,m,e)))/\Bw w w':=by
 obtain⟨g,hg⟩:=az (aL (ar (s,m,e)));have hs:=λW=>lj s m e g hg W hx;have hz:(!mE (l,s,m,e))=decide (g=0):=by unfold mE;rw[hg];by_cases h:g=0<;>simp[h]
 rw[hz];have Hs:=af hs;clear hs hz hg hx;obtain⟨W,cL,Hb,Hx⟩:=gX w 93 [.string (bs l),.bool s,.string (bs m),.int .i64 e];obtain⟨x0,x1,x2,x3⟩:=Hx.out.c4;go_enter Tryz.func190,Tryz.ntmps190;go_wp2_with fail;refine(Hs.out _).mono ?_;rintro e w1 ⟨rfl,ae⟩;clear x0 x1 x2 x3;replace Hx:=kB Hx ae;obtain⟨x0,x1,x2,x3⟩:=Hx.out.c4;replace Hb:=ak Hb ae;clear ae;go_wp2;refine bodyPost_ret (results_tmp rfl _ _ _) rfl ⟨?_,Hb.out⟩;by_cases h:g=0<;>simp[h]
theorem aiq (l:List UInt8)(s:Bool)(m:List UInt8)(e:Int)(V:Int)(bv:Nat)(w:World)(hv:w.cell? ⟨bv,0,none⟩=some (.int .i64 V))(hl:l.length<=9223372036854775807):
 Calls Tryz.prog 186 #[.agg #[.string (bs l),.bool s,.string (bs m),.int .i64 e],.pointer (some ⟨bv,0,none⟩)] w λex w'=>ex=.returned (.bool (!fP l V))/\Bw w w':=by
 have hm:=λW=>Fx l V W hl;obtain⟨t,ht⟩:=az (fP l V);rw[ht]at hm⊢;obtain⟨Hm,Hv⟩:=aJ hm hv;clear hm ht hv;obtain⟨W,cL,Hb,Hx⟩:=gX w 93 [.string (bs l),.bool s,.string (bs m),.int .i64 e];obtain⟨x0,x1,x2,x3⟩:=Hx.out.c4;have hv2:=cell_later Hb.out Hv.out;go_enter Tryz.func186,Tryz.ntmps186;go_wp2_with fail;refine(Hm.out _).mono ?_;rintro e w1 ⟨rfl,ae⟩;clear x0 x1 x2 x3;replace Hx:=kB Hx ae;obtain⟨x0,x1,x2,x3⟩:=Hx.out.c4;replace Hb:=ak Hb ae;clear ae hv2;go_wp2;refine bodyPost_ret (results_tmp rfl _ _ _) rfl ⟨rfl,Hb.out⟩
end Go.Proofs.YtoopepmmepmfnaaGreatDoor
namespace Go.Proofs.YtoopepmmepmfnaaGreatDoor
def Jr (V:Nat)(ts:List aI):Prop:=Good ts/\(∀t∈ts,fP t.1 V=true)/\ts.length<=4096/\V<=12
theorem Xe {V:Nat}{ts:List aI}(h:Jr V ts):wL V ts=0:=by
 obtain⟨⟨h1,h2⟩,h3,h4,h5⟩:=h;unfold wL;rw[if_neg zo,if_neg zo,if_pos];rw[List.all_eq_true];intro k hk;have hk:k<ts.length:=by simpa using hk
 have e:ts.getD k default=ts[k]:=by simp[hk]
 have hm:=List.getElem_mem hk;unfold oJ Ar;rw[e,h3 _ hm,(Ka _).2 (h2 _ hm).1];have e2:(canon (ar ts[k].2)==ts[k].2)=true:=by rw[beq_iff_eq];exact(h2 _ hm).2.symm
 rw[e2];by_cases h0:k=0
 . simp[h0]
 . have hk1:k-1<ts.length:=by omega
   have e3:ts.getD (k-1) default=ts[k-1]:=by simp[hk1]
   have:=List.pairwise_iff_getElem.1 h1 (k-1) k hk1 hk zo;rw[e3,iY,iY,this];simp
theorem Good.aqT {l:List aI}(h:Good l):∀t∈l,ar t.2=cd l t.1:=by
 induction l with
 |nil=>intro t ht;cases ht
 | cons x l ih=>
   intro t ht;rcases List.mem_cons.1 ht with rfl|ht
   . exact h.head.symm
   . have hne:¬x.1=t.1:=λe=>by have:=(List.pairwise_cons.1 h.1).1 t ht;rw[e,Ad]at this;cases this
     simp only[cd,if_neg hne,ih h.tail t ht];grind
theorem ad6 {B:Nat}{l:List aI}(h:∀x∈l,Sm B (ar x.2))(m:List UInt8):Sm (B+l.length) (cd l m):=by
 induction l with
 |nil=>exact Sm.zero _
 | cons x l ih=>
   have h1:=ih (λy hy=>h y (by simp[hy]));have h2:Sm B (if x.1=m then ar x.2 else 0):=by
    split
    . exact h x zm
    . exact Sm.zero _
   exact((h2.mono (show B<=B+l.length by omega)).add h1).mono zi
theorem adY {B:Nat}{l:List aI}(h:∀x∈l,Sm B (ar x.2)):∀t∈bT l,Sm (B+l.length) (ar t.2):=by intro t ht;rw[(Ag l).aqT t ht,rH];exact ad6 h _
theorem adW (l:List aI):∀x∈bT l,∃y∈l,y.1=x.1:=by intro x hx;unfold bT at hx;obtain⟨y,hy,rfl⟩:=List.mem_map.1 hx;exact XR l y (List.mem_filter.1 hy).1
theorem adX {V:Nat}{l:List aI}(hV:V<=12)(hm:∀t∈l,fP t.1 V=true)(hl:l.length<=4096):Jr V (bT l):=
 ⟨Ag l,λt ht=>by obtain⟨y,hy,e⟩:=adW l t ht;rw[<-e];exact hm y hy,Nat.le_trans (Ah l) hl,hV⟩
theorem xI {a b:List aI}(h:∀m,cd a m=cd b m):bT a=bT b:=afD (Ag a) (Ag b) (λm=>by rw[rH,rH,h m])
theorem adV (a b:List aI):bT (bT a++bT b)=bT (a++b):=xI (λm=>by rw[xJ,xJ,rH,rH])
def eZ (c:Dyadic)(l:List aI):List aI:=l.map λx=>(x.1,canon (ar x.2*c))
theorem Re (c:Dyadic)(l:List aI)(m:List UInt8):cd (eZ c l) m=cd l m*c:=by
 induction l with
 |nil=>simp[eZ,cd]
 |cons x l ih=>simp only[eZ,List.map_cons,cd]at ih⊢;rw[ih,bC];split<;>grind
def jH (n:Nat):List UInt8:=List.replicate n 0
def dF (n k:Nat):List UInt8:=(List.replicate n 0).set k 1
theorem YI (n:Nat):fP (jH n) n=true:=by unfold fP jH;rw[Bool.and_eq_true];refine⟨?_,by simp⟩;rw[List.all_eq_true];intro c hc;rw[(List.mem_replicate.1 hc).2];rfl
theorem NL (n k:Nat):fP (dF n k) n=true:=by
 unfold fP dF;rw[Bool.and_eq_true];refine⟨?_,by simp⟩;rw[List.all_eq_true];intro c hc;rcases List.mem_or_eq_of_mem_set hc with h|h
 . rw[(List.mem_replicate.1 h).2];rfl
 . rw[h];rfl
def gh (n:Nat)(c:Dyadic)(l:Nat->Dyadic)(k:Nat):List aI:=(jH n,canon c)::(List.range k).map λj=>(dF n j,canon (l j))
def dz (n:Nat)(c:Dyadic)(l:Nat->Dyadic)(k:Nat):List aI:=bT (gh n c l k)
theorem yn (n:Nat)(c:Dyadic)(l:Nat->Dyadic)(k:Nat):(gh n c l k).length=k+1:=by simp[gh]
theorem ahG (n:Nat)(c:Dyadic)(l:Nat->Dyadic)(k:Nat):∀t∈gh n c l k,fP t.1 n=true:=by
 intro t ht;unfold gh at ht;rcases List.mem_cons.1 ht with rfl|ht
 . exact YI n
 . obtain⟨j,_,rfl⟩:=List.mem_map.1 ht;exact NL n j
theorem ahH {B:Nat}(n:Nat)(c:Dyadic)(l:Nat->Dyadic)(k:Nat)(hc:Sm B c)(hl:∀j,j<k->Sm B (l j)):∀t∈gh n c l k,Sm B (ar t.2):=by
 intro t ht;unfold gh at ht;rcases List.mem_cons.1 ht with rfl|ht
 . show Sm B (ar (canon c));rw[bC];exact hc
 . obtain⟨j,hj,rfl⟩:=List.mem_map.1 ht;show Sm B (ar (canon (l j)));rw[bC];exact hl j (by simpa using hj)
theorem Wa (n:Nat)(c:Dyadic)(l:Nat->Dyadic)(k:Nat):gh n c l (k+1)=gh n c l k++[(dF n k,canon (l k))]:=by unfold gh;rw[List.range_succ,List.map_append];rfl
theorem Dx (n:Nat)(c:Dyadic)(l:Nat->Dyadic)(k:Nat)(m:List UInt8):cd (gh n c l (k+1)) m=cd (gh n c l k) m+if dF n k=m then l k else 0:=by rw[Wa,xJ];simp only[cd,bC];grind
theorem ahI (n:Nat)(c:Dyadic)(l:Nat->Dyadic)(k:Nat):bT (dz n c l k++bT [(dF n k,canon (l k))])=dz n c l (k+1):=by unfold dz;rw[adV,Wa]
theorem ad3 (n:Nat)(c d:Dyadic)(l r:Nat->Dyadic)(u v:Dyadic)(k:Nat)(m:List UInt8):cd (gh n (c*u+d*v) (λj=>l j*u+r j*v) k) m=cd (gh n c l k) m*u+cd (gh n d r k) m*v:=by
 induction k with
 |zero=>simp[gh,cd,bC];split<;>grind
 |succ k ih=>rw[Dx,ih,Dx,Dx];split<;>grind
theorem ahF {n:Nat}{c d:Dyadic}{l r:Nat->Dyadic}(k:Nat)(hc:c=d)(h:∀j,j<k->l j=r j):gh n c l k=gh n d r k:=by unfold gh;rw[hc];congr 1;refine List.map_congr_left λj hj=>?_;rw[h j (by simpa using hj)]
theorem ahJ (n:Nat)(c d:Dyadic)(l r:Nat->Dyadic)(k:Nat):bT (dz n c l k++bT (eZ (-1) (dz n d r k)))=dz n (c-d) (λj=>l j-r j) k:=by unfold dz;refine xI (λm=>?_);rw[xJ,rH,rH,Re,rH];have h:=ad3 n c d l r 1 (-1) k m;rw[ahF (d:=c-d) (r:=λj=>l j-r j) k (by grind) (λj _=>by grind)]at h;rw[h];grind
end Go.Proofs.YtoopepmmepmfnaaGreatDoor
namespace Go.Proofs.YtoopepmmepmfnaaGreatDoor
open Go.RowKit
attribute [local go_sem ↓] Go.wp_at_zero Go.wp_at_succ
def jW {α:Type}(p:α->Bool):List α->Nat->Int
 |[],_=>-1
 |v::l,k=>if p v then(k:Int)else jW p l (k+1)
theorem VL {α:Type}(p:α->Bool)(l:List α)(k n:Nat)(h:n<l.length):jW p (l.drop n) k=if p l[n]then(k:Int)else jW p (l.drop (n+1)) (k+1):=by rw[List.drop_eq_getElem_cons h];rfl
theorem VK {α:Type}(p:α->Bool)(l:List α)(k:Nat):decide (0<=jW p l k)=l.any p:=by
 induction l generalizing k with
 |nil=>rfl
 | cons v l ih=>
   unfold jW;rw[List.any_cons];by_cases h:p v=true
   . rw[if_pos h,h,Bool.true_or];simp
   . rw[if_neg h,ih];simp[h]
theorem VM {α:Type}(p:α->Bool)(l:List α)(k:Nat):(jW p l k= -1/\∀x∈l,p x=false)\/∃i,∃h:i<l.length,jW p l k=((k+i:Nat):Int)/\p l[i]=true/\∀j (hj:j<i),p (l[j]'zo)=false:=by
 induction l generalizing k with
 |nil=>exact .inl ⟨rfl,λx hx=>by cases hx⟩
 | cons v l ih=>
   unfold jW;by_cases h:p v=true
   . rw[if_pos h];exact .inr ⟨0,by simp,rfl,h,λj hj=>by omega⟩
   . rw[if_neg h];rcases ih (k+1)with⟨h1,h2⟩ |⟨i,h1,h2,h3,h4⟩
     . exact .inl ⟨h1,λx hx=>by rcases List.mem_cons.1 hx with rfl|hx;simpa using h;exact h2 x hx⟩
     . refine .inr ⟨i+1,by simpa using h1,by rw[h2];congr 1;omega,by simpa using h3,λj hj=>?_⟩;cases j with
       |zero=>simpa using h
       |succ j=>simpa using h4 j zo
structure Pv where
 V:Int
 a:Option Addr
 n:Nat
 c:Nat
def ji (p:Pv):List Value:=[.int .i64 p.V,.slice p.a p.n p.c]
theorem At.aqH {w:World}{a:Option Addr}{ps:List Pv}(h:At w a (ps.flatMap ji))(k:Nat)(hk:k<ps.length){V:Int}{a':Option Addr}{n c:Nat}(hx:ps[k]=⟨V,a',n,c⟩):
 ∃b o,a=some ⟨b,o,none⟩/\bg w b (o+k*2) [.int .i64 V,.slice a' n c]:=by
 obtain⟨b,o,hab,hcs⟩:=h.elem (f:=ji) (sz:=2) (λ_=>rfl) zd k hk;refine⟨b,o,hab,λj hj=>?_⟩;have:=hcs j hj;rw[hx]at this;rw[this];unfold ji;rw[List.getElem?_eq_getElem (by simpa using hj)]
theorem Mx (a:Option Addr)(n cap:Nat)(vals:List aI)(gf:Nat)(lb:Array Value)(p:aI->Bool)(w:World)(hn:vals.length=n)(hl:n<=1099511627776)(ha:At w a (vals.flatMap aM))
 (eg:∀args w,(callFunc gf args).run Tryz.prog w=.ok (.enter gf args) w)
 (hcl:∀x∈vals,∀W,Bw w W->Calls Tryz.prog gf (#[.agg #[.string (bs x.1),.bool x.2.1,.string (bs x.2.2.1),.int .i64 x.2.2.2]]++lb) W λe w'=>e=.returned (.bool (p x))/\Bw W w'):
 Calls Tryz.prog 210 #[.slice a n cap,.func (.func gf) #[] lb] w λe w'=>e=.returned (.int .i64 (jW p vals 0))/\Bw w w':=by
 obtain⟨Hn,Ha,fR,kq⟩:=dt hn ha hcl eg;clear hn ha hcl eg;have Hb:Hid (Bw w w):=Below.refl _ _;go_enter Tryz.func210,Tryz.ntmps210;go_wp2_with fail;go_loopw[5,8] (λ_ i wr=>∃k:Nat,k<=n/\i=.int .i64 (k:Int)/\jW p vals 0=jW p (vals.drop k) k/\Bw w wr) (λ_ i _=>n-(intOf i).toNat);case atStart=>exact⟨0,Nat.zero_le _,rfl,rfl,Hb.out⟩
 case round=>
  clear Hb;obtain⟨k,hk,rfl,fL,pb⟩:=hrel;obtain⟨kR,Hb⟩:=aJ fL pb;clear fL pb;by_cases hlt:k<n
  . have aZ:k<vals.length:=by rw[Hn.out];exact hlt
    obtain⟨l,s,m,e,hx⟩:∃l s m e,vals[k]=(l,s,m,e):=⟨_,_,_,_,rfl⟩;obtain⟨b,o,hab,dZ⟩:=(Ha.out.below Hb.out).term k aZ hx;obtain⟨q0,q1,q2,q3⟩:=dZ.w4;have aX:=qj n cap k (k:Int) hab hlt rfl;have hcall:=fR.out _ (List.getElem_mem aZ) wr Hb.out;have hstep:=VL p vals k k aZ;rw[<-kR.out]at hstep;rw[hx]at hcall hstep;obtain⟨gj,iX⟩:=aJ hstep hcall;have kQ:=kq.out;clear dZ hab hx hstep hcall;go_wp2_with fail;refine iX.out.mono ?_;rintro e9 w1 ⟨rfl,hb1⟩;replace Hb:=af (aG Hb.out hb1);clear hb1 q0 q1 q2 q3 aX kQ;obtain⟨t,ht⟩:=az (p (l,s,m,e));rw[ht]at gj⊢;clear ht;cases t with
    |true=>go_wp2;refine bodyPost_ret (results_tmp rfl _ _ _) rfl ⟨?_,Hb.out⟩;have h:=gj.out;rw[if_pos (by trivial)]at h;rw[h];rfl
    | false=>
      go_wp2;go_roundw;case rel=>exact⟨k+1,by omega,by go_num,by have h:=gj.out;rw[if_neg zd]at h;exact h,Hb.out⟩
      case measure=>simp[intOf];omega
  . obtain rfl:k=n:=by omega
    go_wp2;refine bodyPost_ret (results_tmp rfl _ _ _) rfl ⟨?_,Hb.out⟩;have h:=kR.out;rw[List.drop_of_length_le (by rw[Hn.out];exact Nat.le_refl _)]at h;rw[h];rfl
theorem aed (a:Option Addr)(n cap:Nat)(vals:List aI)(gf:Nat)(lb:Array Value)(p:aI->Bool)(w:World)(hn:vals.length=n)(hl:n<=1099511627776)(ha:At w a (vals.flatMap aM))
 (eg:∀args w,(callFunc gf args).run Tryz.prog w=.ok (.enter gf args) w)
 (hcl:∀x∈vals,∀W,Bw w W->Calls Tryz.prog gf (#[.agg #[.string (bs x.1),.bool x.2.1,.string (bs x.2.2.1),.int .i64 x.2.2.2]]++lb) W λe w'=>e=.returned (.bool (p x))/\Bw W w'):
 Calls Tryz.prog 185 #[.slice a n cap,.func (.func gf) #[] lb] w λe w'=>e=.returned (.bool (vals.any p))/\Bw w w':=by
 have h1:=Mx a n cap vals gf lb p w hn hl ha eg hcl;rw[<-VK p vals 0];generalize jW p vals 0=i at*;have H1:=af h1;clear h1 hcl eg ha hn;have Hb:Hid (Bw w w):=Below.refl _ _;go_enter Tryz.func185,Tryz.ntmps185;go_wp2_with fail;refine(H1.out).mono ?_;rintro e w1 ⟨rfl,ae⟩;replace Hb:=ak Hb ae;clear ae;go_wp2;refine bodyPost_ret (v:=.bool (decide (0<=i))) (by simp[results,Tryz.results185,go_sem]) rfl ⟨rfl,?_⟩;(repeat first|exact Hb.out| (refine Below.setCell ?_ (by have:=Hb.out.size;first| (dsimp only;omega) | (show _<=_;omega) | (simp<;>omega)) _) | (refine Below.alloc ?_ zt _) |refine Below.drew ?_)
theorem ahc (a:Option Addr)(n cap:Nat)(vals:List Pv)(gf:Nat)(lb:Array Value)(p:Pv->Bool)(w:World)(hn:vals.length=n)(hl:n<=1099511627776)(ha:At w a (vals.flatMap ji))
 (eg:∀args w,(callFunc gf args).run Tryz.prog w=.ok (.enter gf args) w)
 (hcl:∀x∈vals,∀W,Bw w W->Calls Tryz.prog gf (#[.agg #[.int .i64 x.V,.slice x.a x.n x.c]]++lb) W λe w'=>e=.returned (.bool (p x))/\Bw W w'):
 Calls Tryz.prog 211 #[.slice a n cap,.func (.func gf) #[] lb] w λe w'=>e=.returned (.int .i64 (jW p vals 0))/\Bw w w':=by
 obtain⟨Hn,Ha,fR,kq⟩:=dt hn ha hcl eg;clear hn ha hcl eg;have Hb:Hid (Bw w w):=Below.refl _ _;go_enter Tryz.func211,Tryz.ntmps211;go_wp2_with fail;go_loopw[5,8] (λ_ i wr=>∃k:Nat,k<=n/\i=.int .i64 (k:Int)/\jW p vals 0=jW p (vals.drop k) k/\Bw w wr) (λ_ i _=>n-(intOf i).toNat);case atStart=>exact⟨0,Nat.zero_le _,rfl,rfl,Hb.out⟩
 case round=>
  clear Hb;obtain⟨k,hk,rfl,fL,pb⟩:=hrel;obtain⟨kR,Hb⟩:=aJ fL pb;clear fL pb;by_cases hlt:k<n
  . have aZ:k<vals.length:=by rw[Hn.out];exact hlt
    obtain⟨V,a1,n1,c1,hx⟩:∃V a1 n1 c1,vals[k]=⟨V,a1,n1,c1⟩:=⟨_,_,_,_,rfl⟩;obtain⟨b,o,hab,dZ⟩:=(Ha.out.below Hb.out).aqH k aZ hx;obtain⟨q0,q1⟩:=dZ.w2;have aX:=vX n cap k (k:Int) hab hlt rfl;have hcall:=fR.out _ (List.getElem_mem aZ) wr Hb.out;have hstep:=VL p vals k k aZ;rw[<-kR.out]at hstep;rw[hx]at hcall hstep;obtain⟨gj,iX⟩:=aJ hstep hcall;have kQ:=kq.out;clear dZ hab hx hstep hcall;go_wp2_with fail;refine iX.out.mono ?_;rintro e9 w1 ⟨rfl,hb1⟩;replace Hb:=af (aG Hb.out hb1);clear hb1 q0 q1 aX kQ;obtain⟨t,ht⟩:=az (p ⟨V,a1,n1,c1⟩);rw[ht]at gj⊢;clear ht;cases t with
    |true=>go_wp2;refine bodyPost_ret (results_tmp rfl _ _ _) rfl ⟨?_,Hb.out⟩;have h:=gj.out;rw[if_pos (by trivial)]at h;rw[h];rfl
    | false=>
      go_wp2;go_roundw;case rel=>exact⟨k+1,by omega,by go_num,by have h:=gj.out;rw[if_neg zd]at h;exact h,Hb.out⟩
      case measure=>simp[intOf];omega
  . obtain rfl:k=n:=by omega
    go_wp2;refine bodyPost_ret (results_tmp rfl _ _ _) rfl ⟨?_,Hb.out⟩;have h:=kR.out;rw[List.drop_of_length_le (by rw[Hn.out];exact Nat.le_refl _)]at h;rw[h];rfl
theorem aee (a:Option Addr)(n cap:Nat)(vals:List Pv)(gf:Nat)(lb:Array Value)(p:Pv->Bool)(w:World)(hn:vals.length=n)(hl:n<=1099511627776)(ha:At w a (vals.flatMap ji))
 (eg:∀args w,(callFunc gf args).run Tryz.prog w=.ok (.enter gf args) w)
 (hcl:∀x∈vals,∀W,Bw w W->Calls Tryz.prog gf (#[.agg #[.int .i64 x.V,.slice x.a x.n x.c]]++lb) W λe w'=>e=.returned (.bool (p x))/\Bw W w'):
 Calls Tryz.prog 191 #[.slice a n cap,.func (.func gf) #[] lb] w λe w'=>e=.returned (.bool (vals.any p))/\Bw w w':=by
 have h1:=ahc a n cap vals gf lb p w hn hl ha eg hcl;rw[<-VK p vals 0];generalize jW p vals 0=i at*;have H1:=af h1;clear h1 hcl eg ha hn;have Hb:Hid (Bw w w):=Below.refl _ _;go_enter Tryz.func191,Tryz.ntmps191;go_wp2_with fail;refine(H1.out).mono ?_;rintro e w1 ⟨rfl,ae⟩;replace Hb:=ak Hb ae;clear ae;go_wp2;refine bodyPost_ret (v:=.bool (decide (0<=i))) (by simp[results,Tryz.results191,go_sem]) rfl ⟨rfl,?_⟩;(repeat first|exact Hb.out| (refine Below.setCell ?_ (by have:=Hb.out.size;first| (dsimp only;omega) | (show _<=_;omega) | (simp<;>omega)) _) | (refine Below.alloc ?_ zt _) |refine Below.drew ?_)
end Go.Proofs.YtoopepmmepmfnaaGreatDoor
