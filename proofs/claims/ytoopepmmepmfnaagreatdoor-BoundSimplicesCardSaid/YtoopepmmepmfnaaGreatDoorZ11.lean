/- Small facts that many walks share: numbers in memory,windows,own rows. -/
import Derived.Test.YtoopepmmepmfnaaGreatDoorZ9
import Derived.Test.YtoopepmmepmfnaaGreatDoorZ10
import Derived.Test.YtoopepmmepmfnaaGreatDoorZ7
import Derived.Carry
import Derived.Maps.AppendAt
import Derived.Maps.OwnIn
import Derived.Maps.Own
import Derived.Maps.Views
import Derived.Maps.Keyed
import Derived.Maps.OwnSet
import Derived.Shelf.Abstract
import Derived.Shelf.RegionOpen
import Derived.OwnWalkIn
import Derived.TacticsInMore
import Derived.LoopNIn
import Derived.LoopIn
import Derived.Lib.BufferWrite
import Derived.Deep.WholeRow
import Derived.Test.YtoopepmmepmfnaaGreatDoorZ5
set_option linter.unusedVariables false
set_option linter.unusedSimpArgs false
set_option maxRecDepth 100000
set_option maxHeartbeats 16000000
namespace Go.Proofs.YtoopepmmepmfnaaGreatDoor
open Go.RowKit
attribute [local go_sem ↓] Go.wp_at_zero Go.wp_at_succ
def hp (k:Nat):Dyadic:=Dyadic.ofIntWithPrec 1 k
theorem acJ (D:Dyadic)(k:Nat):az (au (dN D),nt (dN D).natAbs,dE D+ -(k:Int))=D*hp k:=by
 have h:=bD D;unfold az canon at h;unfold az hp;simp only[eX]at h⊢;conv=>rhs;rw[<-h]
 rw[wj,Int.mul_one];congr 1;omega
theorem Lr (k:Nat):Sm (k+1) (hp k):=by
 refine⟨2,?_,?_⟩
 . unfold hp;rw[<-tO 1 1 k];rfl
 . have:2^2<=2^(2* (k+1)):=Nat.pow_le_pow_right zd zo;omega
theorem Tryz.aw4 :(Tryz.prog.info? 39).map (λi=>(i.zero,i.size,i.bytes))=some (some (.agg #[ag false,.string (bs []),af 0]),3,32):=by kernel_rfl
def dC (ds:List Dyadic):List Value:=ds.flatMap λd=>bI (canon d)
theorem ajp (ds:List Dyadic):(dC ds).length=ds.length*3:=nM _ 3 (λ_=>rfl) ds
theorem zD (a b:List Dyadic):dC (a++b)=dC a++dC b:=by unfold dC;rw[List.flatMap_append]
theorem anG (n:Nat):madeCells (Value.agg #[ag false,.string (bs []),af 0]).cells (n*3)=(dC (List.replicate n 0)).toArray:=by
 have h:∀n,(List.range (n*3)).map (λi=>(Value.agg #[ag false,.string (bs []),af 0]).cells[i%3]!)=dC (List.replicate n 0):=by
  intro n;induction n with
  |zero=>rfl
  |succ n ih=>rw[show(n+1) *3=n*3+1+1+1 by omega,List.range_succ,List.range_succ,List.range_succ,List.map_append,List.map_append,List.map_append,ih,List.replicate_succ',zD];simp only[List.map_cons,List.map_nil,List.append_assoc];rw[show n*3%3=0 by omega,show(n*3+1)%3=1 by omega,show(n*3+1+1)%3=2 by omega];rfl
 apply Array.ext';rw[<-h n];simp[madeCells];intro a _;rfl
theorem ab6 {Y:Nat->Prop}{W W':World}{base:Nat}{e:TypeId}{size:Nat}{v:Value}{n:Nat}{xs:List Value}(h:W.ownsRow base e size v n xs)(hc:Chg Y W W')(hy:∀b,v.ownBlock=some b->¬Y b):W'.ownsRow base e size v n xs:=by
 refine⟨h.1,?_⟩;rcases h.2 with h1|⟨g,cap,cur,rfl,hb,hg,h2,h3,h4,h5⟩
 . exact .inl h1
 . exact .inr ⟨g,cap,cur,rfl,hb,(hc.block g (Array.getElem?_eq_some_iff.1 hg).1 (hy g rfl)).trans hg,h2,h3,h4,h5⟩
theorem eo {W:World}{base:Nat}{e:TypeId}{size:Nat}{v:Value}{n:Nat}{xs:List Value}(h:W.ownsRow base e size v n xs):∃a cap,v=.slice a n cap/\At W a xs/\∀b o,a=some ⟨b,o,none⟩->base<=b:=by
 rcases h.2 with⟨rfl,rfl⟩ |⟨g,cap,cur,rfl,hb,hg,h2,h3,h4,h5⟩
 . refine⟨none,0,rfl,.inl ?_,λb o e=>by cases e⟩;have:=h.1;simpa using this
 . refine⟨_,cap,rfl,.inr ⟨g,0,rfl,λj hj=>?_⟩,λb o e=>by cases e;exact hb⟩;have:=h.cells (g:=g) rfl j (xs[j]) (by simp[hj]);rw[Nat.zero_add];have e2:((⟨g,0,none⟩:Addr).add j)=⟨g,j,none⟩:=by simp[Addr.add];omega
   rw[e2]at this;rw[this];simp[hj]
def bH (w:World)(b o:Nat)(cs:List Value):Prop:=∀j (h:j<cs.length),w.cell? ⟨b,o+j,none⟩=some cs[j]
theorem bH.cell {w:World}{b o:Nat}{cs:List Value}(h:bH w b o cs)(j:Nat)(hj:j<cs.length):w.cell? ⟨b,o+j,none⟩=some cs[j]:=h j hj
theorem bH.w1 {w:World}{b o:Nat}{x0:Value}(h:bH w b o [x0]):w.cell? ⟨b,o,none⟩=some x0:=h 0 zm
theorem bH.w2 {w:World}{b o:Nat}{x0 x1:Value}(h:bH w b o [x0,x1]):w.cell? ⟨b,o,none⟩=some x0/\w.cell? ⟨b,o+1,none⟩=some x1:=⟨h 0 zm,h 1 zm⟩
theorem bH.w3 {w:World}{b o:Nat}{x0 x1 x2:Value}(h:bH w b o [x0,x1,x2]):w.cell? ⟨b,o,none⟩=some x0/\w.cell? ⟨b,o+1,none⟩=some x1/\w.cell? ⟨b,o+2,none⟩=some x2:=⟨h 0 zm,h 1 zm,h 2 zm⟩
theorem bH.w4 {w:World}{b o:Nat}{x0 x1 x2 x3:Value}(h:bH w b o [x0,x1,x2,x3]):w.cell? ⟨b,o,none⟩=some x0/\w.cell? ⟨b,o+1,none⟩=some x1/\w.cell? ⟨b,o+2,none⟩=some x2/\w.cell? ⟨b,o+3,none⟩=some x3:=⟨h 0 zm,h 1 zm,h 2 zm,h 3 zm⟩
theorem bH.below {w w':World}{b o:Nat}{cs:List Value}(h:bH w b o cs)(hb:Bw w w'):bH w' b o cs:=λj hj=>cell_later hb (h j hj)
theorem kW {w w':World}{b o:Nat}{cs:List Value}(h:Hid (bH w b o cs))(k:Bw w w'):Hid (bH w' b o cs):=h.out.below k
theorem bH.aw3 {w:World}{b o:Nat}{cs:List Value}(h:bH w b o cs)(a:Addr)(hne:b≠a.block)(u:Value):bH (w.setCell a u) b o cs:=λj hj=>gG hne (h j hj)
theorem LH {w w':World}{b c p o:Nat}{cs vs:List Value}(h:Hid (bH w b c cs))(k:bC w p o vs w')(n:p≠b):Hid (bH w' b c cs):=by
 have g:∀(vs:List Value) (o:Nat) (w:World),bH w b c cs->bH (wA p o vs w) b c cs:=by
  intro vs;induction vs with
  |nil=>intro o w h;exact h
  |cons v vs ih=>intro o w h;exact ih _ _ (h.aw3 ⟨p,o,none⟩ (λe=>n e.symm) v)
 rcases k with rfl|rfl
 . exact g vs o _ h.out
 . exact g vs o w.drew h.out
theorem ajq (ds:List Dyadic)(i:Nat)(D:Dyadic):(((dC ds).set (i*3) (ag (au (dN D)))).set (i*3+1) (ah (nt (dN D).natAbs))).set (i*3+2) (af (dE D))=dC (ds.set i D):=by
 induction ds generalizing i with
 |nil=>simp[dC]
 | cons x ds ih=>
   have e:∀y:Dyadic,∀zs,dC (y::zs)=ag (au (dN y))::ah (nt (dN y).natAbs)::af (dE y)::dC zs:=λy zs=>rfl;cases i with
   |zero=>rw[e];rfl
   |succ i=>rw[List.set_cons_succ,e,e,<-ih i,show(i+1) *3=i*3+1+1+1 by omega];rfl
theorem vC (ds:List Dyadic):dC ds=(ds.map canon).flatMap bI:=by unfold dC;rw[List.flatMap_map]
theorem dW {P:Program}{fn:Func}{R:Ending->World->Prop}{e:Exit}{a:Act}{W:World}(S:World->Prop)(hS:S W)(h:∀W',S W'->bodyPost P fn R e a W'):bodyPost P fn R e a W:=h W hS
theorem ar.not_row {W:World}{B:Nat}{t e:TypeId}{cs:List Value}(h:ar W B t cs)(hte:t≠e){base size k:Nat}{v:Value}{xs:List Value}(hr:W.ownsRow base e size v k xs):some B≠v.ownBlock:=by
 rcases hr.2 with⟨rfl,_⟩ |⟨g,cap,cur,rfl,_,hgb,_⟩
 . simp[Value.ownBlock]
 . intro e';simp only[Value.ownBlock,Option.some.injEq]at e';subst e';have:=h.symm.trans hgb;simp at this;exact hte this.2
theorem ar.row {W W':World}{B:Nat}{t e:TypeId}{cs:List Value}(h:ar W B t cs)(hte:t≠e){base size k:Nat}{v:Value}{xs:List Value}(hr:W.ownsRow base e size v k xs)(hg:W.grownBy W' v.ownBlock):ar W' B t cs:=
 h.grown hg (h.not_row hte hr)
theorem ownsRow_below {W W':World}{base:Nat}{e:TypeId}{size:Nat}{v:Value}{n:Nat}{xs:List Value}(h:W.ownsRow base e size v n xs)(hb:Bw W W'):W'.ownsRow base e size v n xs:=by refine ab6 (Y:=λ_=>False) h (Chg.of_below hb) (λ_ _ h=>h)
theorem dz {W:World}{base:Nat}{e:TypeId}{size:Nat}{v:Value}{n:Nat}{xs:List Value}(h:W.ownsRow base e size v n xs):∀k,v.ownBlock=some k->base<=k:=λk hk=>(h.lt k hk).1
theorem kv {w:World}{b o:Nat}{x y z:Value}(h0:w.cell? ⟨b,o,none⟩=some x)(h1:w.cell? ⟨b,o+1,none⟩=some y)(h2:w.cell? ⟨b,o+2,none⟩=some z):bH w b o [x,y,z]:=by
 intro j hj;rcases j with _|_|_|j
 . exact h0
 . exact h1
 . exact h2
 . simp at hj;omega
theorem ic {W:World}{b:Nat}{t:TypeId}{cs:List Value}(h:ar W b t cs):∀j u,cs[j]?=some u->W.cell? ((⟨b,0,none⟩:Addr).add j)=some u:=by
 intro j u hj;have e2:((⟨b,0,none⟩:Addr).add j)=⟨b,j,none⟩:=by simp[Addr.add];omega
 rw[e2,h.cell];exact hj
theorem At.num {W:World}{a:Option Addr}{cM:List Raw}(h:At W a (cM.flatMap bI))(k:Nat)(hk:k<cM.length){s:Bool}{m:List UInt8}{e:Int}(hx:cM[k]=(s,m,e)):
 ∃b o,a=some ⟨b,o,none⟩/\W.cell? ⟨b,o+k*3,none⟩=some (ag s)/\W.cell? ⟨b,o+k*3+1,none⟩=some (ah m)/\W.cell? ⟨b,o+k*3+2,none⟩=some (af e):=by
 obtain⟨b,o,ha,hc⟩:=h.elem (f:=bI) (sz:=3) (λ_=>rfl) zd k hk;rw[hx]at hc;exact⟨b,o,ha,by simpa[bI]using hc 0 zd,by simpa[bI]using hc 1 zd,by simpa[bI]using hc 2 zd⟩
theorem Xp {B:Nat}{cs:List Dyadic}(h:∀c∈cs,Sm B c)(k:Nat):Sm B (cs.getD k 0):=by
 by_cases hk:k<cs.length
 . have:cs.getD k 0=cs[k]:=by simp[hk]
   rw[this];exact h _ (List.getElem_mem hk)
 . have:cs.getD k 0=0:=by simp[List.getD_eq_getElem?_getD,List.getElem?_eq_none (by omega:cs.length<=k)]
   rw[this];exact Sm.zero B
end Go.Proofs.YtoopepmmepmfnaaGreatDoor
namespace Go.Proofs.YtoopepmmepmfnaaGreatDoor
abbrev Pr:=Dyadic ×Dyadic
def cN (s:Raw×Raw):Pr:=(az s.1,az s.2)
def fw (p:Pr):Raw×Raw:=(canon p.1,canon p.2)
theorem acQ (p:Pr):cN (fw p)=p:=by unfold cN fw;rw[bD,bD]
def js (p:Pr):Pr:=if 0<bA (p.1-p.2)then(p.2,p.1)else p
def Bl (p:Pr):Dyadic:=(js p).2-(js p).1
def qN (p:Pr):Dyadic:=(p.1+p.2) *hp 1
theorem anL (p:Pr):qN (js p)=qN p:=by
 unfold js qN;split
 . show(p.2+p.1) *hp 1=_;rw[show p.2+p.1=p.1+p.2 by grind]
 . rfl
def lR (bx:List Pr):Int:=if bx=[]then 1 else if bx.any (λp=>decide (0<=bA (p.1-p.2)))then 5 else 0
def iV (f:Nat->Dyadic):Nat->Nat
 |0=>0
 |k+1=>if 0<bA (f k-f (iV f k))then k else iV f k
theorem Kf (X:Dyadic):0<bA X↔0<X:=by
 have h1:=zG X;have h2:=WX X;constructor
 . intro h;have a1:¬X<0:=λhx=>by have:=h1.2 hx;omega
   have a2:X≠0:=λhx=>by have:=h2.2 hx;omega
   grind
 . intro h;have a1:¬bA X<0:=λhx=>by have:=h1.1 hx;grind
   have a2:bA X≠0:=λhx=>by have:=h2.1 hx;grind
   omega
theorem ac4 (a b:Dyadic):0<a-b↔b<a:=by grind
theorem Wd (f:Nat->Dyadic)(L:Nat)(hL:1<=L):iV f L<L/\(∀k,k<L->¬f (iV f L)<f k)/\∀k,k<iV f L->f k<f (iV f L):=by
 induction L with
 |zero=>omega
 | succ L ih=>
   by_cases h0:L=0
   . subst h0;have e:iV f 1=0:=by unfold iV iV;simp
     rw[e]
     exact ⟨by omega, fun k hk => by have:k=0:=by omega
                                     subst this;grind,λk hk=>absurd hk zo⟩
   . obtain⟨i1,i2,i3⟩:=ih zo;show(if 0<bA (f L-f (iV f L))then L else iV f L)<L+1/\_
     have e:iV f (L+1)=if 0<bA (f L-f (iV f L))then L else iV f L:=rfl
     rw[e];by_cases h:0<bA (f L-f (iV f L))
     . rw[if_pos h];have h2:f (iV f L)<f L:=(ac4 _ _).1 ((Kf _).1 h);refine⟨by omega,λk hk=>?_,λk hk=>?_⟩
       . by_cases vP:k=L
         . subst vP;grind
         . have:=i2 k zo;grind
       . have:=i2 k zo;grind
     . rw[if_neg h];have h2:¬f (iV f L)<f L:=λh3=>h ((Kf _).2 ((ac4 _ _).2 h3));refine⟨by omega,λk hk=>?_,i3⟩;by_cases vP:k=L
       . subst vP;exact h2
       . exact i2 k zo
def rR (bx:List Pr)(a:Nat)(up:Bool):List Pr:=(bx.map js).set a (if up then(qN (bx.getD a (0,0)),(js (bx.getD a (0,0))).2)else((js (bx.getD a (0,0))).1,qN (bx.getD a (0,0))))
theorem ali (bx:List Pr)(a:Nat)(up:Bool):(rR bx a up).length=bx.length:=by simp[rR]
def uU (bx:List Pr):Nat:=iV (λi=>Bl (bx.getD i (0,0))) bx.length
def yt (bx:List Pr):Nat->List Pr
 |0=>bx
 |k+1=>rR (yt bx k) (uU (yt bx k)) false
def xe (bx:List Pr)(k:Nat):Nat:=uU (yt bx k)
theorem aqN (bx:List Pr)(k:Nat):(yt bx k).length=bx.length:=by
 induction k with
 |zero=>rfl
 |succ k ih=>show(rR _ _ _).length=_;rw[ali,ih]
def ow (bx:List Pr):Nat->Nat->Nat
 |0,_=>0
 |k+1,i=>ow bx k i+(if i=xe bx k then 1 else 0)
theorem adg (bx:List Pr)(k i:Nat):ow bx k i<=k:=by
 induction k with
 |zero=>exact Nat.le_refl _
 |succ k ih=>unfold ow;split<;>omega
def sM (B:Nat)(bx:List Pr):Prop:=∀p∈bx,Sm B p.1/\Sm B p.2
theorem yo {B:Nat}{p:Pr}(h:Sm B p.1/\Sm B p.2):Sm B (js p).1/\Sm B (js p).2:=by
 unfold js;split
 . exact⟨h.2,h.1⟩
 . exact h
theorem abC {B:Nat}{p:Pr}(h:Sm B p.1/\Sm B p.2):Sm (B+3) (qN p):=(Sm.mul (Sm.add h.1 h.2) (Lr 1)).mono zo
theorem arT {B:Nat}{p:Pr}(h:Sm B p.1/\Sm B p.2):Sm (B+1) (Bl p):=Sm.sub (yo h).2 (yo h).1
theorem sM.mono {B B':Nat}{bx:List Pr}(h:sM B bx)(hb:B<=B'):sM B' bx:=λp hp=>⟨(h p hp).1.mono hb,(h p hp).2.mono hb⟩
theorem sM.get {B:Nat}{bx:List Pr}(h:sM B bx)(a:Nat):Sm B (bx.getD a (0,0)).1/\Sm B (bx.getD a (0,0)).2:=by
 by_cases ha:a<bx.length
 . have e:bx.getD a (0,0)=bx[a]:=by simp[ha]
   rw[e];exact h _ (List.getElem_mem ha)
 . have e:bx.getD a (0,0)=(0,0):=by simp[List.getD_eq_getElem?_getD,List.getElem?_eq_none (by omega:bx.length<=a)]
   rw[e];exact⟨Sm.zero _,Sm.zero _⟩
theorem alk {B:Nat}{bx:List Pr}(h:sM B bx)(a:Nat)(up:Bool):sM (B+3) (rR bx a up):=by
 intro p hp;rcases List.mem_or_eq_of_mem_set hp with h1|h1
 . obtain⟨q,hq,rfl⟩:=List.mem_map.1 h1;exact⟨(yo (h q hq)).1.mono zo,(yo (h q hq)).2.mono zo⟩
 . have h2:=h.get a;subst h1;cases up
   . exact⟨(yo h2).1.mono zo,abC h2⟩
   . exact⟨abC h2,(yo h2).2.mono zo⟩
theorem aqO {B:Nat}{bx:List Pr}(h:sM B bx)(k:Nat):sM (B+3*k) (yt bx k):=by
 induction k with
 |zero=>exact h
 |succ k ih=>exact(alk ih _ _).mono zo
def tN (c:Nat->Bool)(d:Nat):Nat->Nat->Option Nat
 |0,_=>none
 |f+1,q=>if 1024<d*q then none else if c q then some (d*q)else tN c d f (q+1)
def xZ (c:Nat->Bool)(d:Nat):Option Nat:=tN c d 1026 0
def tV (g:Dyadic)(ds:Nat->Dyadic)(t:Nat->Nat):Nat->Dyadic
 |0=>0
 |i+1=>tV g ds t i+g*ds i*hp (t i)
end Go.Proofs.YtoopepmmepmfnaaGreatDoor
namespace Go.Proofs.YtoopepmmepmfnaaGreatDoor
open Go.RowKit
attribute [local go_sem ↓] Go.wp_at_zero Go.wp_at_succ
def idxFrom (p:Value->Bool):List Value->Nat->Int
 |[],_=>-1
 |v::l,k=>if p v then(k:Int)else idxFrom p l (k+1)
theorem RI (p:Value->Bool)(l:List Value)(k n:Nat)(h:n<l.length):idxFrom p (l.drop n) k=if p l[n]then(k:Int)else idxFrom p (l.drop (n+1)) (k+1):=by rw[List.drop_eq_getElem_cons h];rfl
theorem aaT (p:Value->Bool)(l:List Value)(k:Nat):decide (0<=idxFrom p l k)=l.any p:=by
 induction l generalizing k with
 |nil=>rfl
 | cons v l ih=>
   unfold idxFrom;rw[List.any_cons];by_cases h:p v=true
   . rw[if_pos h,h,Bool.true_or];simp
   . rw[if_neg h,ih];simp[h]
theorem amq (a:Option Addr)(n cap:Nat)(vals:List Value)(gf:Nat)(lb:Array Value)(p:Value->Bool)(w:World)(hn:vals.length=n)(hl:n<=1099511627776)(ha:At w a vals)
 (eg:∀args w,(callFunc gf args).run Tryz.prog w=.ok (.enter gf args) w)
 (hcl:∀v∈vals,∀W,Bw w W->Calls Tryz.prog gf (#[v]++lb) W λe w'=>e=.returned (ag (p v))/\Bw W w'):
 Calls Tryz.prog 178 #[.slice a n cap,.func (.func gf) #[] lb] w λe w'=>e=.returned (af (idxFrom p vals 0))/\Bw w w':=by
 obtain⟨Hn,Ha,iI,ny⟩:=dx hn ha hcl eg;clear hn ha hcl eg;have Hb:Hid (Bw w w):=Below.refl _ _;go_enter Tryz.func178,Tryz.ntmps178;go_wp2_with fail;go_loopw[5,8] (λ_ i wr=>∃k:Nat,k<=n/\i=af (k:Int)/\idxFrom p vals 0=idxFrom p (vals.drop k) k/\Bw w wr) (λ_ i _=>n-(intOf i).toNat);case atStart=>exact⟨0,Nat.zero_le _,rfl,rfl,Hb.out⟩
 case round=>
  clear Hb;obtain⟨k,hk,rfl,iB,pb⟩:=hrel;obtain⟨oH,Hb⟩:=aO iB pb;clear iB pb;by_cases hlt:k<n
  . have bG:k<vals.length:=by rw[Hn.out];exact hlt
    obtain⟨b,o,hab,hcs⟩:=(Ha.out.below Hb.out).get (by intro h;rw[h]at bG;simp at bG);obtain⟨v,hv⟩:=aG (vals[k]);have hc0:wr.cell? ⟨b,o+k,none⟩=some v:=by rw[hcs k bG,List.getElem?_eq_getElem bG,hv]
    have bK:=kO n cap k (k:Int) hab hlt rfl;rw[Nat.mul_one]at bK;have hcall:=iI.out v (by rw[<-hv];exact List.getElem_mem bG) wr Hb.out;have hstep:=RI p vals k k bG;rw[hv,<-oH.out]at hstep;obtain⟨fW,kY⟩:=aO hstep hcall;have oG:=ny.out;clear hcs hab hv hstep hcall;go_wp2_with fail;refine kY.out.mono ?_;rintro e w1 ⟨rfl,hb1⟩;replace Hb:=ai (aJ Hb.out hb1);clear hb1 hc0 bK oG;obtain⟨t,ht⟩:=aG (p v);rw[ht]at fW⊢;clear ht;cases t with
    |true=>go_wp2;refine bodyPost_ret (results_tmp rfl _ _ _) rfl ⟨?_,Hb.out⟩;have h:=fW.out;rw[if_pos (by trivial)]at h;rw[h];rfl
    | false=>
      go_wp2;go_roundw;case rel=>exact⟨k+1,by omega,by go_num,by have h:=fW.out;rw[if_neg zd]at h;exact h,Hb.out⟩
      case measure=>simp[intOf];omega
  . obtain rfl:k=n:=by omega
    go_wp2;refine bodyPost_ret (results_tmp rfl _ _ _) rfl ⟨?_,Hb.out⟩;have h:=oH.out;rw[List.drop_of_length_le (by rw[Hn.out];exact Nat.le_refl _)]at h;rw[h];rfl
theorem aje (a:Option Addr)(n cap:Nat)(vals:List Value)(gf:Nat)(lb:Array Value)(p:Value->Bool)(w:World)(hn:vals.length=n)(hl:n<=1099511627776)(ha:At w a vals)
 (eg:∀args w,(callFunc gf args).run Tryz.prog w=.ok (.enter gf args) w)
 (hcl:∀v∈vals,∀W,Bw w W->Calls Tryz.prog gf (#[v]++lb) W λe w'=>e=.returned (ag (p v))/\Bw W w'):
 Calls Tryz.prog 140 #[.slice a n cap,.func (.func gf) #[] lb] w λe w'=>e=.returned (ag (vals.any p))/\Bw w w':=by
 have h1:=amq a n cap vals gf lb p w hn hl ha eg hcl;rw[<-aaT p vals 0];generalize idxFrom p vals 0=i at*;have H1:=ai h1;clear h1 hcl eg ha hn;have Hb:Hid (Bw w w):=Below.refl _ _;go_enter Tryz.func140,Tryz.ntmps140;go_wp2_with fail;refine(H1.out).mono ?_;rintro e w1 ⟨rfl,ae⟩;replace Hb:=aB Hb ae;clear ae;go_wp2;exact bodyPost_ret (v:=ag (decide (0<=i))) (by simp[results,Tryz.results140,go_sem]) rfl ⟨rfl,df⟩
theorem amo (a:Option Addr)(n cap:Nat)(vals:List Value)(gf:Nat)(lb:Array Value)(p:Value->Bool)(w:World)(hn:vals.length=n)(hl:n<=1099511627776)(ha:At w a vals)
 (eg:∀args w,(callFunc gf args).run Tryz.prog w=.ok (.enter gf args) w)
 (hcl:∀v∈vals,∀W,Bw w W->Calls Tryz.prog gf (#[v]++lb) W λe w'=>e=.returned (ag (p v))/\Bw W w'):
 Calls Tryz.prog 206 #[.slice a n cap,.func (.func gf) #[] lb] w λe w'=>e=.returned (af (idxFrom p vals 0))/\Bw w w':=by
 obtain⟨Hn,Ha,iI,ny⟩:=dx hn ha hcl eg;clear hn ha hcl eg;have Hb:Hid (Bw w w):=Below.refl _ _;go_enter Tryz.func206,Tryz.ntmps206;go_wp2_with fail;go_loopw[5,8] (λ_ i wr=>∃k:Nat,k<=n/\i=af (k:Int)/\idxFrom p vals 0=idxFrom p (vals.drop k) k/\Bw w wr) (λ_ i _=>n-(intOf i).toNat);case atStart=>exact⟨0,Nat.zero_le _,rfl,rfl,Hb.out⟩
 case round=>
  clear Hb;obtain⟨k,hk,rfl,iB,pb⟩:=hrel;obtain⟨oH,Hb⟩:=aO iB pb;clear iB pb;by_cases hlt:k<n
  . have bG:k<vals.length:=by rw[Hn.out];exact hlt
    obtain⟨b,o,hab,hcs⟩:=(Ha.out.below Hb.out).get (by intro h;rw[h]at bG;simp at bG);obtain⟨v,hv⟩:=aG (vals[k]);have hc0:wr.cell? ⟨b,o+k,none⟩=some v:=by rw[hcs k bG,List.getElem?_eq_getElem bG,hv]
    have bK:=xS n cap k (k:Int) hab hlt rfl;rw[Nat.mul_one]at bK;have hcall:=iI.out v (by rw[<-hv];exact List.getElem_mem bG) wr Hb.out;have hstep:=RI p vals k k bG;rw[hv,<-oH.out]at hstep;obtain⟨fW,kY⟩:=aO hstep hcall;have oG:=ny.out;clear hcs hab hv hstep hcall;go_wp2_with fail;refine kY.out.mono ?_;rintro e w1 ⟨rfl,hb1⟩;replace Hb:=ai (aJ Hb.out hb1);clear hb1 hc0 bK oG;obtain⟨t,ht⟩:=aG (p v);rw[ht]at fW⊢;clear ht;cases t with
    |true=>go_wp2;refine bodyPost_ret (results_tmp rfl _ _ _) rfl ⟨?_,Hb.out⟩;have h:=fW.out;rw[if_pos (by trivial)]at h;rw[h];rfl
    | false=>
      go_wp2;go_roundw;case rel=>exact⟨k+1,by omega,by go_num,by have h:=fW.out;rw[if_neg zd]at h;exact h,Hb.out⟩
      case measure=>simp[intOf];omega
  . obtain rfl:k=n:=by omega
    go_wp2;refine bodyPost_ret (results_tmp rfl _ _ _) rfl ⟨?_,Hb.out⟩;have h:=oH.out;rw[List.drop_of_length_le (by rw[Hn.out];exact Nat.le_refl _)]at h;rw[h];rfl
theorem ajd (a:Option Addr)(n cap:Nat)(vals:List Value)(gf:Nat)(lb:Array Value)(p:Value->Bool)(w:World)(hn:vals.length=n)(hl:n<=1099511627776)(ha:At w a vals)
 (eg:∀args w,(callFunc gf args).run Tryz.prog w=.ok (.enter gf args) w)
 (hcl:∀v∈vals,∀W,Bw w W->Calls Tryz.prog gf (#[v]++lb) W λe w'=>e=.returned (ag (p v))/\Bw W w'):
 Calls Tryz.prog 179 #[.slice a n cap,.func (.func gf) #[] lb] w λe w'=>e=.returned (ag (vals.any p))/\Bw w w':=by
 have h1:=amo a n cap vals gf lb p w hn hl ha eg hcl;rw[<-aaT p vals 0];generalize idxFrom p vals 0=i at*;have H1:=ai h1;clear h1 hcl eg ha hn;have Hb:Hid (Bw w w):=Below.refl _ _;go_enter Tryz.func179,Tryz.ntmps179;go_wp2_with fail;refine(H1.out).mono ?_;rintro e w1 ⟨rfl,ae⟩;replace Hb:=aB Hb ae;clear ae;go_wp2;exact bodyPost_ret (v:=ag (decide (0<=i))) (by simp[results,Tryz.results179,go_sem]) rfl ⟨rfl,df⟩
theorem amn (a:Option Addr)(n cap:Nat)(vals:List Value)(gf:Nat)(lb:Array Value)(p:Value->Bool)(w:World)(hn:vals.length=n)(hl:n<=1099511627776)(ha:At w a vals)
 (eg:∀args w,(callFunc gf args).run Tryz.prog w=.ok (.enter gf args) w)
 (hcl:∀v∈vals,∀W,Bw w W->Calls Tryz.prog gf (#[v]++lb) W λe w'=>e=.returned (ag (p v))/\Bw W w'):
 Calls Tryz.prog 181 #[.slice a n cap,.func (.func gf) #[] lb] w λe w'=>e=.returned (af (idxFrom p vals 0))/\Bw w w':=by
 obtain⟨Hn,Ha,iI,ny⟩:=dx hn ha hcl eg;clear hn ha hcl eg;have Hb:Hid (Bw w w):=Below.refl _ _;go_enter Tryz.func181,Tryz.ntmps181;go_wp2_with fail;go_loopw[5,8] (λ_ i wr=>∃k:Nat,k<=n/\i=af (k:Int)/\idxFrom p vals 0=idxFrom p (vals.drop k) k/\Bw w wr) (λ_ i _=>n-(intOf i).toNat);case atStart=>exact⟨0,Nat.zero_le _,rfl,rfl,Hb.out⟩
 case round=>
  clear Hb;obtain⟨k,hk,rfl,iB,pb⟩:=hrel;obtain⟨oH,Hb⟩:=aO iB pb;clear iB pb;by_cases hlt:k<n
  . have bG:k<vals.length:=by rw[Hn.out];exact hlt
    obtain⟨b,o,hab,hcs⟩:=(Ha.out.below Hb.out).get (by intro h;rw[h]at bG;simp at bG);obtain⟨v,hv⟩:=aG (vals[k]);have hc0:wr.cell? ⟨b,o+k,none⟩=some v:=by rw[hcs k bG,List.getElem?_eq_getElem bG,hv]
    have bK:=CU n cap k (k:Int) hab hlt rfl;rw[Nat.mul_one]at bK;have hcall:=iI.out v (by rw[<-hv];exact List.getElem_mem bG) wr Hb.out;have hstep:=RI p vals k k bG;rw[hv,<-oH.out]at hstep;obtain⟨fW,kY⟩:=aO hstep hcall;have oG:=ny.out;clear hcs hab hv hstep hcall;go_wp2_with fail;refine kY.out.mono ?_;rintro e w1 ⟨rfl,hb1⟩;replace Hb:=ai (aJ Hb.out hb1);clear hb1 hc0 bK oG;obtain⟨t,ht⟩:=aG (p v);rw[ht]at fW⊢;clear ht;cases t with
    |true=>go_wp2;refine bodyPost_ret (results_tmp rfl _ _ _) rfl ⟨?_,Hb.out⟩;have h:=fW.out;rw[if_pos (by trivial)]at h;rw[h];rfl
    | false=>
      go_wp2;go_roundw;case rel=>exact⟨k+1,by omega,by go_num,by have h:=fW.out;rw[if_neg zd]at h;exact h,Hb.out⟩
      case measure=>simp[intOf];omega
  . obtain rfl:k=n:=by omega
    go_wp2;refine bodyPost_ret (results_tmp rfl _ _ _) rfl ⟨?_,Hb.out⟩;have h:=oH.out;rw[List.drop_of_length_le (by rw[Hn.out];exact Nat.le_refl _)]at h;rw[h];rfl
def Pt (w:World)(v:Value)(cM:List Raw):Prop:=∃a cap,v=.slice a cM.length cap/\At w a (cM.flatMap bI)
theorem Pt.below {w w':World}{v:Value}{cM:List Raw}(h:Pt w v cM)(hb:Bw w w'):Pt w' v cM:=
 let ⟨a,cap,hv,ha⟩:=h;⟨a,cap,hv,ha.below hb⟩
def cC (w:World)(a:Option Addr)(rows:List (List Raw)):Prop:=∃vals:List Value,vals.length=rows.length/\At w a vals/\∀i (h:i<rows.length) (h':i<vals.length),Pt w vals[i] rows[i]
theorem cC.below {w w':World}{a:Option Addr}{rows:List (List Raw)}(h:cC w a rows)(hb:Bw w w'):cC w' a rows:=
 let ⟨vals,hl,ha,hp⟩:=h;⟨vals,hl,ha.below hb,λi h1 h2=>(hp i h1 h2).below hb⟩
theorem kL {w w':World}{a:Option Addr}{rows:List (List Raw)}(h:Hid (cC w a rows))(k:Bw w w'):Hid (cC w' a rows):=h.out.below k
theorem cC.row {w:World}{a:Option Addr}{rows:List (List Raw)}(h:cC w a rows)(k:Nat)(hk:k<rows.length):
 ∃b o a' cap',a=some ⟨b,o,none⟩/\w.cell? ⟨b,o+k,none⟩=some (.slice a' rows[k].length cap')/\At w a' (rows[k].flatMap bI):=by
 obtain⟨vals,hl,ha,hp⟩:=h;have hk2:k<vals.length:=by rw[hl];exact hk
 obtain⟨b,o,hab,hcs⟩:=ha.get (by intro h0;rw[h0]at hk2;simp at hk2);obtain⟨a',cap',hv,hat⟩:=hp k hk hk2;exact⟨b,o,a',cap',hab,by rw[hcs k hk2,List.getElem?_eq_getElem hk2,hv],hat⟩
def xX :Value->Int
 | .slice _ n _=>n
 |_=>0
def AO (N:Int)(v:Value):Bool:=decide (xX v≠N)
theorem VV {w:World}{vals:List Value}{rows:List (List Raw)}(N:Int)(hl:vals.length=rows.length)(hp:∀i (h:i<rows.length) (h':i<vals.length),Pt w vals[i] rows[i]):
 vals.any (AO N)=rows.any λr=>decide ((r.length:Int)≠N):=by
 induction vals generalizing rows with
 |nil=>have:rows=[]:=List.length_eq_zero_iff.1 hl.symm;subst this;rfl
 | cons v vs ih=>
   match rows,hl with
   |r::rs,hl=>have h0:=hp 0 zm zm;obtain⟨a,cap,hv,_⟩:=h0;have hv':v=.slice a r.length cap:=hv;have:=ih (rows:=rs) (by simpa using hl) (λi h h'=>hp (i+1) zi zi);rw[List.any_cons,List.any_cons,this];subst hv';rfl
theorem arD (bn:Nat)(N:Int)(a:Option Addr)(n cap:Nat)(w:World)(hN:w.cell? ⟨bn,0,none⟩=some (af N)):
 Calls Tryz.prog 139 #[.slice a n cap,.pointer (some ⟨bn,0,none⟩)] w λe w'=>e=.returned (ag (AO N (.slice a n cap)))/\Bw w w':=by
 have Hb:Hid (Bw w w):=Below.refl _ _;go_enter Tryz.func139,Tryz.ntmps139;go_wp2;refine bodyPost_ret (results_tmp rfl _ _ _) rfl ⟨?_,Hb.out⟩;simp only[AO,xX];by_cases h:(n:Int)=N<;>simp[h]
def jw (rows:List (List Raw)):Int:=
 let n:Int:=rows.length-1
 if n<1\/8<n\/(rows.any λr=>decide ((r.length:Int)≠n))then 0 else n
theorem TB (a:Option Addr)(L cap:Nat)(rows:List (List Raw))(w:World)(hL:rows.length=L)(hl:L<=1099511627776)(ha:cC w a rows):
 Calls Tryz.prog 93 #[.slice a L cap] w λe w'=>e=.returned (af (jw rows))/\Bw w w':=by
 obtain⟨vals,hvl,hat,hp⟩:=ha;have zV:=λN=>VV (w:=w) N hvl hp;have hcl:∀(bn:Nat) (W:World),W.cell? ⟨bn,0,none⟩=some (af ((L:Int)-1))->At W a vals->Calls Tryz.prog 140 #[.slice a L cap,.func (.func 139) #[] #[.pointer (some ⟨bn,0,none⟩)]] W λe w'=>e=.returned (ag (rows.any λr=>decide ((r.length:Int)≠(L:Int)-1)))/\Bw W w':=by intro bn W hc hA;rw[<-zV];refine aje a L cap vals 139 #[.pointer (some ⟨bn,0,none⟩)] (AO ((L:Int)-1)) W (by rw[hvl,hL]) hl hA (enters_of Tryz.func139 zk rfl) (λv hv W' hb=>?_);obtain⟨i,hi,rfl⟩:=List.mem_iff_getElem.1 hv;obtain⟨a',cap',e,_⟩:=hp i (by rw[<-hvl];exact hi) hi;rw[e];exact arD bn _ a' _ cap' W' (cell_later hb hc)
 have hv:jw rows=if(L:Int)-1<1\/8<(L:Int)-1\/(rows.any λr=>decide ((r.length:Int)≠(L:Int)-1))=true then 0 else(L:Int)-1:=by unfold jw;rw[hL]
 obtain⟨T,hT⟩:=aG (rows.any λr=>decide ((r.length:Int)≠(L:Int)-1));rw[hT]at hv;simp only[hT]at hcl;obtain⟨iI,eH,Hv⟩:=cL hcl hat hv;obtain⟨V,hV⟩:=aG (jw rows);rw[hV]at Hv⊢;clear hcl hat hv zV hvl hp hL hT hV;obtain⟨W,cg,Hb,Hn⟩:=fJ w 3 [af ((L:Int)-1)];have n0:=Hn.out.c1;go_enter Tryz.func93,Tryz.ntmps93;by_cases h1:(L:Int)-1<1
 . have hv:=Hv.out;rw[if_pos (.inl h1)]at hv;subst hv;go_wp2;exact bodyPost_ret (v:=af 0) (by simp[results,Tryz.results93,go_sem]) rfl ⟨rfl,df⟩
 . by_cases h2:8<(L:Int)-1
   . have hv:=Hv.out;rw[if_pos (.inr (.inl h2))]at hv;subst hv;go_wp2;exact bodyPost_ret (v:=af 0) (by simp[results,Tryz.results93,go_sem]) rfl ⟨rfl,df⟩
   . have kY:=ai (iI.out w.heap.size W n0 (eH.out.below Hb.out));go_wp2_with fail;refine(kY.out).mono ?_;rintro e w1 ⟨rfl,ae⟩;clear n0;replace Hn:=kB Hn ae;have n0:=Hn.out.c1;replace Hb:=aB Hb ae;clear ae;cases T with
     |true=>have hv:=Hv.out;rw[if_pos (.inr (.inr rfl))]at hv;subst hv;go_wp2;exact bodyPost_ret (v:=af 0) (by simp[results,Tryz.results93,go_sem]) rfl ⟨rfl,df⟩
     |false=>have hv:=Hv.out;rw[if_neg (by rintro(h|h|h);omega;omega;cases h)]at hv;subst hv;go_wp2;exact bodyPost_ret (v:=af ((L:Int)-1)) (by simp[results,Tryz.results93,go_sem]) rfl ⟨rfl,df⟩
theorem anK (bn:Nat)(a0:Option Addr)(N c0:Nat)(a:Option Addr)(n cap:Nat)(w:World)(hN:w.cell? ⟨bn,0,none⟩=some (.slice a0 N c0)):
 Calls Tryz.prog 180 #[.slice a n cap,.pointer (some ⟨bn,0,none⟩)] w λe w'=>e=.returned (ag (AO (N:Int) (.slice a n cap)))/\Bw w w':=by
 have Hb:Hid (Bw w w):=Below.refl _ _;go_enter Tryz.func180,Tryz.ntmps180;go_wp2;refine bodyPost_ret (results_tmp rfl _ _ _) rfl ⟨?_,Hb.out⟩;simp only[AO,xX];by_cases h:(n:Int)=(N:Int)<;>simp[h]
def vZ (rows:List (List Raw)):Int:=if 8<rows.length\/(rows.any λr=>decide ((r.length:Int)≠(rows.length:Int)))then 1 else 0
theorem Sc (a:Option Addr)(L cap:Nat)(rows:List (List Raw))(w:World)(hL:rows.length=L)(hl:L<=1099511627776)(ha:cC w a rows):
 Calls Tryz.prog 141 #[.slice a L cap] w λe w'=>e=.returned (af (vZ rows))/\Bw w w':=by
 obtain⟨vals,hvl,hat,hp⟩:=ha;have zV:=λN=>VV (w:=w) N hvl hp;have hcl:∀(bn:Nat) (W:World),W.cell? ⟨bn,0,none⟩=some (.slice a L cap)->At W a vals->Calls Tryz.prog 179 #[.slice a L cap,.func (.func 180) #[] #[.pointer (some ⟨bn,0,none⟩)]] W λe w'=>e=.returned (ag (rows.any λr=>decide ((r.length:Int)≠(L:Int))))/\Bw W w':=by intro bn W hc hA;rw[<-zV];refine ajd a L cap vals 180 #[.pointer (some ⟨bn,0,none⟩)] (AO (L:Int)) W (by rw[hvl,hL]) hl hA (enters_of Tryz.func180 zk rfl) (λv hv W' hb=>?_);obtain⟨i,hi,rfl⟩:=List.mem_iff_getElem.1 hv;obtain⟨a',cap',e,_⟩:=hp i (by rw[<-hvl];exact hi) hi;rw[e];exact anK bn a L cap a' _ cap' W' (cell_later hb hc)
 have hv:vZ rows=if 8<L\/(rows.any λr=>decide ((r.length:Int)≠(L:Int)))=true then 1 else 0:=by unfold vZ;rw[hL]
 obtain⟨T,hT⟩:=aG (rows.any λr=>decide ((r.length:Int)≠(L:Int)));rw[hT]at hv;simp only[hT]at hcl;obtain⟨iI,eH,Hv⟩:=cL hcl hat hv;obtain⟨V,hV⟩:=aG (vZ rows);rw[hV]at Hv⊢;clear hcl hat hv zV hvl hp hL hT hV;obtain⟨W,cg,Hb,Hn⟩:=fJ w 124 [.slice a L cap];have n0:=Hn.out.c1;go_enter Tryz.func141,Tryz.ntmps141;by_cases h1:8<L
 . have hv:=Hv.out;rw[if_pos (.inl h1)]at hv;subst hv;have h2:(8:Int)<(L:Int):=by omega
   go_wp2;exact bodyPost_ret (v:=af 1) (by simp[results,Tryz.results141,go_sem]) rfl ⟨rfl,df⟩
 . have h2:¬(8:Int)<(L:Int):=by omega
   have kY:=ai (iI.out w.heap.size W n0 (eH.out.below Hb.out));go_wp2_with fail;refine(kY.out).mono ?_;rintro e w1 ⟨rfl,ae⟩;clear n0;replace Hn:=kB Hn ae;have n0:=Hn.out.c1;replace Hb:=aB Hb ae;clear ae;cases T with
   |true=>have hv:=Hv.out;rw[if_pos (.inr rfl)]at hv;subst hv;go_wp2;exact bodyPost_ret (v:=af 1) (by simp[results,Tryz.results141,go_sem]) rfl ⟨rfl,df⟩
   |false=>have hv:=Hv.out;rw[if_neg (by rintro(h|h);omega;cases h)]at hv;subst hv;go_wp2;exact bodyPost_ret (v:=af 0) (by simp[results,Tryz.results141,go_sem]) rfl ⟨rfl,df⟩
theorem IH {rows:List (List Raw)}{n:Int}(h:jw rows=n)(h0:n≠0):1<=n/\n<=8/\(rows.length:Int)=n+1/\∀r∈rows,(r.length:Int)=n:=by
 unfold jw at h;dsimp only at h;split at h
 . exact absurd h.symm h0
 . rename_i hc
   simp only[not_or,Bool.not_eq_true,List.any_eq_false,decide_eq_true_eq,Decidable.not_not]at hc;obtain⟨h1,h2,h3⟩:=hc;refine⟨by omega,by omega,by omega,λr hr=>?_⟩;have:=h3 r hr;omega
theorem DC {rows:List (List Raw)}{n:Nat}(h1:rows.length=n+1)(h2:∀r∈rows,r.length=n)(h3:1<=n)(h8:n<=8):jw rows=n:=by
 unfold jw;dsimp only;rw[if_neg]
 . omega
 . rintro(h|h|h)
   . omega
   . omega
   . rw[List.any_eq_true]at h;obtain⟨r,hr,h⟩:=h;have:=h2 r hr;simp[h1,this]at h
end Go.Proofs.YtoopepmmepmfnaaGreatDoor
namespace Go.Proofs.YtoopepmmepmfnaaGreatDoor
def xf (g m:Dyadic)(ds:Nat->Dyadic)(bx:List Pr):Option Nat:=if bA (g-m)<0 then some 0 else xZ (λk=>decide (bA (tV g ds (ow bx k) bx.length-m)<0)) 1
def LU (k:Nat):Int:=2^(k+1)-1
end Go.Proofs.YtoopepmmepmfnaaGreatDoor
namespace Go.Proofs.YtoopepmmepmfnaaGreatDoor
open Go.RowKit
attribute [local go_sem ↓] Go.wp_at_zero Go.wp_at_succ
def Bv (w:World)(x:Value)(n v:Nat):Prop:=v<2^n/\((x=.slice none 0 0/\n=0)\/∃b o cap,x=.slice (some ⟨b,o,none⟩) n cap/\n<=cap/\∀j,j<n->w.cell? ⟨b,o+j,none⟩=some (.int .u8 (bd v j:Int)))
theorem Bv.below {w w':World}{x:Value}{n v:Nat}(h:Bv w x n v)(hb:Bw w w'):Bv w' x n v:=by
 refine⟨h.1,?_⟩;rcases h.2 with h|⟨b,o,cap,e,h1,hc⟩
 . exact .inl h
 . exact .inr ⟨b,o,cap,e,h1,λj hj=>cell_later hb (hc j hj)⟩
theorem Bv.axb {w:World}{base:Nat}{e:TypeId}{x:Value}{n v:Nat}(h:w.ownsRow base e 1 x n (cZ n (bd v)))(hx:v<2^n):Bv w x n v:=by
 refine⟨hx,?_⟩;rcases h.2 with⟨rfl,rfl⟩ |⟨g,cap,cur,rfl,hb,hg,h2,h3,h4,h5⟩
 . exact .inl ⟨rfl,rfl⟩
 . refine .inr ⟨g,0,cap,rfl,h2,λj hj=>?_⟩;have:=h.cells (g:=g) rfl j _ (mC n (bd v) j hj);have e2:((⟨g,0,none⟩:Addr).add j)=⟨g,j,none⟩:=by simp[Addr.add];omega
   rw[Nat.zero_add,<-e2];exact this
theorem Bv.aw2 {w:World}{b:Nat}{t:TypeId}{n v:Nat}(h:ar w b t (cZ n (bd v)))(hv:v<2^n):Bv w (.slice (some ⟨b,0,none⟩) n n) n v:=
 ⟨hv,.inr ⟨b,0,n,rfl,Nat.le_refl _,λj hj=>by rw[Nat.zero_add,h.cell,mC _ _ _ hj]⟩⟩
theorem acn (b o n cap v:Nat)(w:World)(hm:n<=1099511627776)(hcap:n<=cap)(hc:∀j,j<n->w.cell? ⟨b,o+j,none⟩=some (.int .u8 (bd v j:Int)))(hv:v<2^n):
 Calls Tryz.prog 168 #[.slice (some ⟨b,o,none⟩) n cap] w λe w'=>e=.returned (.slice (some ⟨b,o,none⟩) (bN v) cap)/\w=w':=by
 have Hc:=ai hc;clear hc;have Hv:=ai hv;clear hv;go_enter Tryz.func168,Tryz.ntmps168;go_wp2_with fail;go_loop [3] (λx=>∃k:Nat,k<=n/\v<2^k/\x=af (k:Int)) (λx=>(intOf x).toNat)
 case atStart=>exact⟨n,Nat.le_refl _,Hv.out,rfl⟩
 case round=>
  obtain⟨k,hk,hvk,rfl⟩:=hrel;have oL:=ai hvk;clear hvk;by_cases h0:0<k
  . have hcell:w.cell? ⟨b,o+(k-1),none⟩=some (.int .u8 (bd v (k-1):Int)):=Hc.out _ zo;have bK:=xV n cap (k-1) ((k:Int)-1) (rfl:(some ⟨b,o,none⟩:Option Addr)=_) zo zo;rw[Nat.mul_one]at bK;by_cases hd:bd v (k-1)=0
    . have hd':((bd v (k-1):Int)==0)=true:=by simp[hd]
      have Hd:=ai hd;clear hd;go_wp2;refine⟨⟨k-1,by omega,?_,by go_num⟩,by simp[intOf];omega⟩;refine aiD ?_ Hd.out;rw[show k-1+1=k by omega];exact oL.out
    . have hd':((bd v (k-1):Int)==0)=false:=by simp[hd]
      have Hd:=ai hd;clear hd;go_wp2;go_ret;have e:bN v=k:=by have:=aik (v:=v) (k:=k-1) (by rw[show k-1+1=k by omega];exact oL.out) (aiC Hd.out);omega
      rw[e];exact⟨rfl,rfl⟩
  . obtain rfl:k=0:=by omega
    go_wp2;go_ret;have e:bN v=0:=by have:=oL.out;simp at this;subst this;rfl
    rw[e];exact⟨rfl,rfl⟩
theorem aco (w:World):
 Calls Tryz.prog 168 #[.slice none 0 0] w λe w'=>e=.returned (.slice none 0 0)/\w=w':=by
 go_enter Tryz.func168,Tryz.ntmps168;go_wp2_with fail;refine wp_loop_rounds 1 ?_;rw[rounds_succ];go_wp2;go_ret;exact⟨rfl,rfl⟩
def EP (x:Value)(lo:Nat):Prop:=∀b o n c,x=.slice (some ⟨b,o,none⟩) n c->lo<=b
theorem SQ (x:Value)(n v:Nat)(w:World)(hm:n<=1099511627776)(hx:Bv w x n v):
 Calls Tryz.prog 168 #[x] w λe w'=>(∃y,e=.returned y/\Bv w y (bN v) v/\∀lo,EP x lo->EP y lo)/\w=w':=by
 have hl:=ia hx.1;rcases hx.2 with⟨rfl,rfl⟩ |⟨b,o,cap,rfl,h1,hc⟩
 . refine(aco w).mono ?_;rintro e w' ⟨rfl,rfl⟩;exact⟨⟨_,rfl,⟨rF v,.inl ⟨rfl,by omega⟩⟩,λ_ h=>h⟩,rfl⟩
 . refine(acn b o n cap v w hm h1 hc hx.1).mono ?_;rintro e w' ⟨rfl,rfl⟩;exact⟨⟨_,rfl,⟨rF v,.inr ⟨b,o,cap,rfl,by omega,λj hj=>hc j zo⟩⟩,λlo h b' o' n' c' e=>by cases e;exact h _ _ _ _ rfl⟩,rfl⟩
theorem ap2 (b o n cap v:Nat)(w:World)(hm:n<=1099511627776)(hcap:n<=cap)(hc:∀j,j<n->w.cell? ⟨b,o+j,none⟩=some (.int .u8 (bd v j:Int)))(hv:v<2^n):
 Calls Tryz.prog 119 #[.slice (some ⟨b,o,none⟩) n cap] w λe w'=>e=.returned (ah (nt v))/\Bw w w':=by
 have hle:=ia hv;have hcut:=acn b o n cap v w hm hcap hc hv;have hvl:=rF v;have ve:Hid ((List.range ((bN v+7)/8)).map (λj=>UInt8.ofNat (v/256^((bN v+7)/8-1-j)%256))=nt v):=Ss _ _ (EW v).1 (EW v).2;generalize hL:bN v=L at*;obtain⟨nb,hnb⟩:=aG ((L+7)/8);have hmk:=rX (((L:Int)+7)/8) nb zo zo;have QT:((L:Int)+7)/8=(nb:Int):=by omega
 rw[QT]at hmk;rw[hnb]at ve;obtain⟨ae5,Hc,Hv,lK,HL⟩:=gJ hcut hc hv hvl hL;clear hcut hc hv hvl hL;go_enter Tryz.func119,Tryz.ntmps119;go_wp2_with fail;refine ae5.out.mono ?_;rintro e w' ⟨rfl,rfl⟩;go_wp2_with fail;go_loopw[4] (λi wr=>∃k:Nat,k<=L/\i=af (k:Int)/\ar wr w.heap.size 5 (cZ nb (λj=>v%2^k/256^(nb-1-j)%256))/\Bw w wr) (λi _=>L-(intOf i).toNat);case atStart=>
  refine⟨0,Nat.zero_le _,rfl,?_,zl⟩;have e:cZ nb (λj=>v%2^0/256^(nb-1-j)%256)=cZ nb λ_=>0:=oz λj hj=>by simp[Nat.mod_one]
  rw[e];exact ar.new _ _ _
 case round=>
  obtain⟨k,hk,rfl,hB,hb⟩:=hrel;by_cases hlt:k<L
  . have hq:k/8<nb:=by omega
    obtain⟨Z,hZ⟩:=aG (bd v k);have hZ1:Z<=1:=by rw[<-hZ];exact uj v k
    have lu:wr.cell? ⟨b,o+k,none⟩=some (.int .u8 (Z:Int)):=by rw[<-hZ];exact cell_later hb (Hc.out _ zo)
    obtain⟨A,hA⟩:=aG (v%2^k/256^(k/8)%256);have hcell:wr.cell? ⟨w.heap.size,nb-1-k/8,none⟩=some (.int .u8 (A:Int)):=by rw[hB.cell,mC _ _ _ zo,show nb-1-(nb-1-k/8)=k/8 by omega,hA]
    have hfree:wr.frozen? ⟨w.heap.size,nb-1-k/8,none⟩=false:=hB.free _;obtain⟨hb1,hb2⟩:=aiH v k;rw[hA,hZ]at hb1 hb2;have cm:=hB.set (nb-1-k/8) (.int .u8 ((A+Z*2^(k%8):Nat):Int));have hb3:=hb.setCell (p:=⟨w.heap.size,nb-1-k/8,none⟩) (Nat.le_refl _) (.int .u8 ((A+Z*2^(k%8):Nat):Int))
    rw[Bh,oz (g:=λj=>v%2^(k+1)/256^(nb-1-j)%256) λj hj=>by
     by_cases nR:j=nb-1-k/8
     . subst nR;rw[if_pos rfl,show nb-1-(nb-1-k/8)=k/8 by omega,hb1]
     . rw[if_neg nR,aiI v k _ zo]]at cm
    obtain⟨ft,Hb⟩:=aO cm hb3;clear hB hb cm hb3 hb1 hA hZ;have He:Hid ((((A:Int)+(Z:Int) *2^(k%8))%256)=((A+Z*2^(k%8):Nat):Int)):=by
     show _=_
     have:((Z:Int) *2^(k%8))=((Z*2^(k%8):Nat):Int):=by simp
     rw[this];omega
    clear hb2;go_wp2;go_region
    go_wp2;go_roundw;case rel=>rw[He.out];exact⟨k+1,by omega,by go_num,ft.out,Hb.out.drew⟩
    case measure=>simp[intOf];omega
  . obtain rfl:k=L:=by omega
    rw[Nat.mod_eq_of_lt lK.out]at hB;have vM:=wB hB nb;rw[ve.out]at vM;have Hb:=ai hb;clear hb hB;go_wp2;go_ret;exact⟨rfl,Hb.out⟩
theorem ap3 (w:World):
 Calls Tryz.prog 119 #[.slice none 0 0] w λe w'=>e=.returned (.string (bs []))/\Bw w w':=by
 have hmk:=rX 0 0 rfl zo;have vM:=wB (ar.new w 5 (cZ 0 λ_=>0)) 0;go_enter Tryz.func119,Tryz.ntmps119;go_wp2_with fail;refine(aco w).mono ?_;rintro e w' ⟨rfl,rfl⟩;go_wp2_with fail;refine wp_loop_rounds 1 ?_;rw[rounds_succ];go_wp2;go_ret;exact⟨rfl,zl⟩
theorem wy (x:Value)(n v:Nat)(w:World)(hm:n<=1099511627776)(hx:Bv w x n v):
 Calls Tryz.prog 119 #[x] w λe w'=>e=.returned (ah (nt v))/\Bw w w':=by
 rcases hx.2 with⟨rfl,rfl⟩ |⟨b,o,cap,rfl,h1,hc⟩
 . have h0:=hx.1;obtain rfl:v=0:=by simpa using h0
   exact ap3 w
 . exact ap2 b o n cap v w hm h1 hc hx.1
theorem adp (n:Nat)(f:Nat->Nat):cZ (n+1) f=cZ n f++[.int .u8 (f n:Int)]:=by unfold cZ;rw[List.range_succ,List.map_append];rfl
theorem apO (N:Nat)(w:World)(hN:N<WW):
 Calls Tryz.prog 72 #[.int .u64 (N:Int)] w λe w'=>e=.returned (ah (nt N))/\Bw w w':=by
 obtain⟨i0,hi,hz0,hz1,hz2⟩:=info_parts Tryz.aw7;have hNb:bN N<=64:=ia (by rw[lM]at hN;exact hN);have hW:=kd;go_enter Tryz.func72,Tryz.ntmps72;go_wp2_with fail;go_loopw[0,3] (λu v wr=>∃k:Nat,k<=bN N/\u=.int .u64 ((N/2^k:Nat):Int)/\wr.ownsRow w.heap.size 5 1 v k (cZ k (bd N))/\Bw w wr) (λu _ _=>(intOf u).toNat);case atStart=>exact⟨0,Nat.zero_le _,by simp,World.ownsRow_nil _ _ _ _,Below.refl _ _⟩
 case round=>
  obtain⟨k,hk,rfl,hown,hb⟩:=hrel;obtain⟨M,hM⟩:=aG (N/2^k);have Fw:M<18446744073709551616:=by have:=Nat.div_le_self N (2^k);omega
  have HM:=ai hM;rw[hM];have Cy:N/2^(k+1)=M/2:=by rw[Nat.pow_succ,<-Nat.div_div_eq_div_mul,hM]
  have lW:bd N k=M%2:=by unfold bd;rw[hM]
  obtain⟨yC,jy⟩:=aO Cy lW;clear hM Cy lW hW hN;by_cases h0:0<M
  . have Kp:(0:Int)<(M:Int):=by omega
    have hkl:k<bN N:=by
     rcases Nat.lt_or_ge k (bN N)with h|h
     . exact h
     . have h1:N<2^k:=Nat.lt_of_lt_of_le (rF N) (Nat.pow_le_pow_right zd h);have:=HM.out;rw[Nat.div_eq_of_lt h1]at this;omega
    have hs0:=hb.size;have pN:=ai hown;clear hown;go_wp2_with (first| (at_builtin;refine wpList_append_own _ rfl _ _ 94 rfl w.heap.size 5 i0 (.int .u8 0) 1 1 Tryz.underlying94 hi hz0 hz1 hz2 rfl zd _ _ _ rfl (pN.out.alloc _) ⟨wr.heap.size,0,none⟩ 1 1 [.int .u8 ((M:Int)%2)] rfl rfl (cell_one_new _ _ _) zy zx zo zi ?_;intro v' w1 ho hg _;obtain⟨Ho,Hg⟩:=aO ho hg;clear ho hg));go_roundw;case rel=>
     refine⟨k+1,by omega,?_,?_,?_⟩
     . rw[yC.out];go_num
     . rw[adp,jy.out];have e:((M%2:Nat):Int)=(M:Int)%2:=by omega
       rw[e];exact Ho.out
     . exact(hb.alloc hs0 _).grown Hg.out zi (λj e=>dz pN.out j e)
    case measure=>simp[intOf];omega
  . obtain rfl:M=0:=by omega
    have Zz:N<2^k:=by have:=HM.out;exact(Nat.div_eq_zero_iff_lt (Nat.pow_pos zd)).1 this
    obtain⟨MO,Hb⟩:=aO (Bv.axb hown Zz) hb;clear hown Zz hb;go_wp2_with fail;refine(wy u3 k N wr zo MO.out).mono ?_;rintro e w2 ⟨rfl,hb2⟩;have cw:=ai hb2;clear hb2;go_wp2;go_ret;exact⟨rfl,aJ Hb.out cw.out⟩
theorem OC (a:Nat)(ha:a<256):bits .and .u8 (a:Int) 1=((a%2:Nat):Int):=by
 have h1:(BitVec.ofInt 8 (a:Int)).toNat=a:=by rw[BitVec.ofInt_natCast,BitVec.toNat_ofNat];exact Nat.mod_eq_of_lt zo
 show IntKind.u8.wrap ((BitVec.ofInt 8 (a:Int)&&&BitVec.ofInt 8 1).toNat:Int)=_
 rw[BitVec.toNat_and,h1,show(BitVec.ofInt 8 1).toNat=1 from rfl,Nat.and_one_is_mod,IntKind.wrap_u8];omega
theorem rc (l:List UInt8)(w:World)(hl:l.length<=68719476736):
 Calls Tryz.prog 131 #[ah l] w λe w'=>(∃y,e=.returned y/\Bv w' y (bN (nv l)) (nv l))/\Bw w w':=by
 obtain⟨i0,hi,hz0,hz1,hz2⟩:=info_parts Tryz.aw7;have hsz:(bs l).size=l.length:=oP l;go_enter Tryz.func131,Tryz.ntmps131;go_wp2_with fail;go_loopw[3,4,5] (λv i _ wr=>∃m:Nat,m<=l.length/\i=af ((l.length:Int)-1-(m:Int))/\wr.ownsRow w.heap.size 5 1 v (8*m) (cZ (8*m) (bd (nv l)))/\Bw w wr) (λ_ i _ _=>(intOf i+1).toNat);case atStart=>exact⟨0,Nat.zero_le _,by go_num,World.ownsRow_nil _ _ _ _,Below.refl _ _⟩
 case round=>
  obtain⟨m,hm,rfl,hown,hb⟩:=hrel;obtain⟨pN,Hb⟩:=aO hown hb;clear hown hb;by_cases hlt:m<l.length
  . have hge:(m:Int)<=(l.length:Int)-1:=by omega
    have iB:=Aw l ((l.length:Int)-1-(m:Int)) (l.length-1-m) zo zo;have ae2:Hid (∀k,k<8->l[l.length-1-m].toNat/2^k%2=bd (nv l) (8*m+k)):=λk hk=>aot l m k hlt hk;have hC:=(l[l.length-1-m]'zo).toNat_lt;generalize hCe:l[l.length-1-m].toNat=C at*;clear hCe;go_wp2_with fail;go_loopw[3,5] (λv j wr=>∃k:Nat,k<=8/\j=af (k:Int)/\wr.ownsRow w.heap.size 5 1 v (8*m+k) (cZ (8*m+k) (bd (nv l)))/\Bw w wr) (λ_ j _=>8-(intOf j).toNat);case atStart=>exact⟨0,Nat.zero_le _,rfl,pN.out,Hb.out⟩
    case round=>
     clear pN Hb;obtain⟨k,hk,rfl,hown,hb⟩:=hrel;obtain⟨pN,Hb⟩:=aO hown hb;have hs0:=hb.size;clear hown hb;by_cases hk8:k<8
     . obtain ⟨Z,hZ⟩:=aG (C/2^k%2);have hbk:=ae2.out k hk8;rw[hZ]at hbk;have Eg:=ai hbk;clear hbk;have hand:bits .and .u8 ((C:Int)/2^k) 1=(Z:Int):=by
        have e:(C:Int)/2^k=((C/2^k:Nat):Int):=by simp
        have:=Nat.div_le_self C (2^k);rw[e,OC _ zo,hZ]
       clear hZ;go_wp2_with (first| (at_builtin;refine wpList_append_own _ rfl _ _ 94 rfl w.heap.size 5 i0 (.int .u8 0) 1 1 Tryz.underlying94 hi hz0 hz1 hz2 rfl zd _ _ _ rfl (pN.out.alloc _) ⟨wr.heap.size,0,none⟩ 1 1 [.int .u8 (Z:Int)] rfl rfl (cell_one_new _ _ _) zy zx zo zi ?_;intro v' w1 ho hg _;obtain⟨Ho,Hg⟩:=aO ho hg;clear ho hg));go_roundw;case rel=>
        refine⟨k+1,by omega,?_,?_,?_⟩
        . go_num
        . rw[<-Nat.add_assoc,adp,<-Eg.out];exact Ho.out
        . exact(Hb.out.alloc hs0 _).grown Hg.out zi (λj e=>dz pN.out j e)
       case measure=>simp[intOf];omega
     . obtain rfl:k=8:=by omega
       go_wp2;go_roundw;case rel=>exact⟨m+1,by omega,by go_num,pN.out,Hb.out⟩
       case measure=>simp[intOf];omega
  . obtain rfl:m=l.length:=by omega
    have MO:=ai (Bv.axb pN.out (pD l));clear hlt;go_wp2_with fail;refine(SQ u3 (8*l.length) (nv l) wr zo MO.out).mono ?_;rintro e w2 ⟨⟨y,rfl,hy,_⟩,rfl⟩;have Hy:=ai hy;clear hy;go_wp2;go_ret;exact⟨⟨_,rfl,Hy.out⟩,Hb.out⟩
theorem Ds (x:Value)(n v i:Nat)(w:World)(hx:Bv w x n v)(hi:i<=1099511627776)(hn:n<=1099511627776):
 Calls Tryz.prog 175 #[x,af (i:Int)] w λe w'=>e=.returned (.int .u8 (bd v i:Int))/\w=w':=by
 obtain⟨hv,h⟩:=hx;by_cases hlt:i<n
 . rcases h with⟨rfl,h0⟩ |⟨b,o,cap,rfl,h1,hc⟩
   . omega
   . have hcell:=hc i hlt;have bK:=xV n cap i (i:Int) (rfl:(some ⟨b,o,none⟩:Option Addr)=_) hlt rfl;rw[Nat.mul_one]at bK;clear hc hv;go_enter Tryz.func175,Tryz.ntmps175;go_wp2;go_ret;exact⟨rfl,rfl⟩
 . have h0:bd v i=0:=aid hv zo;have H0:=ai h0;clear h0 hv;rcases h with⟨rfl,h0⟩ |⟨b,o,cap,rfl,h1,hc⟩
   . subst h0;go_enter Tryz.func175,Tryz.ntmps175;go_wp2;go_ret;exact⟨by rw[H0.out];rfl,rfl⟩
   . clear hc;go_enter Tryz.func175,Tryz.ntmps175;go_wp2;go_ret;exact⟨by rw[H0.out];rfl,rfl⟩
theorem Bv.len {w:World}{x:Value}{n v:Nat}(h:Bv w x n v):∃a cap,x=.slice a n cap:=by
 rcases h.2 with⟨rfl,rfl⟩ |⟨b,o,cap,rfl,_⟩
 . exact⟨_,_,rfl⟩
 . exact⟨_,_,rfl⟩
theorem acm (x y:Value)(n m v u:Nat)(w:World)(hx:Bv w x n v)(hy:Bv w y m u)(hn:n<=1099511627776)(hm:m<=1099511627776):
 Calls Tryz.prog 176 #[x,y] w λe w'=>e=.returned (af (dI v u))/\w=w':=by
 obtain⟨a,cap,pj⟩:=hx.len;obtain⟨a',cap',GP⟩:=hy.len;have iZ:=λi (hi:i<=1099511627776)=>Ds x n v i w hx hi hn;have hby:=λi (hi:i<=1099511627776)=>Ds y m u i w hy hi hm;have hv:=hx.1;have hu:=hy.1;subst pj;subst GP;obtain⟨sD,Eh,Hv,Hu⟩:=dx iZ hby hv hu;clear iZ hby hv hu hx hy;obtain⟨M,hM⟩:=aG (max n m);have hMI:max (n:Int) (m:Int)=(M:Int):=by omega
 have bX:Hid (v/2^M=u/2^M):=by
  show _=_
  rw[Nat.div_eq_of_lt (Nat.lt_of_lt_of_le Hv.out (Nat.pow_le_pow_right zd zo)),Nat.div_eq_of_lt (Nat.lt_of_lt_of_le Hu.out (Nat.pow_le_pow_right zd zo))]
 have Fw:M<=1099511627776:=by omega
 clear hM;go_enter Tryz.func176,Tryz.ntmps176;go_wp2_with fail;go_loop [5] (λi=>∃k:Nat,k<=M/\v/2^k=u/2^k/\i=af ((k:Int)-1)) (λi=>(intOf i+1).toNat)
 case atStart=>exact⟨M,Nat.le_refl _,bX.out,rfl⟩
 case round=>
  obtain⟨k,hk,hvk,rfl⟩:=hrel;have oL:=ai hvk;clear hvk;by_cases h0:0<k
  . obtain⟨j,rfl⟩:∃j,k=j+1:=⟨k-1,by omega⟩;have iZ:=sD.out j zo;have hby:=Eh.out j zo;obtain⟨uf,Hgt,Jn⟩:=cL (λh=>Wb (v:=v) (u:=u) oL.out h) (λh=>Wb (v:=u) (u:=v) oL.out.symm h) (λh=>aic (v:=v) (u:=u) oL.out h);have hp1:=uj v j;have hq1:=uj u j;generalize bd v j=p at*;generalize bd u j=q at*;obtain⟨H1,H2⟩:=aO iZ hby;clear iZ hby;have hj:((j+1:Nat):Int)-1=(j:Int):=by omega
    rw[hj];clear hj h0;go_wp2_with fail;refine H1.out.mono ?_;rintro e w' ⟨rfl,rfl⟩;go_wp2_with fail;refine H2.out.mono ?_;rintro e w' ⟨rfl,rfl⟩;by_cases hpq:p<q
    . have al5:(p:Int)<(q:Int):=by omega
      go_wp2;go_ret;have:=uf.out hpq;exact⟨by unfold dI;rw[if_pos this];rfl,rfl⟩
    . have al5:¬(p:Int)<(q:Int):=by omega
      go_wp2_with fail;refine H1.out.mono ?_;rintro e w' ⟨rfl,rfl⟩;go_wp2_with fail;refine H2.out.mono ?_;rintro e w' ⟨rfl,rfl⟩;by_cases hqp:q<p
      . have al9:(q:Int)<(p:Int):=by omega
        go_wp2;go_ret;have:=Hgt.out hqp;exact⟨by unfold dI;rw[if_neg zo,if_pos this];rfl,rfl⟩
      . have al9:¬(q:Int)<(p:Int):=by omega
        go_wp2;refine⟨⟨j,by omega,Jn.out zo,by go_num⟩,by simp[intOf]⟩
  . obtain rfl:k=0:=by omega
    have he:v=u:=by simpa using oL.out
    go_wp2;go_ret;exact⟨by unfold dI;rw[if_neg zo,if_neg zo];rfl,rfl⟩
theorem acs (x y:Value)(n m v u:Nat)(w:World)(hx:Bv w x n v)(hy:Bv w y m u)(hn:n<=1099511627776)(hm:m<=1099511627776)(vW:u<=v):
 Calls Tryz.prog 134 #[x,y] w λe w'=>(∃z,e=.returned z/\Bv w' z n (v-u)/\EP z w.heap.size)/\Bw w w':=by
 obtain⟨a,cap,pj⟩:=hx.len;obtain⟨a',cap',GP⟩:=hy.len;have iZ:=λW (hW:Bw w W) i (hi:i<=1099511627776)=>Ds x n v i W (hx.below hW) hi hn;have hby:=λW (hW:Bw w W) i (hi:i<=1099511627776)=>Ds y m u i W (hy.below hW) hi hm;have vr:Hid (v-u<2^n):=by show _<_;have:=hx.1;omega
 subst pj;subst GP;obtain⟨sD,Eh,EM⟩:=cL iZ hby vW;clear iZ hby hx hy vW;have hmk:=rX (n:Int) n rfl zo;go_enter Tryz.func134,Tryz.ntmps134;go_wp2_with fail;go_loopw[6,7,8] (λb i _ wr=>∃k:Nat,k<=n/\i=af (k:Int)/\b=.int .u8 (bb v u k:Int)/\ar wr w.heap.size 5 (cZ n (λj=>if j<k then bd (v-u) j else 0))/\Bw w wr) (λ_ i _ _=>n-(intOf i).toNat);case atStart=>
  refine⟨0,Nat.zero_le _,rfl,by rw[aia];rfl,?_,zl⟩;have e:cZ n (λj=>if j<0 then bd (v-u) j else 0)=cZ n λ_=>0:=oz λj hj=>by rw[if_neg zo]
  rw[e];exact ar.new _ _ _
 case round=>
  obtain⟨k,hk,rfl,rfl,hB,hb⟩:=hrel;by_cases hlt:k<n
  . obtain⟨H1,H2⟩:=aO (sD.out wr hb k zo) (Eh.out wr hb k zo);have hs:=ah9 v u k;have hd:=ah8 v u k EM.out;have hp:=uj v k;have hq:=uj u k;have hr:=VZ v u k;have hcell:wr.cell? ⟨w.heap.size,k,none⟩=some (.int .u8 0):=by rw[hB.cell,mC _ _ _ hlt,if_neg zo];rfl
    have hfree:wr.frozen? ⟨w.heap.size,k,none⟩=false:=hB.free _;have cm:=hB.set k (.int .u8 ((bd (v-u) k:Nat):Int))
    rw[Bh,oz (g:=λj=>if j<k+1 then bd (v-u) j else 0) λj hj=>by
     by_cases e:j=k
     . subst e;rw[if_pos rfl,if_pos zo]
     . rw[if_neg e];by_cases e2:j<k
       . rw[if_pos e2,if_pos zo]
       . rw[if_neg e2,if_neg zo]]at cm
    obtain⟨ft,Hb⟩:=aO cm (hb.setCell (p:=⟨w.heap.size,k,none⟩) (Nat.le_refl _) (.int .u8 ((bd (v-u) k:Nat):Int)));clear hB cm hb;generalize bd v k=p at*;generalize bd u k=q at*;generalize bb v u k=r at*;generalize bd (v-u) k=z at*;have Hs:=ai hs;clear hs;obtain⟨S,hS⟩:=aG (2+p-q-r);have hS3:S<=3:=by omega
    have hw1:IntKind.u8.wrap (2+(p:Int))=2+(p:Int):=by rw[IntKind.wrap_u8];omega
    have hw2:IntKind.u8.wrap (2+(p:Int)-(q:Int))=2+(p:Int)-(q:Int):=by rw[IntKind.wrap_u8];omega
    have hw3:IntKind.u8.wrap (2+(p:Int)-(q:Int)-(r:Int))=(S:Int):=by rw[IntKind.wrap_u8];omega
    have hand:bits .and .u8 (S:Int) 1=(z:Int):=by rw[OC S zo,<-hd];omega
    obtain⟨HS,Hd⟩:=aO hS hd;clear hS hd;go_wp2_with fail;refine H1.out.mono ?_;rintro e w' ⟨rfl,rfl⟩;go_wp2_with fail;refine H2.out.mono ?_;rintro e w' ⟨rfl,rfl⟩;go_wp2;go_roundw;case rel=>refine⟨k+1,by omega,by go_num,?_,ft.out,Hb.out⟩;rw[Hs.out];have:=HS.out;congr 1;split<;>omega
    case measure=>simp[intOf];omega
  . obtain rfl:k=n:=by omega
    rw[oz (g:=bd (v-u)) λj hj=>by rw[if_pos hj]]at hB;obtain⟨Hz,Hb⟩:=aO (Bv.aw2 hB vr.out) hb;clear hB hb;go_wp2;go_ret;exact⟨⟨_,rfl,Hz.out,λb o n' c e=>by cases e;exact Nat.le_refl _⟩,Hb.out⟩
end Go.Proofs.YtoopepmmepmfnaaGreatDoor
namespace Go.Proofs.YtoopepmmepmfnaaGreatDoor
open Go.RowKit
abbrev aM:=List UInt8×Raw
def aX (t:aM):List Value:=[ah t.1,ag t.2.1,ah t.2.2.1,af t.2.2.2]
theorem At.term {w:World}{a:Option Addr}{ts:List aM}(h:At w a (ts.flatMap aX))(k:Nat)(hk:k<ts.length){l:List UInt8}{s:Bool}{m:List UInt8}{e:Int}(hx:ts[k]=(l,s,m,e)):
 ∃b o,a=some ⟨b,o,none⟩/\bH w b (o+k*4) [ah l,ag s,ah m,af e]:=by
 obtain⟨b,o,hab,hcs⟩:=h.elem (f:=aX) (sz:=4) (λ_=>rfl) zd k hk;refine⟨b,o,hab,λj hj=>?_⟩;have:=hcs j hj;rw[hx]at this;rw[this];unfold aX;rw[List.getElem?_eq_getElem (by simpa using hj)]
def Fi (V:Int)(l:List UInt8)(x:Raw):Bool:=gp l V&& !(bA (az x)==0)&&(canon (az x)==x)
def sW (V:Int)(ts:List aM)(k:Nat):Bool:=Fi V (ts.getD k default).1 (ts.getD k default).2&&(k==0||Op.bytesLess (bs (ts.getD (k-1) default).1).toList (bs (ts.getD k default).1).toList)
def AZ (V:Int)(ts:List aM):Int:=if ¬(0<=V/\V<=12)then 1 else if 4096<ts.length then 3 else if(List.range ts.length).all (sW V ts)then 0 else 1
end Go.Proofs.YtoopepmmepmfnaaGreatDoor
namespace Go.Proofs.YtoopepmmepmfnaaGreatDoor
theorem Ck (a:List UInt8):Op.bytesLess a a=false:=by
 induction a with
 |nil=>rfl
 |cons x a ih=>simp[Op.bytesLess,ih]
theorem ET {a b c:List UInt8}(h:Op.bytesLess a b=true)(k:Op.bytesLess b c=true):Op.bytesLess a c=true:=by
 induction a generalizing b c with
 | nil=>
   cases c with
   |nil=>cases b<;>simp[Op.bytesLess]at k
   |cons z c=>simp[Op.bytesLess]
 | cons x a ih=>
   cases b with
   |nil=>simp[Op.bytesLess]at h
   | cons y b=>
     cases c with
     |nil=>simp[Op.bytesLess]at k
     | cons z c=>
       simp only[Op.bytesLess,Bool.or_eq_true,Bool.and_eq_true,decide_eq_true_eq,beq_iff_eq]at h k⊢;rcases h with h|⟨rfl,h⟩
       . rcases k with k|⟨rfl,k⟩
         . exact .inl (UInt8.lt_trans h k)
         . exact .inl h
       . rcases k with k|⟨rfl,k⟩
         . exact .inl k
         . exact .inr ⟨rfl,ih h k⟩
theorem EU {a b:List UInt8}(h:Op.bytesLess a b=false)(k:Op.bytesLess b a=false):a=b:=by
 induction a generalizing b with
 | nil=>cases b with
   |nil=>rfl
   |cons y b=>simp[Op.bytesLess]at h
 | cons x a ih=>cases b with
   |nil=>simp[Op.bytesLess]at k
   | cons y b=>
     simp only[Op.bytesLess,Bool.or_eq_false_iff,Bool.and_eq_false_iff,decide_eq_false_iff_not,beq_eq_false_iff_ne]at h k;have e:x=y:=by have h1:=UInt8.not_lt.1 h.1;have h2:=UInt8.not_lt.1 k.1;exact UInt8.le_antisymm h2 h1
     subst e;rw[ih (by rcases h.2 with h|h;exact absurd rfl h;exact h) (by rcases k.2 with h|h;exact absurd rfl h;exact h)]
def Tn (x y:aM):aM:=(x.1,canon (az x.2+az y.2))
def yh :Nat->List aM->List aM->List aM
 |0,a,b=>a++b
 |_+1,[],b=>b
 |_+1,x::a,[]=>x::a
 |k+1,x::a,y::b=>if Op.bytesLess x.1 y.1 then x::yh k a (y::b)else if Op.bytesLess y.1 x.1 then y::yh k (x::a) b else Tn x y::yh k a b
theorem Sj (a b:List aM)(j k:Nat)(hj:a.length+b.length<=j)(hk:a.length+b.length<=k):yh j a b=yh k a b:=by
 induction j generalizing k a b with
 |zero=>have ha:a=[]:=List.length_eq_zero_iff.1 zo;have hb:b=[]:=List.length_eq_zero_iff.1 zo;subst ha;subst hb;cases k<;>rfl
 | succ j ih=>
   cases k with
   |zero=>have ha:a=[]:=List.length_eq_zero_iff.1 zo;have hb:b=[]:=List.length_eq_zero_iff.1 zo;subst ha;subst hb;rfl
   | succ k=>
     cases a with
     |nil=>rfl
     | cons x a=>cases b with
       |nil=>rfl
       |cons y b=>simp only[List.length_cons]at hj hk;simp only[yh];rw[ih a (y::b) k zi zi,ih (x::a) b k zi zi,ih a b k zo zo]
def il (a b:List aM):List aM:=yh (a.length+b.length) a b
theorem Dc (b:List aM):il [] b=b:=by
 unfold il;cases b with
 |nil=>rfl
 |cons y b=>rfl
theorem Dd (a:List aM):il a []=a:=by
 unfold il;cases a with
 |nil=>rfl
 |cons y b=>rfl
theorem yi (x y:aM)(a b:List aM):il (x::a) (y::b)=if Op.bytesLess x.1 y.1 then x::il a (y::b)else if Op.bytesLess y.1 x.1 then y::il (x::a) b else Tn x y::il a b:=by
 unfold il;rw[show(x::a).length+(y::b).length=(a.length+b.length+1)+1 by simp;omega];simp only[yh]
 rw[Sj a (y::b) (a.length+b.length+1) (a.length+(y::b).length) zi zm,Sj (x::a) b (a.length+b.length+1) ((x::a).length+b.length) zi zm,
  Sj a b (a.length+b.length+1) (a.length+b.length) zo zo]
theorem abI (a b:List aM):(il a b).length<=a.length+b.length:=by
 obtain⟨n,hn⟩:=aG (a.length+b.length);induction n using Nat.strongRecOn generalizing a b with
 | _ n ih=>
   cases a with
   |nil=>rw[Dc];simp
   | cons x a=>cases b with
     |nil=>rw[Dd];simp
     | cons y b=>
       rw[yi];simp only[List.length_cons]at hn⊢;split
       . have:=ih _ (by simp only[List.length_cons];omega) a (y::b) rfl;simp only[List.length_cons]at this⊢;omega
       . split
         . have:=ih _ (by simp only[List.length_cons];omega) (x::a) b rfl;simp only[List.length_cons]at this⊢;omega
         . have:=ih _ zo a b rfl;simp only[List.length_cons]at this⊢;omega
def cF :List aM->List UInt8->Dyadic
 |[],_=>0
 |x::l,m=>(if x.1=m then az x.2 else 0)+cF l m
theorem zz (a b:List aM)(m:List UInt8):cF (a++b) m=cF a m+cF b m:=by
 induction a with
 |nil=>simp[cF]
 |cons x a ih=>simp only[List.cons_append,cF,ih];grind
theorem Wy (a b:List aM)(m:List UInt8):cF (il a b) m=cF a m+cF b m:=by
 obtain⟨n,hn⟩:=aG (a.length+b.length);induction n using Nat.strongRecOn generalizing a b with
 | _ n ih=>
   cases a with
   |nil=>rw[Dc];simp[cF]
   | cons x a=>cases b with
     |nil=>rw[Dd];simp[cF]
     | cons y b=>
       rw[yi];simp only[List.length_cons]at hn;split
       . have:=ih _ (by simp only[List.length_cons];omega) a (y::b) rfl;simp only[cF]at this⊢;rw[this];grind
       . split
         . have:=ih _ (by simp only[List.length_cons];omega) (x::a) b rfl;simp only[cF]at this⊢;rw[this];grind
         . rename_i h1 h2
           have:=ih _ zo a b rfl;have e:x.1=y.1:=EU (by simpa using h1) (by simpa using h2);simp only[cF,Tn,bD]at this⊢;rw[this,e];split<;>grind
def Up (l:List aM):Prop:=l.Pairwise λx y=>Op.bytesLess x.1 y.1=true
theorem LS (a b:List aM):∀x∈il a b,∃y∈a++b,y.1=x.1:=by
 obtain⟨n,hn⟩:=aG (a.length+b.length);induction n using Nat.strongRecOn generalizing a b with
 | _ n ih=>
   intro z hz;cases a with
   |nil=>rw[Dc]at hz;exact⟨z,by simp[hz],rfl⟩
   | cons x a=>cases b with
     |nil=>rw[Dd]at hz;exact⟨z,by simpa using hz,rfl⟩
     | cons y b=>
       rw[yi]at hz;simp only[List.length_cons]at hn;split at hz
       . rcases List.mem_cons.1 hz with rfl|hz
         . exact⟨z,by simp,rfl⟩
         . obtain⟨u,hu,e⟩:=ih _ (by simp only[List.length_cons];omega) a (y::b) rfl z hz;exact⟨u,by simp at hu⊢;rcases hu with h|h|h<;>simp[h],e⟩
       . split at hz
         . rcases List.mem_cons.1 hz with rfl|hz
           . exact⟨z,by simp,rfl⟩
           . obtain⟨u,hu,e⟩:=ih _ (by simp only[List.length_cons];omega) (x::a) b rfl z hz;exact⟨u,by simp at hu⊢;rcases hu with h|h|h<;>simp[h],e⟩
         . rcases List.mem_cons.1 hz with rfl|hz
           . exact⟨x,by simp,rfl⟩
           . obtain⟨u,hu,e⟩:=ih _ zo a b rfl z hz;exact⟨u,by simp at hu⊢;rcases hu with h|h<;>simp[h],e⟩
theorem anW (a b:List aM)(ha:Up a)(hb:Up b):Up (il a b):=by
 obtain⟨n,hn⟩:=aG (a.length+b.length);induction n using Nat.strongRecOn generalizing a b with
 | _ n ih=>
   cases a with
   |nil=>rw[Dc];exact hb
   | cons x a=>cases b with
     |nil=>rw[Dd];exact ha
     | cons y b=>
       rw[yi];simp only[List.length_cons]at hn;obtain⟨ha1,ha2⟩:=List.pairwise_cons.1 ha;obtain⟨hb1,hb2⟩:=List.pairwise_cons.1 hb;split
       . rename_i h
         refine List.pairwise_cons.2 ⟨λz hz=>?_,ih _ (by simp only[List.length_cons];omega) a (y::b) ha2 hb rfl⟩;obtain⟨u,hu,e⟩:=LS _ _ z hz;rw[<-e];rcases List.mem_append.1 hu with h2|h2
         . exact ha1 u h2
         . rcases List.mem_cons.1 h2 with rfl|h2
           . exact h
           . exact ET h (hb1 u h2)
       . split
         . rename_i h0 h
           refine List.pairwise_cons.2 ⟨λz hz=>?_,ih _ (by simp only[List.length_cons];omega) (x::a) b ha hb2 rfl⟩;obtain⟨u,hu,e⟩:=LS _ _ z hz;rw[<-e];rcases List.mem_append.1 hu with h2|h2
           . rcases List.mem_cons.1 h2 with rfl|h2
             . exact h
             . exact ET h (ha1 u h2)
           . exact hb1 u h2
         . rename_i h1 h2
           have e:x.1=y.1:=EU (by simpa using h1) (by simpa using h2);refine List.pairwise_cons.2 ⟨λz hz=>?_,ih _ zo a b ha2 hb2 rfl⟩;obtain⟨u,hu,e2⟩:=LS _ _ z hz;rw[<-e2];show Op.bytesLess x.1 u.1=true
           rcases List.mem_append.1 hu with h3|h3
           . exact ha1 u h3
           . rw[e];exact hb1 u h3
def uS :Nat->List aM->List aM
 |0,l=>l
 |k+1,l=>if l.length<2 then l else il (uS k (l.take (l.length/2))) (uS k (l.drop (l.length/2)))
theorem acV (l:List aM)(j k:Nat)(hj:l.length<=j)(hk:l.length<=k):uS j l=uS k l:=by
 induction j generalizing k l with
 |zero=>have h:l=[]:=List.length_eq_zero_iff.1 zo;subst h;cases k<;>simp[uS]
 | succ j ih=>
   cases k with
   |zero=>have h:l=[]:=List.length_eq_zero_iff.1 zo;subst h;simp[uS]
   | succ k=>
     simp only[uS];split
     . rfl
     . rw[ih (l.take (l.length/2)) k zi zi,ih (l.drop (l.length/2)) k zi zi]
def iw (l:List aM):List aM:=uS l.length l
theorem Ml (l:List aM)(h:l.length<2):iw l=l:=by
 unfold iw;cases l with
 |nil=>rfl
 |cons x l=>simp only[List.length_cons,uS];rw[if_pos (by simpa using h)]
theorem Tk (l:List aM)(h:2<=l.length):iw l=il (iw (l.take (l.length/2))) (iw (l.drop (l.length/2))):=by obtain⟨k,hk⟩:∃k,l.length=k+1:=⟨l.length-1,by omega⟩;unfold iw;rw[hk];simp only[uS];rw[if_neg zo,hk,acV (l.take ((k+1)/2)) k ((l.take ((k+1)/2)).length) zi (Nat.le_refl _),acV (l.drop ((k+1)/2)) k ((l.drop ((k+1)/2)).length) zi (Nat.le_refl _)]
theorem Mk {Q:List aM->List aM->Prop}(h0:∀l,l.length<2->Q l l)(h1:∀a b c d,Q a c->Q b d->Q (a++b) (il c d))(l:List aM):Q l (iw l):=by
 obtain⟨n,hn⟩:=aG l.length;induction n using Nat.strongRecOn generalizing l with
 | _ n ih=>
   by_cases h:l.length<2
   . rw[Ml l h];exact h0 l h
   . rw[Tk l zo];have:=h1 _ _ _ _ (ih (l.take (l.length/2)).length zi (l.take (l.length/2)) rfl) (ih (l.drop (l.length/2)).length zi (l.drop (l.length/2)) rfl);rwa [List.take_append_drop]at this
theorem ai9 (l:List aM)(m:List UInt8):cF (iw l) m=cF l m:=
 Mk (Q:=λl r=>cF r m=cF l m) (λ_ _=>rfl) (λa b c d h1 h2=>by rw[Wy,zz,h1,h2]) l
theorem aqK (l:List aM):Up (iw l):=
 Mk (Q:=λ_ r=>Up r) (λl h=>by
  cases l with
  |nil=>exact List.Pairwise.nil
  | cons x l=>cases l with
    |nil=>exact List.pairwise_singleton _ _
    |cons y l=>simp at h;omega) (λa b c d h1 h2=>anW c d h1 h2) l
theorem IA (l:List aM):(iw l).length<=l.length:=
 Mk (Q:=λl r=>r.length<=l.length) (λ_ _=>Nat.le_refl _) (λa b c d h1 h2=>by have:=abI c d;simp;omega) l
theorem acW (l:List aM):∀x∈iw l,∃y∈l,y.1=x.1:=
 Mk (Q:=λl r=>∀x∈r,∃y∈l,y.1=x.1) (λl _ x hx=>⟨x,hx,rfl⟩) (λa b c d h1 h2 x hx=>by
  obtain⟨y,hy,e⟩:=LS c d x hx;rcases List.mem_append.1 hy with h|h
  . obtain⟨z,hz,e2⟩:=h1 y h;exact⟨z,by simp[hz],e2.trans e⟩
  . obtain⟨z,hz,e2⟩:=h2 y h;exact⟨z,by simp[hz],e2.trans e⟩) l
def iG (x:aM):Bool:=!(bA (az x.2)==0)
def bY (l:List aM):List aM:=((iw l).filter iG).map λx=>(x.1,canon (az x.2))
def Good (l:List aM):Prop:=Up l/\∀x∈l,az x.2≠0/\x.2=canon (az x.2)
theorem zH (X:Dyadic):(bA X==0)=false↔X≠0:=by
 have h:bA X=0↔X=0:=by
  constructor
  . intro h;have h1:dN X=0:=by
     unfold bA eQ at h;by_cases h1:dN X<0
     . rw[if_pos h1]at h;cases h
     . rw[if_neg h1]at h;by_cases h2:dN X=0
       . exact h2
       . rw[if_neg h2]at h;cases h
    have h2:=uQ X;rw[h1,yq]at h2;exact h2
  . rintro rfl;rfl
 rw[beq_eq_false_iff_ne];exact not_congr h
theorem Wx (l:List aM)(m:List UInt8):cF (l.filter iG) m=cF l m:=by
 induction l with
 |nil=>rfl
 | cons x l ih=>
   rw[List.filter_cons];split
   . simp only[cF,ih]
   . rename_i h
     have h0:az x.2=0:=Classical.byContradiction λhc=>h (by unfold iG;rw[(zH _).2 hc];rfl);simp only[cF,ih,h0];split<;>grind
theorem ai4 (l:List aM)(m:List UInt8):cF (l.map λx=>(x.1,canon (az x.2))) m=cF l m:=by
 induction l with
 |nil=>rfl
 |cons x l ih=>simp only[List.map_cons,cF,ih,bD]
theorem um (l:List aM)(m:List UInt8):cF (bY l) m=cF l m:=by unfold bY;rw[ai4,Wx,ai9]
theorem arB {l:List aM}(h:Up l):Up (l.map λx=>(x.1,canon (az x.2))):=List.Pairwise.map _ (λ_ _ h=>h) h
theorem akK (l:List aM)(h:Up l):Good ((l.filter iG).map λx=>(x.1,canon (az x.2))):=by
 refine⟨arB (List.Pairwise.filter _ h),λx hx=>?_⟩;obtain⟨y,hy,rfl⟩:=List.mem_map.1 hx;have h2:=(List.mem_filter.1 hy).2;unfold iG at h2;refine⟨?_,?_⟩
 . show az (canon (az y.2))≠0
   rw[bD];exact(zH _).1 (by simpa using h2)
 . show canon (az y.2)=canon (az (canon (az y.2)))
   rw[bD]
theorem Co (l:List aM):Good (bY l):=akK _ (aqK l)
theorem zw (l:List aM):(bY l).length<=l.length:=by unfold bY;rw[List.length_map];exact Nat.le_trans (List.length_filter_le _ _) (IA l)
theorem WA (l:List aM)(m:List UInt8)(h:∀x∈l,x.1≠m):cF l m=0:=by
 induction l with
 |nil=>rfl
 |cons x l ih=>simp only[cF];rw[if_neg (h x zm),ih (λy hy=>h y (by simp[hy]))];grind
theorem Good.tail {x:aM}{l:List aM}(h:Good (x::l)):Good l:=⟨(List.pairwise_cons.1 h.1).2,λy hy=>h.2 y (by simp[hy])⟩
theorem Good.off {x:aM}{l:List aM}(h:Good (x::l)):cF l x.1=0:=by refine WA _ _ (λy hy e=>?_);have:=(List.pairwise_cons.1 h.1).1 y hy;rw[e,Ck]at this;cases this
theorem Good.head {x:aM}{l:List aM}(h:Good (x::l)):cF (x::l) x.1=az x.2:=by simp only[cF,if_pos,h.off];grind
theorem Good.before {x y:aM}{l:List aM}(h:Good (y::l))(hx:Op.bytesLess x.1 y.1=true):cF (y::l) x.1=0:=by
 refine WA _ _ (λz hz e=>?_);rcases List.mem_cons.1 hz with rfl|hz
 . rw[e,Ck]at hx;cases hx
 . have:=ET hx ((List.pairwise_cons.1 h.1).1 z hz);rw[e,Ck]at this;cases this
theorem Xq {a b:List aM}(ha:Good a)(hb:Good b)(h:∀m,cF a m=cF b m):a=b:=by
 induction a generalizing b with
 | nil=>
   cases b with
   |nil=>rfl
   |cons y b=>have:=h y.1;rw[hb.head]at this;exact absurd this.symm (hb.2 y zm).1
 | cons x a ih=>
   cases b with
   |nil=>have:=h x.1;rw[ha.head]at this;exact absurd this (ha.2 x zm).1
   | cons y b=>
     have h1:Op.bytesLess x.1 y.1=false:=by
      cases hc:Op.bytesLess x.1 y.1 with
      |false=>rfl
      |true=>have:=h x.1;rw[ha.head,hb.before hc]at this;exact absurd this (ha.2 x zm).1
     have h2:Op.bytesLess y.1 x.1=false:=by
      cases hc:Op.bytesLess y.1 x.1 with
      |false=>rfl
      |true=>have:=h y.1;rw[hb.head,ha.before hc]at this;exact absurd this.symm (hb.2 y zm).1
     have e1:x.1=y.1:=EU h1 h2;have e2:az x.2=az y.2:=by have:=h x.1;rw[ha.head]at this;rw[this,e1,hb.head]
     have e3:x=y:=by refine Prod.ext e1 ?_;rw[(ha.2 x zm).2,(hb.2 y zm).2,e2]
     subst e3
     rw[ih ha.tail hb.tail (λm=>by
      have:=h m;simp only[cF]at this;generalize (if x.1=m then az x.2 else 0)=u at this
      grind)]
end Go.Proofs.YtoopepmmepmfnaaGreatDoor
namespace Go.Proofs.YtoopepmmepmfnaaGreatDoor
open Go.RowKit
attribute [local go_sem ↓] Go.wp_at_zero Go.wp_at_succ
def wz (a b:List UInt8):Int:=if Op.bytesLess a b then-1 else if Op.bytesLess b a then 1 else 0
theorem aqt (l:List UInt8)(s:Bool)(m:List UInt8)(e:Int)(l':List UInt8)(s':Bool)(m':List UInt8)(e':Int)(w:World):
 Calls Tryz.prog 155 #[.agg #[ah l,ag s,ah m,af e],.agg #[ah l',ag s',ah m',af e']] w λex w'=>ex=.returned (af (wz l l'))/\Bw w w':=by
 obtain⟨R,hR⟩:=aG (wz l l');unfold wz at hR;rw[show wz l l'=R from hR];obtain⟨W,cg,Hb,Hx,Hy⟩:=iq w 93 [ah l,ag s,ah m,af e] 93 [ah l',ag s',ah m',af e'];obtain⟨x0,x1,x2,x3⟩:=Hx.out.c4;obtain⟨y0,y1,y2,y3⟩:=Hy.out.c4;cases h1:Op.bytesLess l l' with
 | true=>
   rw[h1]at hR;simp only[if_true]at hR;subst hR;have h2:Op.bytesLess (bs l).toList (bs l').toList=true:=by rw[gu,gu];exact h1
   clear h1;go_enter Tryz.func155,Tryz.ntmps155;go_wp2;go_ret;exact⟨rfl,Hb.out⟩
 | false=>
   rw[h1]at hR;simp only[Bool.false_eq_true,if_false]at hR;have h2:Op.bytesLess (bs l).toList (bs l').toList=false:=by rw[gu,gu];exact h1
   cases h3:Op.bytesLess l' l with
   | true=>
     rw[h3]at hR;simp only[if_true]at hR;subst hR;have hne:¬l=l':=by rintro rfl;rw[Ck]at h3;cases h3
     have h4:((bs l).toList==(bs l').toList)=false:=by rw[gu,gu];simpa using hne
     have h5:¬(bs l).toList=(bs l').toList:=by rw[gu,gu];exact hne
     clear h1 h3 hne;go_enter Tryz.func155,Tryz.ntmps155;go_wp2;go_ret;exact⟨rfl,Hb.out⟩
   |false=>rw[h3]at hR;simp only[Bool.false_eq_true,if_false]at hR;subst hR;obtain rfl:=EU h1 h3;clear h1 h3;go_enter Tryz.func155,Tryz.ntmps155;go_wp2;go_ret;exact⟨rfl,Hb.out⟩
theorem aqV (l:List UInt8)(s:Bool)(m:List UInt8)(e:Int)(l':List UInt8)(s':Bool)(m':List UInt8)(e':Int)(S:Dyadic)(B:Nat)(hS:az (s,m,e)+az (s',m',e')=S)(w:World)(hx:Fit B (s,m,e))(hy:Fit B (s',m',e'))(hB:B+2<=268435456)(hT:aH w):
 Calls Tryz.prog 156 #[.agg #[ah l,ag s,ah m,af e],.agg #[ah l',ag s',ah m',af e']] w λex w'=>ex=.returned (.agg #[ah l,ag (au (dN S)),ah (nt (dN S).natAbs),af (dE S)])/\Bw w w':=by
 obtain⟨jW,nC,HS,HT⟩:=dx hx hy hS hT;clear hx hy hS hT;obtain⟨W,cg,Hb,Hx,Hy,Hr⟩:=qO w 93 [ah l,ag s,ah m,af e] 93 [ah l',ag s',ah m',af e'] 93 [.string ⟨#[]⟩,ag false,.string ⟨#[]⟩,af 0];obtain⟨x0,x1,x2,x3⟩:=Hx.out.c4;obtain⟨y0,y1,y2,y3⟩:=Hy.out.c4;obtain⟨r0,aj,r1,ak,r2,aF,r3,cj⟩:=Hr.out.g4;go_enter Tryz.func156,Tryz.ntmps156;go_wp2_with fail;refine bR (λw'=>aC w' (w.heap.size) 0 (ah l)/\aC w' (w.heap.size) 1 (ag s)/\aC w' (w.heap.size) 2 (ah m)/\aC w' (w.heap.size) 3 (af e)/\aC w' (w.heap.size+1) 0 (ah l')/\aC w' (w.heap.size+1) 1 (ag s')/\aC w' (w.heap.size+1) 2 (ah m')/\aC w' (w.heap.size+1) 3 (af e')) (λi=>Nat.blt i 9) [(0,true),(1,true),(2,true),(3,true),(4,true),(5,true),(6,false),(7,false),(8,true),(9,false)] zk zk rfl zk zc ⟨x0,x1,x2,x3,y0,y1,y2,y3⟩ ?_;iterate 6 (refine pT rfl rfl ?_ (by intro w' ⟨q0,q1,q2,q3,q4,q5,q6,q7⟩;go_simp;try with_reducible rfl))
 refine aI rfl rfl (λK hK=>?_);go_simp;refine hK _ _ (λ_=>⟨aL x0,aL x1,aL x2,aL x3,aL y0,aL y1,aL y2,aL y3⟩) ?_;clear hK K
 refine bV (λW3=>ar W3 (W.heap.size) 39 [ag s,ah m,af e,ag s',ah m',af e']/\Bw W W3) (by first|exact fe|exact fg) ?_;rintro W3 ⟨qv,ae⟩;clear x0 x1 x2 x3 y0 y1 y2 y3 r0 aj r1 ak r2 aF r3 cj;have anz:=Hx.out.lt;have anD:=Hy.out.lt;have GY:=Hr.out.lt;replace Hx:=kB Hx ae;replace Hy:=kB Hy ae;replace Hr:=kB Hr ae;have Hv:=ai qv;clear qv;obtain⟨x0,x1,x2,x3⟩:=Hx.out.c4;obtain⟨y0,y1,y2,y3⟩:=Hy.out.c4;obtain⟨r0,aj,r1,ak,r2,aF,r3,cj⟩:=Hr.out.g4;obtain⟨v0,v1,v2,v3,v4,v5⟩:=Hv.out.c6;replace Hb:=aB Hb ae;clear ae;refine aI rfl rfl (λK hK=>?_);go_simp;with_reducible refine(Cq s m e s' m' e' S B HS.out W.heap.size _ 39 _ jW.out nC.out hB Hv.out ((HT.out.below Hb.out))).mono ?_
 rintro e w4 ⟨rfl,hq⟩;have ae:Bw W3 w4:=by first|exact hq|exact aW hq
 clear x0 x1 x2 x3 y0 y1 y2 y3 r0 aj r1 ak r2 aF r3 cj v0 v1 v2 v3 v4 v5;obtain⟨Hx,x0,x1,x2,x3⟩:=dU Hx ae;obtain⟨Hy,y0,y1,y2,y3⟩:=dU Hy ae;replace Hr:=kB Hr ae;obtain⟨Hv,v0,v1,v2,v3,v4,v5⟩:=fU Hv ae;obtain⟨r0,aj,r1,ak,r2,aF,r3,cj⟩:=Hr.out.g4;replace Hb:=aB Hb ae;clear ae;refine hK _ _ (λ_=>⟨x0,x1,x2,x3,y0,y1,y2,y3⟩) ?_;clear hK K
 refine pT rfl rfl ?_
 refine aI rfl rfl (λK hK=>?_);go_simp;refine hK _ _ (λh=>absurd h zd) ?_;clear hK K
 clear x0 x1 x2 x3 y0 y1 y2 y3 r0 aj r1 ak r2 aF r3 cj v0 v1 v2 v3 v4 v5;refine bV (bC w4 (w.heap.size+1+1) 0 [ah l,ag (au (dN S)),ah (nt (dN S).natAbs),af (dE S)]) bJ ?_;intro w5 hs;replace Hx:=kS Hx hs zo;replace Hy:=kS Hy hs zo;replace Hr:=bP Hr hs;replace Hv:=kS Hv hs zo;obtain⟨x0,x1,x2,x3⟩:=Hx.out.c4;obtain⟨y0,y1,y2,y3⟩:=Hy.out.c4;obtain⟨r0,aj,r1,ak,r2,aF,r3,cj⟩:=Hr.out.g4;obtain⟨v0,v1,v2,v3,v4,v5⟩:=Hv.out.c6;replace Hb:=bS Hb hs ZS;clear hs;simp only[bi];go_wp2;exact bodyPost_ret (v:=.agg #[ah l,ag (au (dN S)),ah (nt (dN S).natAbs),af (dE S)]) (by simp[results,Tryz.results156,go_sem,r0,r1,r2,r3]) rfl ⟨rfl,df⟩
theorem aiW (l:List UInt8)(s:Bool)(m:List UInt8)(e:Int)(w:World)(hx:Ok (s,m,e)):
 Calls Tryz.prog 190 #[.agg #[ah l,ag s,ah m,af e]] w λex w'=>ex=.returned (ag (!iG (l,s,m,e)))/\Bw w w':=by
 obtain⟨g,hg⟩:=aG (bA (az (s,m,e)));have hs:=λW=>oV s m e g hg W hx;have hz:(!iG (l,s,m,e))=decide (g=0):=by unfold iG;rw[hg];by_cases h:g=0<;>simp[h]
 rw[hz];have Hs:=ai hs;clear hs hz hg hx;obtain⟨W,cg,Hb,Hx⟩:=fJ w 93 [ah l,ag s,ah m,af e];obtain⟨x0,x1,x2,x3⟩:=Hx.out.c4;go_enter Tryz.func190,Tryz.ntmps190;go_wp2_with fail;refine(Hs.out _).mono ?_;rintro e w1 ⟨rfl,ae⟩;clear x0 x1 x2 x3;obtain⟨Hx,x0,x1,x2,x3⟩:=dU Hx ae;replace Hb:=aB Hb ae;clear ae;go_wp2;refine bodyPost_ret (results_tmp rfl _ _ _) rfl ⟨?_,Hb.out⟩;by_cases h:g=0<;>simp[h]
theorem anH (l:List UInt8)(s:Bool)(m:List UInt8)(e:Int)(V:Int)(bv:Nat)(w:World)(hv:w.cell? ⟨bv,0,none⟩=some (af V))(hl:l.length<=9223372036854775807):
 Calls Tryz.prog 186 #[.agg #[ah l,ag s,ah m,af e],.pointer (some ⟨bv,0,none⟩)] w λex w'=>ex=.returned (ag (!gp l V))/\Bw w w':=by
 have hm:=λW=>LR l V W hl;obtain⟨t,ht⟩:=aG (gp l V);rw[ht]at hm⊢;obtain⟨Hm,Hv⟩:=aO hm hv;clear hm ht hv;obtain⟨W,cg,Hb,Hx⟩:=fJ w 93 [ah l,ag s,ah m,af e];obtain⟨x0,x1,x2,x3⟩:=Hx.out.c4;have hv2:=cell_later Hb.out Hv.out;go_enter Tryz.func186,Tryz.ntmps186;go_wp2_with fail;refine(Hm.out _).mono ?_;rintro e w1 ⟨rfl,ae⟩;clear x0 x1 x2 x3;obtain⟨Hx,x0,x1,x2,x3⟩:=dU Hx ae;replace Hb:=aB Hb ae;clear ae hv2;go_wp2;refine bodyPost_ret (results_tmp rfl _ _ _) rfl ⟨rfl,Hb.out⟩
end Go.Proofs.YtoopepmmepmfnaaGreatDoor
namespace Go.Proofs.YtoopepmmepmfnaaGreatDoor
def EQ (V:Nat)(ts:List aM):Prop:=Good ts/\(∀t∈ts,gp t.1 V=true)/\ts.length<=4096/\V<=12
theorem aca {V:Nat}{ts:List aM}(h:EQ V ts):AZ V ts=0:=by
 obtain⟨⟨h1,h2⟩,h3,h4,h5⟩:=h;unfold AZ;rw[if_neg zo,if_neg zo,if_pos];rw[List.all_eq_true];intro k hk;have hk:k<ts.length:=by simpa using hk
 have e:ts.getD k default=ts[k]:=by simp[hk]
 have hm:=List.getElem_mem hk;unfold sW Fi;rw[e,h3 _ hm,(zH _).2 (h2 _ hm).1];have e2:(canon (az ts[k].2)==ts[k].2)=true:=by rw[beq_iff_eq];exact(h2 _ hm).2.symm
 rw[e2];by_cases h0:k=0
 . simp[h0]
 . have hk1:k-1<ts.length:=by omega
   have e3:ts.getD (k-1) default=ts[k-1]:=by simp[hk1]
   have:=List.pairwise_iff_getElem.1 h1 (k-1) k hk1 hk zo;rw[e3,gu,gu,this];simp
theorem Good.axj {l:List aM}(h:Good l):∀t∈l,az t.2=cF l t.1:=by
 induction l with
 |nil=>intro t ht;cases ht
 | cons x l ih=>
   intro t ht;rcases List.mem_cons.1 ht with rfl|ht
   . exact h.head.symm
   . have hne:¬x.1=t.1:=λe=>by have:=(List.pairwise_cons.1 h.1).1 t ht;rw[e,Ck]at this;cases this
     simp only[cF,if_neg hne,ih h.tail t ht];grind
theorem ai8 {B:Nat}{l:List aM}(h:∀x∈l,Sm B (az x.2))(m:List UInt8):Sm (B+l.length) (cF l m):=by
 induction l with
 |nil=>exact Sm.zero _
 | cons x l ih=>
   have h1:=ih (λy hy=>h y (by simp[hy]));have h2:Sm B (if x.1=m then az x.2 else 0):=by
    split
    . exact h x zm
    . exact Sm.zero _
   exact((h2.mono (show B<=B+l.length by omega)).add h1).mono zi
theorem ai1 {B:Nat}{l:List aM}(h:∀x∈l,Sm B (az x.2)):∀t∈bY l,Sm (B+l.length) (az t.2):=by intro t ht;rw[(Co l).axj t ht,um];exact ai8 h _
theorem aiZ (l:List aM):∀x∈bY l,∃y∈l,y.1=x.1:=by intro x hx;unfold bY at hx;obtain⟨y,hy,rfl⟩:=List.mem_map.1 hx;exact acW l y (List.mem_filter.1 hy).1
theorem ai0 {V:Nat}{l:List aM}(hV:V<=12)(hm:∀t∈l,gp t.1 V=true)(hl:l.length<=4096):EQ V (bY l):=
 ⟨Co l,λt ht=>by obtain⟨y,hy,e⟩:=aiZ l t ht;rw[<-e];exact hm y hy,Nat.le_trans (zw l) hl,hV⟩
theorem Cn {a b:List aM}(h:∀m,cF a m=cF b m):bY a=bY b:=Xq (Co a) (Co b) (λm=>by rw[um,um,h m])
theorem aiY (a b:List aM):bY (bY a++bY b)=bY (a++b):=Cn (λm=>by rw[zz,zz,um,um])
def eK (c:Dyadic)(l:List aM):List aM:=l.map λx=>(x.1,canon (az x.2*c))
theorem WB (c:Dyadic)(l:List aM)(m:List UInt8):cF (eK c l) m=cF l m*c:=by
 induction l with
 |nil=>simp[eK,cF]
 |cons x l ih=>simp only[eK,List.map_cons,cF]at ih⊢;rw[ih,bD];split<;>grind
def jc (n:Nat):List UInt8:=List.replicate n 0
def dt (n k:Nat):List UInt8:=(List.replicate n 0).set k 1
theorem adN (n:Nat):gp (jc n) n=true:=by unfold gp jc;rw[Bool.and_eq_true];refine⟨?_,by simp⟩;rw[List.all_eq_true];intro c hc;rw[(List.mem_replicate.1 hc).2];rfl
theorem Tz (n k:Nat):gp (dt n k) n=true:=by
 unfold gp dt;rw[Bool.and_eq_true];refine⟨?_,by simp⟩;rw[List.all_eq_true];intro c hc;rcases List.mem_or_eq_of_mem_set hc with h|h
 . rw[(List.mem_replicate.1 h).2];rfl
 . rw[h];rfl
def iO (n:Nat)(c:Dyadic)(l:Nat->Dyadic)(k:Nat):List aM:=(jc n,canon c)::(List.range k).map λj=>(dt n j,canon (l j))
def dO (n:Nat)(c:Dyadic)(l:Nat->Dyadic)(k:Nat):List aM:=bY (iO n c l k)
theorem CZ (n:Nat)(c:Dyadic)(l:Nat->Dyadic)(k:Nat):(iO n c l k).length=k+1:=by simp[iO]
theorem amY (n:Nat)(c:Dyadic)(l:Nat->Dyadic)(k:Nat):∀t∈iO n c l k,gp t.1 n=true:=by
 intro t ht;unfold iO at ht;rcases List.mem_cons.1 ht with rfl|ht
 . exact adN n
 . obtain⟨j,_,rfl⟩:=List.mem_map.1 ht;exact Tz n j
theorem amZ {B:Nat}(n:Nat)(c:Dyadic)(l:Nat->Dyadic)(k:Nat)(hc:Sm B c)(hl:∀j,j<k->Sm B (l j)):∀t∈iO n c l k,Sm B (az t.2):=by
 intro t ht;unfold iO at ht;rcases List.mem_cons.1 ht with rfl|ht
 . show Sm B (az (canon c));rw[bD];exact hc
 . obtain⟨j,hj,rfl⟩:=List.mem_map.1 ht;show Sm B (az (canon (l j)));rw[bD];exact hl j (by simpa using hj)
theorem aa8 (n:Nat)(c:Dyadic)(l:Nat->Dyadic)(k:Nat):iO n c l (k+1)=iO n c l k++[(dt n k,canon (l k))]:=by unfold iO;rw[List.range_succ,List.map_append];rfl
theorem JY (n:Nat)(c:Dyadic)(l:Nat->Dyadic)(k:Nat)(m:List UInt8):cF (iO n c l (k+1)) m=cF (iO n c l k) m+if dt n k=m then l k else 0:=by rw[aa8,zz];simp only[cF,bD];grind
theorem aa9 (n:Nat)(c:Dyadic)(l:Nat->Dyadic)(k:Nat):bY (dO n c l k++bY [(dt n k,canon (l k))])=dO n c l (k+1):=by unfold dO;rw[aiY,aa8]
theorem ai3 (n:Nat)(c d:Dyadic)(l r:Nat->Dyadic)(u v:Dyadic)(k:Nat)(m:List UInt8):cF (iO n (c*u+d*v) (λj=>l j*u+r j*v) k) m=cF (iO n c l k) m*u+cF (iO n d r k) m*v:=by
 induction k with
 |zero=>simp[iO,cF,bD];split<;>grind
 |succ k ih=>rw[JY,ih,JY,JY];split<;>grind
theorem aa7 {n:Nat}{c d:Dyadic}{l r:Nat->Dyadic}(k:Nat)(hc:c=d)(h:∀j,j<k->l j=r j):iO n c l k=iO n d r k:=by unfold iO;rw[hc];congr 1;refine List.map_congr_left λj hj=>?_;rw[h j (by simpa using hj)]
theorem am0 (n:Nat)(c d:Dyadic)(l r:Nat->Dyadic)(k:Nat):bY (dO n c l k++bY (eK (-1) (dO n d r k)))=dO n (c-d) (λj=>l j-r j) k:=by unfold dO;refine Cn (λm=>?_);rw[zz,um,um,WB,um];have h:=ai3 n c d l r 1 (-1) k m;rw[aa7 (d:=c-d) (r:=λj=>l j-r j) k (by grind) (λj _=>by grind)]at h;rw[h];grind
end Go.Proofs.YtoopepmmepmfnaaGreatDoor
namespace Go.Proofs.YtoopepmmepmfnaaGreatDoor
open Go.RowKit
attribute [local go_sem ↓] Go.wp_at_zero Go.wp_at_succ
def ov (p q:List Dyadic):Nat->Dyadic
 |0=>0
 |k+1=>ov p q k+(p.getD k 0-q.getD k 0) * (p.getD k 0-q.getD k 0)
theorem Mj {B:Nat}{p q:List Dyadic}(hp:∀c∈p,Sm B c)(hq:∀c∈q,Sm B c)(k:Nat):Sm (2*B+2+k) (ov p q k):=by
 induction k with
 |zero=>exact Sm.zero _
 |succ k ih=>have h1:=Sm.sub (Xp hp k) (Xp hq k);have h2:=Sm.mul h1 h1;exact Sm.add ih (h2.mono (show B+1+(B+1)<=2*B+2+k by omega))
theorem aqI (a:Option Addr)(n cap:Nat)(P:List Raw)(a':Option Addr)(cap':Nat)(Q:List Raw)(B:Nat)(w:World)(hP:P.length=n)(hQ:Q.length=n)(hn:n<=8)(ha:At w a (P.flatMap bI))(ha':At w a' (Q.flatMap bI))
 (Aa:∀x∈P,Fit B x) (Ab:∀x∈Q,Fit B x) (hB:B<=10000000) (hT:aH w):
 Calls Tryz.prog 157 #[.slice a n cap,.slice a' n cap'] w λe w'=>e=.returned (bL (ov (P.map az) (Q.map az) n))/\Bw w w':=by
 have GC:∀c∈P.map az,Sm B c:=λc hc=>by obtain⟨x,hx,rfl⟩:=List.mem_map.1 hc;exact(Aa x hx).2
 have GD:∀c∈Q.map az,Sm B c:=λc hc=>by obtain⟨x,hx,rfl⟩:=List.mem_map.1 hc;exact(Ab x hx).2
 have mQ:=λk=>Mj GC GD k;have hstep:∀k (h1:k<P.length) (h2:k<Q.length),ov (P.map az) (Q.map az) (k+1)=ov (P.map az) (Q.map az) k+(az P[k]-az Q[k]) * (az P[k]-az Q[k]):=λk h1 h2=>by
  have e1:(P.map az).getD k 0=az P[k]:=by simp[h1]
  have e2:(Q.map az).getD k 0=az Q[k]:=by simp[h2]
  rw[ov,e1,e2]
 have hs0:ov (P.map az) (Q.map az) 0=0:=rfl;obtain⟨F,hF⟩:=aG (ov (P.map az) (Q.map az));rw[hF]at hs0⊢;simp only[hF]at mQ hstep;obtain⟨HP,HQ,Ha,ud,El,Em,HT,NS,fW,BR⟩:=tM hP hQ ha ha' Aa Ab hT mQ hstep hs0;clear hP hQ ha ha' Aa Ab hT mQ hstep hs0 hF GC GD;obtain⟨W,cg,Hb,Hr,Hs⟩:=iq w 39 [ag false,.string ⟨#[]⟩,af 0] 39 [ag false,.string ⟨#[]⟩,af 0];obtain⟨r0,aj,r1,ak,r2,aF⟩:=Hr.out.g3;obtain⟨s0,bf,s1,bg,s2,bB⟩:=Hs.out.g3;go_enter Tryz.func157,Tryz.ntmps157;go_wp2_with fail;clear r0 aj r1 ak r2 aF s0 bf s1 bg s2 bB;first|refine cf (bC W (w.heap.size+1) 0 [ag false,.string ⟨#[]⟩,af 0]) bJ ?_|refine bZ (bC W (w.heap.size+1) 0 [ag false,.string ⟨#[]⟩,af 0]) bJ ?_
 intro w1 hs;replace Hr:=kS Hr hs zo;replace Hs:=bP Hs hs;obtain⟨r0,aj,r1,ak,r2,aF⟩:=Hr.out.g3;obtain⟨s0,bf,s1,bg,s2,bB⟩:=Hs.out.g3;replace Hb:=bS Hb hs ZS;clear hs;have lr:=Hr.out.lt;have ls:=Hs.out.lt;go_wp2_with fail;go_loopw[11] (λi wr=>∃(k:Nat) (X:Dyadic),k<=n/\i=af (k:Int)/\F k=X/\ar wr w.heap.size 39 [ag false,.string ⟨#[]⟩,af 0]/\ar wr (w.heap.size+1) 39 (bI (canon X))/\Bw w wr) (λi _=>n-(intOf i).toNat);case atStart=>exact⟨0,0,Nat.zero_le _,rfl,BR.out,Hr.out,Hs.out,Hb.out⟩
 case round=>
  clear r0 r1 r2 aj ak aF s0 s1 s2 bf bg bB Hr Hs;obtain⟨k,X,hk,rfl,hX,pr,ps,pb⟩:=hrel;by_cases hlt:k<n
  . have k1:k<P.length:=by rw[HP.out];exact hlt
    have k2:k<Q.length:=by rw[HQ.out];exact hlt
    obtain⟨sp,mp,ep,gV⟩:=oW (P[k]);obtain⟨sq,mq,eq,mo⟩:=oW (Q[k]);have fH:=El.out _ (List.getElem_mem k1);have jo:=Em.out _ (List.getElem_mem k2);have hst:=fW.out k k1 k2;rw[gV]at fH hst;rw[mo]at jo hst;obtain⟨D,hD⟩:=aG (az (sp,mp,ep)-az (sq,mq,eq));obtain⟨E,hE⟩:=aG (D*D);obtain⟨Y,hY⟩:=aG (X+E);rw[hX,hD,hE,hY]at hst;have eV:Sm (B+1) D:=by rw[<-hD];exact Sm.sub fH.2 jo.2
    have fN:Sm (2*B+2) E:=by rw[<-hE];exact(Sm.mul eV eV).mono zo
    have dM:Sm (2*B+2+k) X:=by rw[<-hX];exact NS.out k
    obtain⟨b1,o1,eG,p0,p1,p2⟩:=(Ha.out.below pb).num k k1 gV;obtain⟨b2,o2,fA,q0,q1,q2⟩:=(ud.out.below pb).num k k2 mo;have nQ:=tL n cap k (k:Int) eG hlt rfl;have kJ:=tL n cap' k (k:Int) fA hlt rfl;have Hp:Hid (bH wr b1 (o1+k*3) [ag sp,ah mp,af ep]):=kv p0 p1 p2;have Hq:Hid (bH wr b2 (o2+k*3) [ag sq,ah mq,af eq]):=kv q0 q1 q2;obtain⟨nz,rq,HD,HE,HY,bX,DT,DU,pI,Hr⟩:=tM fH jo hD hE hY hst eV fN dM pr;have Hs:Hid (ar wr (w.heap.size+1) 39 [ag (au (dN X)),ah (nt (dN X).natAbs),af (dE X)]):=ps;obtain⟨fP,dV⟩:=aO pb (HT.out.below pb);have Mp:=pb.size;clear pr ps pb fH jo hst hD hE hY eV fN dM p0 p1 p2 q0 q1 q2 gV mo hX eG fA;have Hb:Hid (Bw wr wr):=Below.refl _ _;go_upto_region 5 with fail
    go_cut[7] (λs7 wx=>∃g:Nat,s7=.pointer (some ⟨g,0,none⟩)/\wr.heap.size<=g/\ar wx g 39 [ag (au (dN D)),ah (nt (dN D).natAbs),af (dE D)]/\Bw wr wx);case first=>
     have p0:wr.cell? ⟨b1,o1+k*3,none⟩=some (ag sp):=Hp.out.cell 0 zm;have p1:wr.cell? ⟨b1,o1+k*3+1,none⟩=some (ah mp):=Hp.out.cell 1 zm;have p2:wr.cell? ⟨b1,o1+k*3+2,none⟩=some (af ep):=Hp.out.cell 2 zm;have q0:wr.cell? ⟨b2,o2+k*3,none⟩=some (ag sq):=Hq.out.cell 0 zm;have q1:wr.cell? ⟨b2,o2+k*3+1,none⟩=some (ah mq):=Hq.out.cell 1 zm;have q2:wr.cell? ⟨b2,o2+k*3+2,none⟩=some (af eq):=Hq.out.cell 2 zm;obtain⟨p0,p1,p2⟩:=Hp.out.w3;obtain⟨q0,q1,q2⟩:=Hq.out.w3;refine Mx (λw'=>aC w' b1 (o1+k*3) (ag sp)/\aC w' b1 (o1+k*3+1) (ah mp)/\aC w' b1 (o1+k*3+2) (af ep)/\aC w' b2 (o2+k*3) (ag sq)/\aC w' b2 (o2+k*3+1) (ah mq)/\aC w' b2 (o2+k*3+2) (af eq)) (λi=>Nat.blt i 10) 8 9 [(9,false),(10,false)] [(8,false),(10,false)] [0,1,2,3,4,5,6,7] zk zk rfl rfl zk zc ⟨p0,p1,p2,q0,q1,q2⟩ ?_;iterate 8 (refine Mc rfl rfl (v:=?_) (λw' hw'=>?_) ?_;rotate_left;(focus obtain⟨q0,q1,q2,q3,q4,q5⟩:=hw';go_simp;try with_reducible rfl))
     refine Mb rfl rfl rfl rfl (λK hK=>?_) (λK hK=>?_)
     . go_simp;with_reducible refine(EZ sp mp ep sq mq eq D B HD.out _ nz.out rq.out zo (by first|exact dV.out|exact aH.drew dV.out|exact aH.alloc dV.out _|exact aH.drew (aH.alloc dV.out _) |exact aH.alloc (aH.drew dV.out) _)).mono ?_
       rintro e w5 ⟨rfl,hq⟩;have cn:Bw wr w5:=aW hq;refine hK _ _ ⟨cell_later cn p0,cell_later cn p1,cell_later cn p2,cell_later cn q0,cell_later cn q1,cell_later cn q2⟩ ?_
       refine aI rfl rfl (λK hK=>?_);go_simp;refine hK _ _ (λ_=>⟨aL (cell_later cn p0),aL (cell_later cn p1),aL (cell_later cn p2),aL (cell_later cn q0),aL (cell_later cn q1),aL (cell_later cn q2)⟩) ?_
       refine aI rfl rfl (λK hK=>?_);go_simp;refine hK _ _ (λh=>absurd h zd) ?_;simp only[bi];go_wp2_with fail;go_meet;exact⟨w5.heap.size,rfl,cn.size,ar.new _ _ _,cn.alloc cn.size _⟩
     . go_simp;refine hK _ _ ⟨aL p0,aL p1,aL p2,aL q0,aL q1,aL q2⟩ ?_
       refine aI rfl rfl (λK hK=>?_);go_simp;with_reducible refine(EZ sp mp ep sq mq eq D B HD.out _ nz.out rq.out zo (by first|exact dV.out|exact aH.drew dV.out|exact aH.alloc dV.out _|exact aH.drew (aH.alloc dV.out _) |exact aH.alloc (aH.drew dV.out) _)).mono ?_
       rintro e w5 ⟨rfl,hq⟩;have cn:Bw wr w5:=rE hq;have Hn:ar w5 wr.heap.size 39 [ag false,.string ⟨#[]⟩,af 0]:=ar.below (ar.new wr.drew 39 [ag false,.string ⟨#[]⟩,af 0]) hq;obtain⟨n0,gv,n1,gw,n2,gy⟩:=Hn.g3;refine hK _ _ (λ_=>⟨cell_later cn p0,cell_later cn p1,cell_later cn p2,cell_later cn q0,cell_later cn q1,cell_later cn q2⟩) ?_
       refine aI rfl rfl (λK hK=>?_);go_simp;refine hK _ _ (λh=>absurd h zd) ?_;simp only[bi];go_wp2_with fail;go_meet;exact⟨wr.heap.size,rfl,Nat.le_refl _,((Hn.set 0 _).set 1 _).set 2 _,((cn.sc wr.heap.size 0 (Nat.le_refl _) _).sc wr.heap.size 1 (Nat.le_refl _) _).sc wr.heap.size 2 (Nat.le_refl _) _⟩
    case rest=>
     obtain⟨g,rfl,hg,qd,qb⟩:=hcut;have Ek:Hid (Fit (B+1) (au (dN D),nt (dN D).natAbs,dE D)):=DT.out.fit zo;have Ni:Hid (Fit (2*B+10) (au (dN X),nt (dN X).natAbs,dE X)):=(pI.out.mono zo).fit zo;have Ng:Hid (Fit (2*B+10) (au (dN E),nt (dN E).natAbs,dE E)):=(DU.out.mono zo).fit zo;have Nw:Hid (az (au (dN D),nt (dN D).natAbs,dE D) *az (au (dN D),nt (dN D).natAbs,dE D)=E):=by show az (canon D) *az (canon D)=E;rw[bD];exact HE.out
     have MG:Hid (az (au (dN X),nt (dN X).natAbs,dE X)+az (au (dN E),nt (dN E).natAbs,dE E)=Y):=by show az (canon X)+az (canon E)=Y;rw[bD,bD];exact HY.out
     have RX:=Hs.out.lt;replace Hr:=ai (Hr.out.below qb);replace Hs:=ai (Hs.out.below qb);have Hd:=ai qd;replace dV:=ai (dV.out.below qb);clear Hb;have Hb:=ai (aJ fP.out qb);have lg:=Hd.out.lt;clear qd qb;obtain⟨r0,r1,r2⟩:=Hr.out.c3;obtain⟨s0,bf,s1,bg,s2,bB⟩:=Hs.out.g3;obtain⟨d0,d1,d2⟩:=Hd.out.c3;have dV:Hid (aH wc):=dV.out;go_wp2_with fail;refine bR (λw'=>aC w' (w.heap.size+1) 0 (ag (au (dN X)))/\aC w' (w.heap.size+1) 1 (ah (nt (dN X).natAbs))/\aC w' (w.heap.size+1) 2 (af (dE X))/\aC w' g 0 (ag (au (dN D)))/\aC w' g 1 (ah (nt (dN D).natAbs))/\aC w' g 2 (af (dE D))) (λi=>Nat.blt i 7) [(0,true),(1,true),(2,true),(3,false),(4,false),(5,false),(6,false),(7,false)] zk zk rfl zk zc ⟨s0,s1,s2,d0,d1,d2⟩ ?_;iterate 3 (refine pT rfl rfl ?_ (by intro w' ⟨q0,q1,q2,q3,q4,q5⟩;go_simp;try with_reducible rfl))
     refine aI rfl rfl (λK hK=>?_);go_simp;refine hK _ _ (λ_=>⟨aL s0,aL s1,aL s2,aL d0,aL d1,aL d2⟩) ?_;clear hK K
     refine bV (λw6=>ar w6 (wc.heap.size) 39 [ag (au (dN D)),ah (nt (dN D).natAbs),af (dE D),ag (au (dN D)),ah (nt (dN D).natAbs),af (dE D)]/\Bw wc w6) (by first|exact fe|exact fg) ?_;rintro w6 ⟨qm1,ae⟩;clear r0 r1 r2 s0 bf s1 bg s2 bB d0 d1 d2;have avN:=Hr.out.lt;have avS:=Hs.out.lt;have au8:=Hd.out.lt;replace Hr:=kB Hr ae;replace Hs:=kB Hs ae;replace Hd:=kB Hd ae;replace dV:=kT dV ae;have pM:=ai qm1;clear qm1;obtain⟨r0,r1,r2⟩:=Hr.out.c3;obtain⟨s0,bf,s1,bg,s2,bB⟩:=Hs.out.g3;obtain⟨d0,d1,d2⟩:=Hd.out.c3;obtain⟨ya,yb,yc,uK,uL,m15⟩:=pM.out.c6;replace Hb:=aB Hb ae;clear ae;refine aI rfl rfl (λK hK=>?_);go_simp;with_reducible refine(xh _ _ _ _ _ _ E (B+1) Nw.out _ 2 _ _ Ek.out Ek.out zo pM.out (by first|exact dV.out|exact aH.drew dV.out|exact aH.alloc dV.out _|exact aH.drew (aH.alloc dV.out _) |exact aH.alloc (aH.drew dV.out) _)).mono ?_
     rintro e w7 ⟨rfl,hq⟩;have ae:Bw w6 w7:=by first|exact hq|exact aW hq
     clear r0 r1 r2 s0 bf s1 bg s2 bB d0 d1 d2 ya yb yc uK uL m15;obtain⟨Hr,r0,r1,r2⟩:=aQ Hr ae;obtain⟨Hs,s0,bf,s1,bg,s2,bB⟩:=aN Hs ae;obtain⟨Hd,d0,d1,d2⟩:=aQ Hd ae;replace dV:=kT dV ae;obtain⟨pM,ya,yb,yc,uK,uL,m15⟩:=fU pM ae;replace Hb:=aB Hb ae;clear ae;refine hK _ _ (λ_=>⟨s0,s1,s2,d0,d1,d2⟩) ?_;clear hK K
     refine aI rfl rfl (λK hK=>?_);go_simp;refine hK _ _ (λ_=>⟨aL s0,aL s1,aL s2,aL d0,aL d1,aL d2⟩) ?_;clear hK K
     refine bV (λw8=>ar w8 (w7.heap.size) 39 [ag (au (dN X)),ah (nt (dN X).natAbs),af (dE X),ag (au (dN E)),ah (nt (dN E).natAbs),af (dE E)]/\Bw w7 w8) (by first|exact fe|exact fg) ?_;rintro w8 ⟨qm2,ae⟩;clear r0 r1 r2 s0 bf s1 bg s2 bB d0 d1 d2 ya yb yc uK uL m15;have avO:=Hr.out.lt;have avT:=Hs.out.lt;have au9:=Hd.out.lt;have avr:=pM.out.lt;replace Hr:=kB Hr ae;replace Hs:=kB Hs ae;replace Hd:=kB Hd ae;replace dV:=kT dV ae;replace pM:=kB pM ae;have yQ:=ai qm2;clear qm2;obtain⟨r0,r1,r2⟩:=Hr.out.c3;obtain⟨s0,bf,s1,bg,s2,bB⟩:=Hs.out.g3;obtain⟨d0,d1,d2⟩:=Hd.out.c3;obtain⟨ya,yb,yc,uK,uL,m15⟩:=pM.out.c6;obtain⟨LL,LM,LN,LO,LP,LQ⟩:=yQ.out.c6;replace Hb:=aB Hb ae;clear ae;refine aI rfl rfl (λK hK=>?_);go_simp;with_reducible refine(Cq _ _ _ _ _ _ Y (2*B+10) MG.out _ 2 _ _ Ni.out Ng.out zo yQ.out (by first|exact dV.out|exact aH.drew dV.out|exact aH.alloc dV.out _|exact aH.drew (aH.alloc dV.out _) |exact aH.alloc (aH.drew dV.out) _)).mono ?_
     rintro e w9 ⟨rfl,hq⟩;have ae:Bw w8 w9:=by first|exact hq|exact aW hq
     clear r0 r1 r2 s0 bf s1 bg s2 bB d0 d1 d2 ya yb yc uK uL m15 LL LM LN LO LP LQ;obtain⟨Hr,r0,r1,r2⟩:=aQ Hr ae;obtain⟨Hs,s0,bf,s1,bg,s2,bB⟩:=aN Hs ae;obtain⟨Hd,d0,d1,d2⟩:=aQ Hd ae;replace dV:=kT dV ae;obtain⟨pM,ya,yb,yc,uK,uL,m15⟩:=fU pM ae;obtain⟨yQ,LL,LM,LN,LO,LP,LQ⟩:=fU yQ ae;replace Hb:=aB Hb ae;clear ae;refine hK _ _ (λ_=>⟨s0,s1,s2,d0,d1,d2⟩) ?_;clear hK K
     refine aI rfl rfl (λK hK=>?_);go_simp;refine hK _ _ (λh=>absurd h zd) ?_;clear hK K
     clear r0 r1 r2 s0 bf s1 bg s2 bB d0 d1 d2 ya yb yc uK uL m15 LL LM LN LO LP LQ;refine bV (bC w9 (w.heap.size+1) 0 [ag (au (dN Y)),ah (nt (dN Y).natAbs),af (dE Y)]) bJ ?_;intro dQ hs;replace Hr:=kS Hr hs zo;replace Hs:=bP Hs hs;replace Hd:=kS Hd hs zo;replace pM:=kS pM hs zo;replace yQ:=kS yQ hs zo;obtain⟨r0,r1,r2⟩:=Hr.out.c3;obtain⟨s0,bf,s1,bg,s2,bB⟩:=Hs.out.g3;obtain⟨d0,d1,d2⟩:=Hd.out.c3;obtain⟨ya,yb,yc,uK,uL,m15⟩:=pM.out.c6;obtain⟨LL,LM,LN,LO,LP,LQ⟩:=yQ.out.c6;replace Hb:=bS Hb hs ZS;clear hs;simp only[bi];go_wp2;go_roundw;case rel=>exact⟨k+1,Y,by omega,by go_num,bX.out,Hr.out,Hs.out,Hb.out⟩
     case measure=>simp[intOf];omega
  . obtain rfl:k=n:=by omega
    have Hr:=ai pr;have Hs:Hid (ar wr (w.heap.size+1) 39 [ag (au (dN X)),ah (nt (dN X).natAbs),af (dE X)]):=ps;have HX:=ai hX;replace Hb:=ai pb;clear pr ps pb hX;obtain⟨r0,aj,r1,ak,r2,aF⟩:=Hr.out.g3;obtain⟨s0,s1,s2⟩:=Hs.out.c3;go_wp2;clear r0 aj r1 ak r2 aF s0 s1 s2;refine dW (bC wr (w.heap.size) 0 [ag (au (dN X)),ah (nt (dN X).natAbs),af (dE X)]) bJ ?_;intro w9 hs;replace Hr:=bP Hr hs;replace Hs:=kS Hs hs zo;obtain⟨r0,aj,r1,ak,r2,aF⟩:=Hr.out.g3;obtain⟨s0,s1,s2⟩:=Hs.out.c3;replace Hb:=bS Hb hs ZS;clear hs;refine bodyPost_ret (v:=bL X) (by simp[results,Tryz.results157,go_sem,r0,r1,r2]) rfl ⟨by rw[HX.out],Hb.out⟩
end Go.Proofs.YtoopepmmepmfnaaGreatDoor
