/- Small facts that many walks share: numbers in memory,windows,own rows. -/
import Derived.Test.YtoopepmmepmfnaaGreatDoorZ9
import Derived.Test.YtoopepmmepmfnaaGreatDoorZ10
import Derived.Test.YtoopepmmepmfnaaGreatDoorZ7
import Derived.Carry
import Derived.Maps.AppendAt
import Derived.Maps.OwnIn
import Derived.Maps.Own
import Derived.Maps.Views
import Derived.Maps.Keyed
import Derived.Maps.OwnSet
import Derived.Shelf.Abstract
import Derived.Shelf.RegionOpen
import Derived.OwnWalkIn
import Derived.TacticsInMore
import Derived.LoopNIn
import Derived.LoopIn
import Derived.Lib.BufferWrite
import Derived.Deep.WholeRow
import Derived.Test.YtoopepmmepmfnaaGreatDoorZ5
set_option linter.unusedVariables false
set_option linter.unusedSimpArgs false
set_option maxRecDepth 100000
set_option maxHeartbeats 16000000
namespace Go.Proofs.YtoopepmmepmfnaaGreatDoor
open Go.RowKit
attribute [local go_sem ↓] Go.wp_at_zero Go.wp_at_succ
def hp (k:Nat):Dyadic:=Dyadic.ofIntWithPrec 1 k
theorem Im (D:Dyadic)(k:Nat):ar (ai (dN D),nt (dN D).natAbs,dE D+ -(k:Int))=D*hp k:=by
 have h:=bL D;unfold ar canon at h;unfold ar hp;simp only[dI]at h⊢;conv=>rhs;rw[<-h]
 rw[tP,Int.mul_one];congr 1;omega
theorem Gr (k:Nat):Sm (k+1) (hp k):=by
 refine⟨2,?_,?_⟩
 . unfold hp;rw[<-qE 1 1 k];rfl
 . have:2^2<=2^(2* (k+1)):=Nat.pow_le_pow_right zd zo;omega
theorem Tryz.arF :(Tryz.prog.info? 39).map (λi=>(i.zero,i.size,i.bytes))=some (some (.agg #[.bool false,.string (bs []),.int .i64 0]),3,32):=by kernel_rfl
def dC (ds:List Dyadic):List Value:=ds.flatMap λd=>cg (canon d)
theorem afD (ds:List Dyadic):(dC ds).length=ds.length*3:=mf _ 3 (λ_=>rfl) ds
theorem Lm (a b:List Dyadic):dC (a++b)=dC a++dC b:=by unfold dC;rw[List.flatMap_append]
theorem Yn {Y:Nat->Prop}{W W':World}{base:Nat}{e:TypeId}{size:Nat}{v:Value}{n:Nat}{xs:List Value}(h:W.ownsRow base e size v n xs)(hc:Chg Y W W')(hy:∀b,v.ownBlock=some b->¬Y b):W'.ownsRow base e size v n xs:=by
 refine⟨h.1,?_⟩;rcases h.2 with h1|⟨g,cap,cur,rfl,hb,hg,h2,h3,h4,h5⟩
 . exact .inl h1
 . exact .inr ⟨g,cap,cur,rfl,hb,(hc.block g (Array.getElem?_eq_some_iff.1 hg).1 (hy g rfl)).trans hg,h2,h3,h4,h5⟩
theorem eH {W:World}{base:Nat}{e:TypeId}{size:Nat}{v:Value}{n:Nat}{xs:List Value}(h:W.ownsRow base e size v n xs):∃a cap,v=.slice a n cap/\At W a xs/\∀b o,a=some ⟨b,o,none⟩->base<=b:=by
 rcases h.2 with⟨rfl,rfl⟩ |⟨g,cap,cur,rfl,hb,hg,h2,h3,h4,h5⟩
 . refine⟨none,0,rfl,.inl ?_,λb o e=>by cases e⟩;have:=h.1;simpa using this
 . refine⟨_,cap,rfl,.inr ⟨g,0,rfl,λj hj=>?_⟩,λb o e=>by cases e;exact hb⟩;have:=h.cells (g:=g) rfl j (xs[j]) (by simp[hj]);rw[Nat.zero_add];have e2:((⟨g,0,none⟩:Addr).add j)=⟨g,j,none⟩:=by simp[Addr.add];omega
   rw[e2]at this;rw[this];simp[hj]
def bO (w:World)(b o:Nat)(cs:List Value):Prop:=∀j (h:j<cs.length),w.cell? ⟨b,o+j,none⟩=some cs[j]
theorem bO.cell {w:World}{b o:Nat}{cs:List Value}(h:bO w b o cs)(j:Nat)(hj:j<cs.length):w.cell? ⟨b,o+j,none⟩=some cs[j]:=h j hj
theorem bO.w1 {w:World}{b o:Nat}{x0:Value}(h:bO w b o [x0]):w.cell? ⟨b,o,none⟩=some x0:=h 0 zm
theorem bO.w2 {w:World}{b o:Nat}{x0 x1:Value}(h:bO w b o [x0,x1]):w.cell? ⟨b,o,none⟩=some x0/\w.cell? ⟨b,o+1,none⟩=some x1:=⟨h 0 zm,h 1 zm⟩
theorem bO.w3 {w:World}{b o:Nat}{x0 x1 x2:Value}(h:bO w b o [x0,x1,x2]):w.cell? ⟨b,o,none⟩=some x0/\w.cell? ⟨b,o+1,none⟩=some x1/\w.cell? ⟨b,o+2,none⟩=some x2:=⟨h 0 zm,h 1 zm,h 2 zm⟩
theorem bO.w4 {w:World}{b o:Nat}{x0 x1 x2 x3:Value}(h:bO w b o [x0,x1,x2,x3]):w.cell? ⟨b,o,none⟩=some x0/\w.cell? ⟨b,o+1,none⟩=some x1/\w.cell? ⟨b,o+2,none⟩=some x2/\w.cell? ⟨b,o+3,none⟩=some x3:=⟨h 0 zm,h 1 zm,h 2 zm,h 3 zm⟩
theorem bO.below {w w':World}{b o:Nat}{cs:List Value}(h:bO w b o cs)(hb:Bw w w'):bO w' b o cs:=λj hj=>cell_later hb (h j hj)
theorem kW {w w':World}{b o:Nat}{cs:List Value}(h:Hid (bO w b o cs))(k:Bw w w'):Hid (bO w' b o cs):=h.out.below k
theorem bO.arB {w:World}{b o:Nat}{cs:List Value}(h:bO w b o cs)(a:Addr)(hne:b≠a.block)(u:Value):bO (w.setCell a u) b o cs:=λj hj=>fp hne (h j hj)
theorem Oa {w w':World}{b c p o:Nat}{cs vs:List Value}(h:Hid (bO w b c cs))(k:aY w p o vs w')(n:p≠b):Hid (bO w' b c cs):=by
 have g:∀(vs:List Value) (o:Nat) (w:World),bO w b c cs->bO (tZ p o vs w) b c cs:=by
  intro vs;induction vs with
  |nil=>intro o w h;exact h
  |cons v vs ih=>intro o w h;exact ih _ _ (h.arB ⟨p,o,none⟩ (λe=>n e.symm) v)
 rcases k with rfl|rfl
 . exact g vs o _ h.out
 . exact g vs o w.drew h.out
theorem afE (ds:List Dyadic)(i:Nat)(D:Dyadic):(((dC ds).set (i*3) (.bool (ai (dN D)))).set (i*3+1) (.string (bs (nt (dN D).natAbs)))).set (i*3+2) (.int .i64 (dE D))=dC (ds.set i D):=by
 induction ds generalizing i with
 |nil=>simp[dC]
 | cons x ds ih=>
   have e:∀y:Dyadic,∀zs,dC (y::zs)=.bool (ai (dN y))::.string (bs (nt (dN y).natAbs))::.int .i64 (dE y)::dC zs:=λy zs=>rfl;cases i with
   |zero=>rw[e];rfl
   |succ i=>rw[List.set_cons_succ,e,e,<-ih i,show(i+1) *3=i*3+1+1+1 by omega];rfl
theorem Bt (ds:List Dyadic):dC ds=(ds.map canon).flatMap cg:=by unfold dC;rw[List.flatMap_map]
theorem dx {P:Program}{fn:Func}{R:Ending->World->Prop}{e:Exit}{a:Act}{W:World}(S:World->Prop)(hS:S W)(h:∀W',S W'->bodyPost P fn R e a W'):bodyPost P fn R e a W:=h W hS
theorem aj.not_row {W:World}{B:Nat}{t e:TypeId}{cs:List Value}(h:aj W B t cs)(hte:t≠e){base size k:Nat}{v:Value}{xs:List Value}(hr:W.ownsRow base e size v k xs):some B≠v.ownBlock:=by
 rcases hr.2 with⟨rfl,_⟩ |⟨g,cap,cur,rfl,_,hgb,_⟩
 . simp[Value.ownBlock]
 . intro e';simp only[Value.ownBlock,Option.some.injEq]at e';subst e';have:=h.symm.trans hgb;simp at this;exact hte this.2
theorem aj.row {W W':World}{B:Nat}{t e:TypeId}{cs:List Value}(h:aj W B t cs)(hte:t≠e){base size k:Nat}{v:Value}{xs:List Value}(hr:W.ownsRow base e size v k xs)(hg:W.grownBy W' v.ownBlock):aj W' B t cs:=
 h.grown hg (h.not_row hte hr)
theorem ownsRow_below {W W':World}{base:Nat}{e:TypeId}{size:Nat}{v:Value}{n:Nat}{xs:List Value}(h:W.ownsRow base e size v n xs)(hb:Bw W W'):W'.ownsRow base e size v n xs:=by refine Yn (Y:=λ_=>False) h (Chg.of_below hb) (λ_ _ h=>h)
theorem eI {W:World}{base:Nat}{e:TypeId}{size:Nat}{v:Value}{n:Nat}{xs:List Value}(h:W.ownsRow base e size v n xs):∀k,v.ownBlock=some k->base<=k:=λk hk=>(h.lt k hk).1
theorem oM {w:World}{b o:Nat}{x y z:Value}(h0:w.cell? ⟨b,o,none⟩=some x)(h1:w.cell? ⟨b,o+1,none⟩=some y)(h2:w.cell? ⟨b,o+2,none⟩=some z):bO w b o [x,y,z]:=by
 intro j hj;rcases j with _|_|_|j
 . exact h0
 . exact h1
 . exact h2
 . simp at hj;omega
theorem jK {W:World}{b:Nat}{t:TypeId}{cs:List Value}(h:aj W b t cs):∀j u,cs[j]?=some u->W.cell? ((⟨b,0,none⟩:Addr).add j)=some u:=by
 intro j u hj;have e2:((⟨b,0,none⟩:Addr).add j)=⟨b,j,none⟩:=by simp[Addr.add];omega
 rw[e2,h.cell];exact hj
theorem At.num {W:World}{a:Option Addr}{ej:List Raw}(h:At W a (ej.flatMap cg))(k:Nat)(hk:k<ej.length){s:Bool}{m:List UInt8}{e:Int}(hx:ej[k]=(s,m,e)):
 ∃b o,a=some ⟨b,o,none⟩/\W.cell? ⟨b,o+k*3,none⟩=some (.bool s)/\W.cell? ⟨b,o+k*3+1,none⟩=some (.string (bs m))/\W.cell? ⟨b,o+k*3+2,none⟩=some (.int .i64 e):=by
 obtain⟨b,o,ha,hc⟩:=h.elem (f:=cg) (sz:=3) (λ_=>rfl) zd k hk;rw[hx]at hc;exact⟨b,o,ha,by simpa[cg]using hc 0 zd,by simpa[cg]using hc 1 zd,by simpa[cg]using hc 2 zd⟩
theorem TH {B:Nat}{cs:List Dyadic}(h:∀c∈cs,Sm B c)(k:Nat):Sm B (cs.getD k 0):=by
 by_cases hk:k<cs.length
 . have:cs.getD k 0=cs[k]:=by simp[hk]
   rw[this];exact h _ (List.getElem_mem hk)
 . have:cs.getD k 0=0:=by simp[List.getD_eq_getElem?_getD,List.getElem?_eq_none (by omega:cs.length<=k)]
   rw[this];exact Sm.zero B
end Go.Proofs.YtoopepmmepmfnaaGreatDoor
namespace Go.Proofs.YtoopepmmepmfnaaGreatDoor
abbrev Pr:=Dyadic ×Dyadic
def bj (s:Raw×Raw):Pr:=(ar s.1,ar s.2)
def dK (p:Pr):Raw×Raw:=(canon p.1,canon p.2)
theorem Zf (p:Pr):bj (dK p)=p:=by unfold bj dK;rw[bL,bL]
def fx (p:Pr):Pr:=if 0<aP (p.1-p.2)then(p.2,p.1)else p
def oL (p:Pr):Dyadic:=(fx p).2-(fx p).1
def jT (p:Pr):Dyadic:=(p.1+p.2) *hp 1
theorem XI (p:Pr):jT (fx p)=jT p:=by
 unfold fx jT;split
 . show(p.2+p.1) *hp 1=_;rw[show p.2+p.1=p.1+p.2 by grind]
 . rfl
def iN (bx:List Pr):Int:=if bx=[]then 1 else if bx.any (λp=>decide (0<=aP (p.1-p.2)))then 5 else 0
def ez (f:Nat->Dyadic):Nat->Nat
 |0=>0
 |k+1=>if 0<aP (f k-f (ez f k))then k else ez f k
theorem ET (X:Dyadic):0<aP X↔0<X:=by
 have h1:=yA X;have h2:=Tq X;constructor
 . intro h;have a1:¬X<0:=λhx=>by have:=h1.2 hx;omega
   have a2:X≠0:=λhx=>by have:=h2.2 hx;omega
   grind
 . intro h;have a1:¬aP X<0:=λhx=>by have:=h1.1 hx;grind
   have a2:aP X≠0:=λhx=>by have:=h2.1 hx;grind
   omega
theorem Zu (a b:Dyadic):0<a-b↔b<a:=by grind
theorem Be (f:Nat->Dyadic)(L:Nat)(hL:1<=L):ez f L<L/\(∀k,k<L->¬f (ez f L)<f k)/\∀k,k<ez f L->f k<f (ez f L):=by
 induction L with
 |zero=>omega
 | succ L ih=>
   by_cases h0:L=0
   . subst h0;have e:ez f 1=0:=by unfold ez ez;simp
     rw[e]
     exact ⟨by omega, fun k hk => by have:k=0:=by omega
                                     subst this;grind,λk hk=>absurd hk zo⟩
   . obtain⟨i1,i2,i3⟩:=ih zo;show(if 0<aP (f L-f (ez f L))then L else ez f L)<L+1/\_
     have e:ez f (L+1)=if 0<aP (f L-f (ez f L))then L else ez f L:=rfl
     rw[e];by_cases h:0<aP (f L-f (ez f L))
     . rw[if_pos h];have h2:f (ez f L)<f L:=(Zu _ _).1 ((ET _).1 h);refine⟨by omega,λk hk=>?_,λk hk=>?_⟩
       . by_cases wI:k=L
         . subst wI;grind
         . have:=i2 k zo;grind
       . have:=i2 k zo;grind
     . rw[if_neg h];have h2:¬f (ez f L)<f L:=λh3=>h ((ET _).2 ((Zu _ _).2 h3));refine⟨by omega,λk hk=>?_,i3⟩;by_cases wI:k=L
       . subst wI;exact h2
       . exact i2 k zo
def mZ (bx:List Pr)(a:Nat)(up:Bool):List Pr:=(bx.map fx).set a (if up then(jT (bx.getD a (0,0)),(fx (bx.getD a (0,0))).2)else((fx (bx.getD a (0,0))).1,jT (bx.getD a (0,0))))
theorem ahs (bx:List Pr)(a:Nat)(up:Bool):(mZ bx a up).length=bx.length:=by simp[mZ]
def mN (bx:List Pr):Nat:=ez (λi=>oL (bx.getD i (0,0))) bx.length
def rX (bx:List Pr):Nat->List Pr
 |0=>bx
 |k+1=>mZ (rX bx k) (mN (rX bx k)) false
def js (bx:List Pr)(k:Nat):Nat:=mN (rX bx k)
theorem Iq (bx:List Pr)(k:Nat):(rX bx k).length=bx.length:=by
 induction k with
 |zero=>rfl
 |succ k ih=>show(mZ _ _ _).length=_;rw[ahs,ih]
theorem aec (bx:List Pr)(k:Nat)(h:bx≠[]):js bx k<bx.length:=by
 have h1:1<=(rX bx k).length:=by rw[Iq];exact List.length_pos_iff.2 h
 have:=(Be (λi=>oL ((rX bx k).getD i (0,0))) _ h1).1;rw[Iq]at this;unfold js mN;rw[Iq];exact this
def gj (bx:List Pr):Nat->Nat->Nat
 |0,_=>0
 |k+1,i=>gj bx k i+(if i=js bx k then 1 else 0)
theorem Pz (bx:List Pr)(k i:Nat):gj bx k i<=k:=by
 induction k with
 |zero=>exact Nat.le_refl _
 |succ k ih=>unfold gj;split<;>omega
def mV (B:Nat)(bx:List Pr):Prop:=∀p∈bx,Sm B p.1/\Sm B p.2
theorem tO {B:Nat}{p:Pr}(h:Sm B p.1/\Sm B p.2):Sm B (fx p).1/\Sm B (fx p).2:=by
 unfold fx;split
 . exact⟨h.2,h.1⟩
 . exact h
theorem XJ {B:Nat}{p:Pr}(h:Sm B p.1/\Sm B p.2):Sm (B+3) (jT p):=(Sm.mul (Sm.add h.1 h.2) (Gr 1)).mono zo
theorem aab {B:Nat}{p:Pr}(h:Sm B p.1/\Sm B p.2):Sm (B+1) (oL p):=Sm.sub (tO h).2 (tO h).1
theorem mV.mono {B B':Nat}{bx:List Pr}(h:mV B bx)(hb:B<=B'):mV B' bx:=λp hp=>⟨(h p hp).1.mono hb,(h p hp).2.mono hb⟩
theorem mV.get {B:Nat}{bx:List Pr}(h:mV B bx)(a:Nat):Sm B (bx.getD a (0,0)).1/\Sm B (bx.getD a (0,0)).2:=by
 by_cases ha:a<bx.length
 . have e:bx.getD a (0,0)=bx[a]:=by simp[ha]
   rw[e];exact h _ (List.getElem_mem ha)
 . have e:bx.getD a (0,0)=(0,0):=by simp[List.getD_eq_getElem?_getD,List.getElem?_eq_none (by omega:bx.length<=a)]
   rw[e];exact⟨Sm.zero _,Sm.zero _⟩
theorem aht {B:Nat}{bx:List Pr}(h:mV B bx)(a:Nat)(up:Bool):mV (B+3) (mZ bx a up):=by
 intro p hp;rcases List.mem_or_eq_of_mem_set hp with h1|h1
 . obtain⟨q,hq,rfl⟩:=List.mem_map.1 h1;exact⟨(tO (h q hq)).1.mono zo,(tO (h q hq)).2.mono zo⟩
 . have h2:=h.get a;subst h1;cases up
   . exact⟨(tO h2).1.mono zo,XJ h2⟩
   . exact⟨XJ h2,(tO h2).2.mono zo⟩
theorem Zn {B:Nat}{bx:List Pr}(h:mV B bx)(k:Nat):mV (B+3*k) (rX bx k):=by
 induction k with
 |zero=>exact h
 |succ k ih=>exact(aht ih _ _).mono zo
def qA (c:Nat->Bool)(d:Nat):Nat->Nat->Option Nat
 |0,_=>none
 |f+1,q=>if 1024<d*q then none else if c q then some (d*q)else qA c d f (q+1)
def xe (c:Nat->Bool)(d:Nat):Option Nat:=qA c d 1026 0
def oK (g:Dyadic)(ds:Nat->Dyadic)(t:Nat->Nat):Nat->Dyadic
 |0=>0
 |i+1=>oK g ds t i+g*ds i*hp (t i)
end Go.Proofs.YtoopepmmepmfnaaGreatDoor
namespace Go.Proofs.YtoopepmmepmfnaaGreatDoor
open Go.RowKit
attribute [local go_sem ↓] Go.wp_at_zero Go.wp_at_succ
def idxFrom (p:Value->Bool):List Value->Nat->Int
 |[],_=>-1
 |v::l,k=>if p v then(k:Int)else idxFrom p l (k+1)
theorem NV (p:Value->Bool)(l:List Value)(k n:Nat)(h:n<l.length):idxFrom p (l.drop n) k=if p l[n]then(k:Int)else idxFrom p (l.drop (n+1)) (k+1):=by rw[List.drop_eq_getElem_cons h];rfl
theorem WS (p:Value->Bool)(l:List Value)(k:Nat):decide (0<=idxFrom p l k)=l.any p:=by
 induction l generalizing k with
 |nil=>rfl
 | cons v l ih=>
   unfold idxFrom;rw[List.any_cons];by_cases h:p v=true
   . rw[if_pos h,h,Bool.true_or];simp
   . rw[if_neg h,ih];simp[h]
theorem aio (a:Option Addr)(n cap:Nat)(vals:List Value)(gf:Nat)(lb:Array Value)(p:Value->Bool)(w:World)(hn:vals.length=n)(hl:n<=1099511627776)(ha:At w a vals)
 (eg:∀args w,(callFunc gf args).run Tryz.prog w=.ok (.enter gf args) w)
 (hcl:∀v∈vals,∀W,Bw w W->Calls Tryz.prog gf (#[v]++lb) W λe w'=>e=.returned (.bool (p v))/\Bw W w'):
 Calls Tryz.prog 178 #[.slice a n cap,.func (.func gf) #[] lb] w λe w'=>e=.returned (.int .i64 (idxFrom p vals 0))/\Bw w w':=by
 obtain⟨Hn,Ha,gm,kO⟩:=cQ hn ha hcl eg;clear hn ha hcl eg;have Hb:Hid (Bw w w):=Below.refl _ _;go_enter Tryz.func178,Tryz.ntmps178;go_wp2_with fail;go_loopw[5,8] (λ_ i wr=>∃k:Nat,k<=n/\i=.int .i64 (k:Int)/\idxFrom p vals 0=idxFrom p (vals.drop k) k/\Bw w wr) (λ_ i _=>n-(intOf i).toNat);case atStart=>exact⟨0,Nat.zero_le _,rfl,rfl,Hb.out⟩
 case round=>
  clear Hb;obtain⟨k,hk,rfl,fX,pb⟩:=hrel;obtain⟨lR,Hb⟩:=aI fX pb;clear fX pb;by_cases hlt:k<n
  . have bG:k<vals.length:=by rw[Hn.out];exact hlt
    obtain⟨b,o,hab,hcs⟩:=(Ha.out.below Hb.out).get (by intro h;rw[h]at bG;simp at bG);obtain⟨v,hv⟩:=aB (vals[k]);have hc0:wr.cell? ⟨b,o+k,none⟩=some v:=by rw[hcs k bG,List.getElem?_eq_getElem bG,hv]
    have bB:=uV n cap k (k:Int) hab hlt rfl;rw[Nat.mul_one]at bB;have hcall:=gm.out v (by rw[<-hv];exact List.getElem_mem bG) wr Hb.out;have hstep:=NV p vals k k bG;rw[hv,<-lR.out]at hstep;obtain⟨eN,jr⟩:=aI hstep hcall;have lQ:=kO.out;clear hcs hab hv hstep hcall;go_wp2_with fail;refine jr.out.mono ?_;rintro e w1 ⟨rfl,hb1⟩;replace Hb:=af (aH Hb.out hb1);clear hb1 hc0 bB lQ;obtain⟨t,ht⟩:=aB (p v);rw[ht]at eN⊢;clear ht;cases t with
    |true=>go_wp2;refine bodyPost_ret (results_tmp rfl _ _ _) rfl ⟨?_,Hb.out⟩;have h:=eN.out;rw[if_pos (by trivial)]at h;rw[h];rfl
    | false=>
      go_wp2;go_roundw;case rel=>exact⟨k+1,by omega,by go_num,by have h:=eN.out;rw[if_neg zd]at h;exact h,Hb.out⟩
      case measure=>simp[intOf];omega
  . obtain rfl:k=n:=by omega
    go_wp2;refine bodyPost_ret (results_tmp rfl _ _ _) rfl ⟨?_,Hb.out⟩;have h:=lR.out;rw[List.drop_of_length_le (by rw[Hn.out];exact Nat.le_refl _)]at h;rw[h];rfl
theorem afs (a:Option Addr)(n cap:Nat)(vals:List Value)(gf:Nat)(lb:Array Value)(p:Value->Bool)(w:World)(hn:vals.length=n)(hl:n<=1099511627776)(ha:At w a vals)
 (eg:∀args w,(callFunc gf args).run Tryz.prog w=.ok (.enter gf args) w)
 (hcl:∀v∈vals,∀W,Bw w W->Calls Tryz.prog gf (#[v]++lb) W λe w'=>e=.returned (.bool (p v))/\Bw W w'):
 Calls Tryz.prog 140 #[.slice a n cap,.func (.func gf) #[] lb] w λe w'=>e=.returned (.bool (vals.any p))/\Bw w w':=by
 have h1:=aio a n cap vals gf lb p w hn hl ha eg hcl;rw[<-WS p vals 0];generalize idxFrom p vals 0=i at*;have H1:=af h1;clear h1 hcl eg ha hn;have Hb:Hid (Bw w w):=Below.refl _ _;go_enter Tryz.func140,Tryz.ntmps140;go_wp2_with fail;refine(H1.out).mono ?_;rintro e w1 ⟨rfl,ae⟩;replace Hb:=ak Hb ae;clear ae;go_wp2;refine bodyPost_ret (v:=.bool (decide (0<=i))) (by simp[results,Tryz.results140,go_sem]) rfl ⟨rfl,?_⟩;(repeat first|exact Hb.out| (refine Below.setCell ?_ (by have:=Hb.out.size;first| (dsimp only;omega) | (show _<=_;omega) | (simp<;>omega)) _) | (refine Below.alloc ?_ zt _) |refine Below.drew ?_)
theorem ain (a:Option Addr)(n cap:Nat)(vals:List Value)(gf:Nat)(lb:Array Value)(p:Value->Bool)(w:World)(hn:vals.length=n)(hl:n<=1099511627776)(ha:At w a vals)
 (eg:∀args w,(callFunc gf args).run Tryz.prog w=.ok (.enter gf args) w)
 (hcl:∀v∈vals,∀W,Bw w W->Calls Tryz.prog gf (#[v]++lb) W λe w'=>e=.returned (.bool (p v))/\Bw W w'):
 Calls Tryz.prog 206 #[.slice a n cap,.func (.func gf) #[] lb] w λe w'=>e=.returned (.int .i64 (idxFrom p vals 0))/\Bw w w':=by
 obtain⟨Hn,Ha,gm,kO⟩:=cQ hn ha hcl eg;clear hn ha hcl eg;have Hb:Hid (Bw w w):=Below.refl _ _;go_enter Tryz.func206,Tryz.ntmps206;go_wp2_with fail;go_loopw[5,8] (λ_ i wr=>∃k:Nat,k<=n/\i=.int .i64 (k:Int)/\idxFrom p vals 0=idxFrom p (vals.drop k) k/\Bw w wr) (λ_ i _=>n-(intOf i).toNat);case atStart=>exact⟨0,Nat.zero_le _,rfl,rfl,Hb.out⟩
 case round=>
  clear Hb;obtain⟨k,hk,rfl,fX,pb⟩:=hrel;obtain⟨lR,Hb⟩:=aI fX pb;clear fX pb;by_cases hlt:k<n
  . have bG:k<vals.length:=by rw[Hn.out];exact hlt
    obtain⟨b,o,hab,hcs⟩:=(Ha.out.below Hb.out).get (by intro h;rw[h]at bG;simp at bG);obtain⟨v,hv⟩:=aB (vals[k]);have hc0:wr.cell? ⟨b,o+k,none⟩=some v:=by rw[hcs k bG,List.getElem?_eq_getElem bG,hv]
    have bB:=za n cap k (k:Int) hab hlt rfl;rw[Nat.mul_one]at bB;have hcall:=gm.out v (by rw[<-hv];exact List.getElem_mem bG) wr Hb.out;have hstep:=NV p vals k k bG;rw[hv,<-lR.out]at hstep;obtain⟨eN,jr⟩:=aI hstep hcall;have lQ:=kO.out;clear hcs hab hv hstep hcall;go_wp2_with fail;refine jr.out.mono ?_;rintro e w1 ⟨rfl,hb1⟩;replace Hb:=af (aH Hb.out hb1);clear hb1 hc0 bB lQ;obtain⟨t,ht⟩:=aB (p v);rw[ht]at eN⊢;clear ht;cases t with
    |true=>go_wp2;refine bodyPost_ret (results_tmp rfl _ _ _) rfl ⟨?_,Hb.out⟩;have h:=eN.out;rw[if_pos (by trivial)]at h;rw[h];rfl
    | false=>
      go_wp2;go_roundw;case rel=>exact⟨k+1,by omega,by go_num,by have h:=eN.out;rw[if_neg zd]at h;exact h,Hb.out⟩
      case measure=>simp[intOf];omega
  . obtain rfl:k=n:=by omega
    go_wp2;refine bodyPost_ret (results_tmp rfl _ _ _) rfl ⟨?_,Hb.out⟩;have h:=lR.out;rw[List.drop_of_length_le (by rw[Hn.out];exact Nat.le_refl _)]at h;rw[h];rfl
theorem afr (a:Option Addr)(n cap:Nat)(vals:List Value)(gf:Nat)(lb:Array Value)(p:Value->Bool)(w:World)(hn:vals.length=n)(hl:n<=1099511627776)(ha:At w a vals)
 (eg:∀args w,(callFunc gf args).run Tryz.prog w=.ok (.enter gf args) w)
 (hcl:∀v∈vals,∀W,Bw w W->Calls Tryz.prog gf (#[v]++lb) W λe w'=>e=.returned (.bool (p v))/\Bw W w'):
 Calls Tryz.prog 179 #[.slice a n cap,.func (.func gf) #[] lb] w λe w'=>e=.returned (.bool (vals.any p))/\Bw w w':=by
 have h1:=ain a n cap vals gf lb p w hn hl ha eg hcl;rw[<-WS p vals 0];generalize idxFrom p vals 0=i at*;have H1:=af h1;clear h1 hcl eg ha hn;have Hb:Hid (Bw w w):=Below.refl _ _;go_enter Tryz.func179,Tryz.ntmps179;go_wp2_with fail;refine(H1.out).mono ?_;rintro e w1 ⟨rfl,ae⟩;replace Hb:=ak Hb ae;clear ae;go_wp2;refine bodyPost_ret (v:=.bool (decide (0<=i))) (by simp[results,Tryz.results179,go_sem]) rfl ⟨rfl,?_⟩;(repeat first|exact Hb.out| (refine Below.setCell ?_ (by have:=Hb.out.size;first| (dsimp only;omega) | (show _<=_;omega) | (simp<;>omega)) _) | (refine Below.alloc ?_ zt _) |refine Below.drew ?_)
theorem aim (a:Option Addr)(n cap:Nat)(vals:List Value)(gf:Nat)(lb:Array Value)(p:Value->Bool)(w:World)(hn:vals.length=n)(hl:n<=1099511627776)(ha:At w a vals)
 (eg:∀args w,(callFunc gf args).run Tryz.prog w=.ok (.enter gf args) w)
 (hcl:∀v∈vals,∀W,Bw w W->Calls Tryz.prog gf (#[v]++lb) W λe w'=>e=.returned (.bool (p v))/\Bw W w'):
 Calls Tryz.prog 181 #[.slice a n cap,.func (.func gf) #[] lb] w λe w'=>e=.returned (.int .i64 (idxFrom p vals 0))/\Bw w w':=by
 obtain⟨Hn,Ha,gm,kO⟩:=cQ hn ha hcl eg;clear hn ha hcl eg;have Hb:Hid (Bw w w):=Below.refl _ _;go_enter Tryz.func181,Tryz.ntmps181;go_wp2_with fail;go_loopw[5,8] (λ_ i wr=>∃k:Nat,k<=n/\i=.int .i64 (k:Int)/\idxFrom p vals 0=idxFrom p (vals.drop k) k/\Bw w wr) (λ_ i _=>n-(intOf i).toNat);case atStart=>exact⟨0,Nat.zero_le _,rfl,rfl,Hb.out⟩
 case round=>
  clear Hb;obtain⟨k,hk,rfl,fX,pb⟩:=hrel;obtain⟨lR,Hb⟩:=aI fX pb;clear fX pb;by_cases hlt:k<n
  . have bG:k<vals.length:=by rw[Hn.out];exact hlt
    obtain⟨b,o,hab,hcs⟩:=(Ha.out.below Hb.out).get (by intro h;rw[h]at bG;simp at bG);obtain⟨v,hv⟩:=aB (vals[k]);have hc0:wr.cell? ⟨b,o+k,none⟩=some v:=by rw[hcs k bG,List.getElem?_eq_getElem bG,hv]
    have bB:=ze n cap k (k:Int) hab hlt rfl;rw[Nat.mul_one]at bB;have hcall:=gm.out v (by rw[<-hv];exact List.getElem_mem bG) wr Hb.out;have hstep:=NV p vals k k bG;rw[hv,<-lR.out]at hstep;obtain⟨eN,jr⟩:=aI hstep hcall;have lQ:=kO.out;clear hcs hab hv hstep hcall;go_wp2_with fail;refine jr.out.mono ?_;rintro e w1 ⟨rfl,hb1⟩;replace Hb:=af (aH Hb.out hb1);clear hb1 hc0 bB lQ;obtain⟨t,ht⟩:=aB (p v);rw[ht]at eN⊢;clear ht;cases t with
    |true=>go_wp2;refine bodyPost_ret (results_tmp rfl _ _ _) rfl ⟨?_,Hb.out⟩;have h:=eN.out;rw[if_pos (by trivial)]at h;rw[h];rfl
    | false=>
      go_wp2;go_roundw;case rel=>exact⟨k+1,by omega,by go_num,by have h:=eN.out;rw[if_neg zd]at h;exact h,Hb.out⟩
      case measure=>simp[intOf];omega
  . obtain rfl:k=n:=by omega
    go_wp2;refine bodyPost_ret (results_tmp rfl _ _ _) rfl ⟨?_,Hb.out⟩;have h:=lR.out;rw[List.drop_of_length_le (by rw[Hn.out];exact Nat.le_refl _)]at h;rw[h];rfl
def Pt (w:World)(v:Value)(ej:List Raw):Prop:=∃a cap,v=.slice a ej.length cap/\At w a (ej.flatMap cg)
theorem Pt.below {w w':World}{v:Value}{ej:List Raw}(h:Pt w v ej)(hb:Bw w w'):Pt w' v ej:=
 let ⟨a,cap,hv,ha⟩:=h;⟨a,cap,hv,ha.below hb⟩
def cF (w:World)(a:Option Addr)(rows:List (List Raw)):Prop:=∃vals:List Value,vals.length=rows.length/\At w a vals/\∀i (h:i<rows.length) (h':i<vals.length),Pt w vals[i] rows[i]
theorem cF.below {w w':World}{a:Option Addr}{rows:List (List Raw)}(h:cF w a rows)(hb:Bw w w'):cF w' a rows:=
 let ⟨vals,hl,ha,hp⟩:=h;⟨vals,hl,ha.below hb,λi h1 h2=>(hp i h1 h2).below hb⟩
theorem kL {w w':World}{a:Option Addr}{rows:List (List Raw)}(h:Hid (cF w a rows))(k:Bw w w'):Hid (cF w' a rows):=h.out.below k
theorem cF.row {w:World}{a:Option Addr}{rows:List (List Raw)}(h:cF w a rows)(k:Nat)(hk:k<rows.length):
 ∃b o a' cap',a=some ⟨b,o,none⟩/\w.cell? ⟨b,o+k,none⟩=some (.slice a' rows[k].length cap')/\At w a' (rows[k].flatMap cg):=by
 obtain⟨vals,hl,ha,hp⟩:=h;have hk2:k<vals.length:=by rw[hl];exact hk
 obtain⟨b,o,hab,hcs⟩:=ha.get (by intro h0;rw[h0]at hk2;simp at hk2);obtain⟨a',cap',hv,hat⟩:=hp k hk hk2;exact⟨b,o,a',cap',hab,by rw[hcs k hk2,List.getElem?_eq_getElem hk2,hv],hat⟩
def uW :Value->Int
 | .slice _ n _=>n
 |_=>0
def xo (N:Int)(v:Value):Bool:=decide (uW v≠N)
theorem Sk {w:World}{vals:List Value}{rows:List (List Raw)}(N:Int)(hl:vals.length=rows.length)(hp:∀i (h:i<rows.length) (h':i<vals.length),Pt w vals[i] rows[i]):
 vals.any (xo N)=rows.any λr=>decide ((r.length:Int)≠N):=by
 induction vals generalizing rows with
 |nil=>have:rows=[]:=List.length_eq_zero_iff.1 hl.symm;subst this;rfl
 | cons v vs ih=>
   match rows,hl with
   |r::rs,hl=>have h0:=hp 0 zm zm;obtain⟨a,cap,hv,_⟩:=h0;have hv':v=.slice a r.length cap:=hv;have:=ih (rows:=rs) (by simpa using hl) (λi h h'=>hp (i+1) zi zi);rw[List.any_cons,List.any_cons,this];subst hv';rfl
theorem am1 (bn:Nat)(N:Int)(a:Option Addr)(n cap:Nat)(w:World)(hN:w.cell? ⟨bn,0,none⟩=some (.int .i64 N)):
 Calls Tryz.prog 139 #[.slice a n cap,.pointer (some ⟨bn,0,none⟩)] w λe w'=>e=.returned (.bool (xo N (.slice a n cap)))/\Bw w w':=by
 have Hb:Hid (Bw w w):=Below.refl _ _;go_enter Tryz.func139,Tryz.ntmps139;go_wp2;refine bodyPost_ret (results_tmp rfl _ _ _) rfl ⟨?_,Hb.out⟩;simp only[xo,uW];by_cases h:(n:Int)=N<;>simp[h]
def mL (rows:List (List Raw)):Int:=
 let n:Int:=rows.length-1
 if n<1\/8<n\/(rows.any λr=>decide ((r.length:Int)≠n))then 0 else n
theorem PH (a:Option Addr)(L cap:Nat)(rows:List (List Raw))(w:World)(hL:rows.length=L)(hl:L<=1099511627776)(ha:cF w a rows):
 Calls Tryz.prog 93 #[.slice a L cap] w λe w'=>e=.returned (.int .i64 (mL rows))/\Bw w w':=by
 obtain⟨vals,hvl,hat,hp⟩:=ha;have wA:=λN=>Sk (w:=w) N hvl hp;have hcl:∀(bn:Nat) (W:World),W.cell? ⟨bn,0,none⟩=some (.int .i64 ((L:Int)-1))->At W a vals->Calls Tryz.prog 140 #[.slice a L cap,.func (.func 139) #[] #[.pointer (some ⟨bn,0,none⟩)]] W λe w'=>e=.returned (.bool (rows.any λr=>decide ((r.length:Int)≠(L:Int)-1)))/\Bw W w':=by intro bn W hc hA;rw[<-wA];refine afs a L cap vals 139 #[.pointer (some ⟨bn,0,none⟩)] (xo ((L:Int)-1)) W (by rw[hvl,hL]) hl hA (enters_of Tryz.func139 zk rfl) (λv hv W' hb=>?_);obtain⟨i,hi,rfl⟩:=List.mem_iff_getElem.1 hv;obtain⟨a',cap',e,_⟩:=hp i (by rw[<-hvl];exact hi) hi;rw[e];exact am1 bn _ a' _ cap' W' (cell_later hb hc)
 have hv:mL rows=if(L:Int)-1<1\/8<(L:Int)-1\/(rows.any λr=>decide ((r.length:Int)≠(L:Int)-1))=true then 0 else(L:Int)-1:=by unfold mL;rw[hL]
 obtain⟨T,hT⟩:=aB (rows.any λr=>decide ((r.length:Int)≠(L:Int)-1));rw[hT]at hv;simp only[hT]at hcl;obtain⟨gm,eJ,Hv⟩:=cG hcl hat hv;obtain⟨V,hV⟩:=aB (mL rows);rw[hV]at Hv⊢;clear hcl hat hv wA hvl hp hL hT hV;obtain⟨W,bU,Hb,Hn⟩:=gL w 3 [.int .i64 ((L:Int)-1)];have n0:=Hn.out.c1;go_enter Tryz.func93,Tryz.ntmps93;by_cases h1:(L:Int)-1<1
 . have hv:=Hv.out;rw[if_pos (.inl h1)]at hv;subst hv;go_wp2;refine bodyPost_ret (v:=.int .i64 0) (by simp[results,Tryz.results93,go_sem]) rfl ⟨rfl,?_⟩;(repeat first|exact Hb.out| (refine Below.setCell ?_ (by have:=Hb.out.size;first| (dsimp only;omega) | (show _<=_;omega) | (simp<;>omega)) _) | (refine Below.alloc ?_ zt _) |refine Below.drew ?_)
 . by_cases h2:8<(L:Int)-1
   . have hv:=Hv.out;rw[if_pos (.inr (.inl h2))]at hv;subst hv;go_wp2;refine bodyPost_ret (v:=.int .i64 0) (by simp[results,Tryz.results93,go_sem]) rfl ⟨rfl,?_⟩;(repeat first|exact Hb.out| (refine Below.setCell ?_ (by have:=Hb.out.size;first| (dsimp only;omega) | (show _<=_;omega) | (simp<;>omega)) _) | (refine Below.alloc ?_ zt _) |refine Below.drew ?_)
   . have jr:=af (gm.out w.heap.size W n0 (eJ.out.below Hb.out));go_wp2_with fail;refine(jr.out).mono ?_;rintro e w1 ⟨rfl,ae⟩;clear n0;replace Hn:=kB Hn ae;have n0:=Hn.out.c1;replace Hb:=ak Hb ae;clear ae;cases T with
     |true=>have hv:=Hv.out;rw[if_pos (.inr (.inr rfl))]at hv;subst hv;go_wp2;refine bodyPost_ret (v:=.int .i64 0) (by simp[results,Tryz.results93,go_sem]) rfl ⟨rfl,?_⟩;(repeat first|exact Hb.out| (refine Below.setCell ?_ (by have:=Hb.out.size;first| (dsimp only;omega) | (show _<=_;omega) | (simp<;>omega)) _) | (refine Below.alloc ?_ zt _) |refine Below.drew ?_)
     |false=>have hv:=Hv.out;rw[if_neg (by rintro(h|h|h);omega;omega;cases h)]at hv;subst hv;go_wp2;refine bodyPost_ret (v:=.int .i64 ((L:Int)-1)) (by simp[results,Tryz.results93,go_sem]) rfl ⟨rfl,?_⟩;(repeat first|exact Hb.out| (refine Below.setCell ?_ (by have:=Hb.out.size;first| (dsimp only;omega) | (show _<=_;omega) | (simp<;>omega)) _) | (refine Below.alloc ?_ zt _) |refine Below.drew ?_)
theorem ajK (bn:Nat)(a0:Option Addr)(N c0:Nat)(a:Option Addr)(n cap:Nat)(w:World)(hN:w.cell? ⟨bn,0,none⟩=some (.slice a0 N c0)):
 Calls Tryz.prog 180 #[.slice a n cap,.pointer (some ⟨bn,0,none⟩)] w λe w'=>e=.returned (.bool (xo (N:Int) (.slice a n cap)))/\Bw w w':=by
 have Hb:Hid (Bw w w):=Below.refl _ _;go_enter Tryz.func180,Tryz.ntmps180;go_wp2;refine bodyPost_ret (results_tmp rfl _ _ _) rfl ⟨?_,Hb.out⟩;simp only[xo,uW];by_cases h:(n:Int)=(N:Int)<;>simp[h]
def tJ (rows:List (List Raw)):Int:=if 8<rows.length\/(rows.any λr=>decide ((r.length:Int)≠(rows.length:Int)))then 1 else 0
theorem Ou (a:Option Addr)(L cap:Nat)(rows:List (List Raw))(w:World)(hL:rows.length=L)(hl:L<=1099511627776)(ha:cF w a rows):
 Calls Tryz.prog 141 #[.slice a L cap] w λe w'=>e=.returned (.int .i64 (tJ rows))/\Bw w w':=by
 obtain⟨vals,hvl,hat,hp⟩:=ha;have wA:=λN=>Sk (w:=w) N hvl hp;have hcl:∀(bn:Nat) (W:World),W.cell? ⟨bn,0,none⟩=some (.slice a L cap)->At W a vals->Calls Tryz.prog 179 #[.slice a L cap,.func (.func 180) #[] #[.pointer (some ⟨bn,0,none⟩)]] W λe w'=>e=.returned (.bool (rows.any λr=>decide ((r.length:Int)≠(L:Int))))/\Bw W w':=by intro bn W hc hA;rw[<-wA];refine afr a L cap vals 180 #[.pointer (some ⟨bn,0,none⟩)] (xo (L:Int)) W (by rw[hvl,hL]) hl hA (enters_of Tryz.func180 zk rfl) (λv hv W' hb=>?_);obtain⟨i,hi,rfl⟩:=List.mem_iff_getElem.1 hv;obtain⟨a',cap',e,_⟩:=hp i (by rw[<-hvl];exact hi) hi;rw[e];exact ajK bn a L cap a' _ cap' W' (cell_later hb hc)
 have hv:tJ rows=if 8<L\/(rows.any λr=>decide ((r.length:Int)≠(L:Int)))=true then 1 else 0:=by unfold tJ;rw[hL]
 obtain⟨T,hT⟩:=aB (rows.any λr=>decide ((r.length:Int)≠(L:Int)));rw[hT]at hv;simp only[hT]at hcl;obtain⟨gm,eJ,Hv⟩:=cG hcl hat hv;obtain⟨V,hV⟩:=aB (tJ rows);rw[hV]at Hv⊢;clear hcl hat hv wA hvl hp hL hT hV;obtain⟨W,bU,Hb,Hn⟩:=gL w 124 [.slice a L cap];have n0:=Hn.out.c1;go_enter Tryz.func141,Tryz.ntmps141;by_cases h1:8<L
 . have hv:=Hv.out;rw[if_pos (.inl h1)]at hv;subst hv;have h2:(8:Int)<(L:Int):=by omega
   go_wp2;refine bodyPost_ret (v:=.int .i64 1) (by simp[results,Tryz.results141,go_sem]) rfl ⟨rfl,?_⟩;(repeat first|exact Hb.out| (refine Below.setCell ?_ (by have:=Hb.out.size;first| (dsimp only;omega) | (show _<=_;omega) | (simp<;>omega)) _) | (refine Below.alloc ?_ zt _) |refine Below.drew ?_)
 . have h2:¬(8:Int)<(L:Int):=by omega
   have jr:=af (gm.out w.heap.size W n0 (eJ.out.below Hb.out));go_wp2_with fail;refine(jr.out).mono ?_;rintro e w1 ⟨rfl,ae⟩;clear n0;replace Hn:=kB Hn ae;have n0:=Hn.out.c1;replace Hb:=ak Hb ae;clear ae;cases T with
   |true=>have hv:=Hv.out;rw[if_pos (.inr rfl)]at hv;subst hv;go_wp2;refine bodyPost_ret (v:=.int .i64 1) (by simp[results,Tryz.results141,go_sem]) rfl ⟨rfl,?_⟩;(repeat first|exact Hb.out| (refine Below.setCell ?_ (by have:=Hb.out.size;first| (dsimp only;omega) | (show _<=_;omega) | (simp<;>omega)) _) | (refine Below.alloc ?_ zt _) |refine Below.drew ?_)
   |false=>have hv:=Hv.out;rw[if_neg (by rintro(h|h);omega;cases h)]at hv;subst hv;go_wp2;refine bodyPost_ret (v:=.int .i64 0) (by simp[results,Tryz.results141,go_sem]) rfl ⟨rfl,?_⟩;(repeat first|exact Hb.out| (refine Below.setCell ?_ (by have:=Hb.out.size;first| (dsimp only;omega) | (show _<=_;omega) | (simp<;>omega)) _) | (refine Below.alloc ?_ zt _) |refine Below.drew ?_)
theorem PG {rows:List (List Raw)}{n:Int}(h:mL rows=n)(h0:n≠0):1<=n/\n<=8/\(rows.length:Int)=n+1/\∀r∈rows,(r.length:Int)=n:=by
 unfold mL at h;dsimp only at h;split at h
 . exact absurd h.symm h0
 . rename_i hc
   simp only[not_or,Bool.not_eq_true,List.any_eq_false,decide_eq_true_eq,Decidable.not_not]at hc;obtain⟨h1,h2,h3⟩:=hc;refine⟨by omega,by omega,by omega,λr hr=>?_⟩;have:=h3 r hr;omega
theorem ZT {rows:List (List Raw)}{n:Nat}(h1:rows.length=n+1)(h2:∀r∈rows,r.length=n)(h3:1<=n)(h8:n<=8):mL rows=n:=by
 unfold mL;dsimp only;rw[if_neg]
 . omega
 . rintro(h|h|h)
   . omega
   . omega
   . rw[List.any_eq_true]at h;obtain⟨r,hr,h⟩:=h;have:=h2 r hr;simp[h1,this]at h
end Go.Proofs.YtoopepmmepmfnaaGreatDoor
namespace Go.Proofs.YtoopepmmepmfnaaGreatDoor
def kV (g m:Dyadic)(ds:Nat->Dyadic)(bx:List Pr):Option Nat:=if aP (g-m)<0 then some 0 else xe (λk=>decide (aP (oK g ds (gj bx k) bx.length-m)<0)) 1
def Ib (k:Nat):Int:=2^(k+1)-1
end Go.Proofs.YtoopepmmepmfnaaGreatDoor
namespace Go.Proofs.YtoopepmmepmfnaaGreatDoor
open Go.RowKit
attribute [local go_sem ↓] Go.wp_at_zero Go.wp_at_succ
def Bv (w:World)(x:Value)(n v:Nat):Prop:=v<2^n/\((x=.slice none 0 0/\n=0)\/∃b o cap,x=.slice (some ⟨b,o,none⟩) n cap/\n<=cap/\∀j,j<n->w.cell? ⟨b,o+j,none⟩=some (.int .u8 (bd v j:Int)))
theorem Bv.below {w w':World}{x:Value}{n v:Nat}(h:Bv w x n v)(hb:Bw w w'):Bv w' x n v:=by
 refine⟨h.1,?_⟩;rcases h.2 with h|⟨b,o,cap,e,h1,hc⟩
 . exact .inl h
 . exact .inr ⟨b,o,cap,e,h1,λj hj=>cell_later hb (hc j hj)⟩
theorem Bv.arH {w:World}{base:Nat}{e:TypeId}{x:Value}{n v:Nat}(h:w.ownsRow base e 1 x n (cN n (bd v)))(hx:v<2^n):Bv w x n v:=by
 refine⟨hx,?_⟩;rcases h.2 with⟨rfl,rfl⟩ |⟨g,cap,cur,rfl,hb,hg,h2,h3,h4,h5⟩
 . exact .inl ⟨rfl,rfl⟩
 . refine .inr ⟨g,0,cap,rfl,h2,λj hj=>?_⟩;have:=h.cells (g:=g) rfl j _ (kJ n (bd v) j hj);have e2:((⟨g,0,none⟩:Addr).add j)=⟨g,j,none⟩:=by simp[Addr.add];omega
   rw[Nat.zero_add,<-e2];exact this
theorem Bv.arA {w:World}{b:Nat}{t:TypeId}{n v:Nat}(h:aj w b t (cN n (bd v)))(hv:v<2^n):Bv w (.slice (some ⟨b,0,none⟩) n n) n v:=
 ⟨hv,.inr ⟨b,0,n,rfl,Nat.le_refl _,λj hj=>by rw[Nat.zero_add,h.cell,kJ _ _ _ hj]⟩⟩
theorem YC (b o n cap v:Nat)(w:World)(hm:n<=1099511627776)(hcap:n<=cap)(hc:∀j,j<n->w.cell? ⟨b,o+j,none⟩=some (.int .u8 (bd v j:Int)))(hv:v<2^n):
 Calls Tryz.prog 168 #[.slice (some ⟨b,o,none⟩) n cap] w λe w'=>e=.returned (.slice (some ⟨b,o,none⟩) (bA v) cap)/\w=w':=by
 have Hc:=af hc;clear hc;have Hv:=af hv;clear hv;go_enter Tryz.func168,Tryz.ntmps168;go_wp2_with fail;go_loop [3] (λx=>∃k:Nat,k<=n/\v<2^k/\x=.int .i64 (k:Int)) (λx=>(intOf x).toNat)
 case atStart=>exact⟨n,Nat.le_refl _,Hv.out,rfl⟩
 case round=>
  obtain⟨k,hk,hvk,rfl⟩:=hrel;have lV:=af hvk;clear hvk;by_cases h0:0<k
  . have hcell:w.cell? ⟨b,o+(k-1),none⟩=some (.int .u8 (bd v (k-1):Int)):=Hc.out _ zo;have bB:=wY n cap (k-1) ((k:Int)-1) (rfl:(some ⟨b,o,none⟩:Option Addr)=_) zo zo;rw[Nat.mul_one]at bB;by_cases hd:bd v (k-1)=0
    . have hd':((bd v (k-1):Int)==0)=true:=by simp[hd]
      have Hd:=af hd;clear hd;go_wp2;refine⟨⟨k-1,by omega,?_,by go_num⟩,by simp[intOf];omega⟩;refine aeV ?_ Hd.out;rw[show k-1+1=k by omega];exact lV.out
    . have hd':((bd v (k-1):Int)==0)=false:=by simp[hd]
      have Hd:=af hd;clear hd;go_wp2;go_ret;have e:bA v=k:=by have:=aeG (v:=v) (k:=k-1) (by rw[show k-1+1=k by omega];exact lV.out) (aeU Hd.out);omega
      rw[e];exact⟨rfl,rfl⟩
  . obtain rfl:k=0:=by omega
    go_wp2;go_ret;have e:bA v=0:=by have:=lV.out;simp at this;subst this;rfl
    rw[e];exact⟨rfl,rfl⟩
theorem YD (w:World):
 Calls Tryz.prog 168 #[.slice none 0 0] w λe w'=>e=.returned (.slice none 0 0)/\w=w':=by
 go_enter Tryz.func168,Tryz.ntmps168;go_wp2_with fail;refine wp_loop_rounds 1 ?_;rw[rounds_succ];go_wp2;go_ret;exact⟨rfl,rfl⟩
def Ba (x:Value)(lo:Nat):Prop:=∀b o n c,x=.slice (some ⟨b,o,none⟩) n c->lo<=b
theorem OZ (x:Value)(n v:Nat)(w:World)(hm:n<=1099511627776)(hx:Bv w x n v):
 Calls Tryz.prog 168 #[x] w λe w'=>(∃y,e=.returned y/\Bv w y (bA v) v/\∀lo,Ba x lo->Ba y lo)/\w=w':=by
 have hl:=fH hx.1;rcases hx.2 with⟨rfl,rfl⟩ |⟨b,o,cap,rfl,h1,hc⟩
 . refine(YD w).mono ?_;rintro e w' ⟨rfl,rfl⟩;exact⟨⟨_,rfl,⟨nZ v,.inl ⟨rfl,by omega⟩⟩,λ_ h=>h⟩,rfl⟩
 . refine(YC b o n cap v w hm h1 hc hx.1).mono ?_;rintro e w' ⟨rfl,rfl⟩;exact⟨⟨_,rfl,⟨nZ v,.inr ⟨b,o,cap,rfl,by omega,λj hj=>hc j zo⟩⟩,λlo h b' o' n' c' e=>by cases e;exact h _ _ _ _ rfl⟩,rfl⟩
theorem alO (b o n cap v:Nat)(w:World)(hm:n<=1099511627776)(hcap:n<=cap)(hc:∀j,j<n->w.cell? ⟨b,o+j,none⟩=some (.int .u8 (bd v j:Int)))(hv:v<2^n):
 Calls Tryz.prog 119 #[.slice (some ⟨b,o,none⟩) n cap] w λe w'=>e=.returned (.string (bs (nt v)))/\Bw w w':=by
 have hle:=fH hv;have hcut:=YC b o n cap v w hm hcap hc hv;have hvl:=nZ v;have sw:Hid ((List.range ((bA v+7)/8)).map (λj=>UInt8.ofNat (v/256^((bA v+7)/8-1-j)%256))=nt v):=OC _ _ (Bh v).1 (Bh v).2;generalize hL:bA v=L at*;obtain⟨nb,hnb⟩:=aB ((L+7)/8);have hmk:=tK (((L:Int)+7)/8) nb zo zo;have Nc:((L:Int)+7)/8=(nb:Int):=by omega
 rw[Nc]at hmk;rw[hnb]at sw;obtain⟨abp,Hc,Hv,oX,HL⟩:=gT hcut hc hv hvl hL;clear hcut hc hv hvl hL;go_enter Tryz.func119,Tryz.ntmps119;go_wp2_with fail;refine abp.out.mono ?_;rintro e w' ⟨rfl,rfl⟩;go_wp2_with fail;go_loopw[4] (λi wr=>∃k:Nat,k<=L/\i=.int .i64 (k:Int)/\aj wr w.heap.size 5 (cN nb (λj=>v%2^k/256^(nb-1-j)%256))/\Bw w wr) (λi _=>L-(intOf i).toNat);case atStart=>
  refine⟨0,Nat.zero_le _,rfl,?_,zl⟩;have e:cN nb (λj=>v%2^0/256^(nb-1-j)%256)=cN nb λ_=>0:=lM λj hj=>by simp[Nat.mod_one]
  rw[e];exact aj.new _ _ _
 case round=>
  obtain⟨k,hk,rfl,hB,hb⟩:=hrel;by_cases hlt:k<L
  . have hq:k/8<nb:=by omega
    obtain⟨Z,hZ⟩:=aB (bd v k);have hZ1:Z<=1:=by rw[<-hZ];exact ry v k
    have jv:wr.cell? ⟨b,o+k,none⟩=some (.int .u8 (Z:Int)):=by rw[<-hZ];exact cell_later hb (Hc.out _ zo)
    obtain⟨A,hA⟩:=aB (v%2^k/256^(k/8)%256);have hcell:wr.cell? ⟨w.heap.size,nb-1-k/8,none⟩=some (.int .u8 (A:Int)):=by rw[hB.cell,kJ _ _ _ zo,show nb-1-(nb-1-k/8)=k/8 by omega,hA]
    have hfree:wr.frozen? ⟨w.heap.size,nb-1-k/8,none⟩=false:=hB.free _;obtain⟨hb1,hb2⟩:=ae0 v k;rw[hA,hZ]at hb1 hb2;have bR:=hB.set (nb-1-k/8) (.int .u8 ((A+Z*2^(k%8):Nat):Int));have hb3:=hb.setCell (p:=⟨w.heap.size,nb-1-k/8,none⟩) (Nat.le_refl _) (.int .u8 ((A+Z*2^(k%8):Nat):Int))
    rw[zS,lM (g:=λj=>v%2^(k+1)/256^(nb-1-j)%256) λj hj=>by
     by_cases tj:j=nb-1-k/8
     . subst tj;rw[if_pos rfl,show nb-1-(nb-1-k/8)=k/8 by omega,hb1]
     . rw[if_neg tj,ae1 v k _ zo]]at bR
    obtain⟨dR,Hb⟩:=aI bR hb3;clear hB hb bR hb3 hb1 hA hZ;have He:Hid ((((A:Int)+(Z:Int) *2^(k%8))%256)=((A+Z*2^(k%8):Nat):Int)):=by
     show _=_
     have:((Z:Int) *2^(k%8))=((Z*2^(k%8):Nat):Int):=by simp
     rw[this];omega
    clear hb2;go_wp2;go_region
    go_wp2;go_roundw;case rel=>rw[He.out];exact⟨k+1,by omega,by go_num,dR.out,Hb.out.drew⟩
    case measure=>simp[intOf];omega
  . obtain rfl:k=L:=by omega
    rw[Nat.mod_eq_of_lt oX.out]at hB;have sZ:=zR hB nb;rw[sw.out]at sZ;have Hb:=af hb;clear hb hB;go_wp2;go_ret;exact⟨rfl,Hb.out⟩
theorem alP (w:World):
 Calls Tryz.prog 119 #[.slice none 0 0] w λe w'=>e=.returned (.string (bs []))/\Bw w w':=by
 have hmk:=tK 0 0 rfl zo;have sZ:=zR (aj.new w 5 (cN 0 λ_=>0)) 0;go_enter Tryz.func119,Tryz.ntmps119;go_wp2_with fail;refine(YD w).mono ?_;rintro e w' ⟨rfl,rfl⟩;go_wp2_with fail;refine wp_loop_rounds 1 ?_;rw[rounds_succ];go_wp2;go_ret;exact⟨rfl,zl⟩
theorem tW (x:Value)(n v:Nat)(w:World)(hm:n<=1099511627776)(hx:Bv w x n v):
 Calls Tryz.prog 119 #[x] w λe w'=>e=.returned (.string (bs (nt v)))/\Bw w w':=by
 rcases hx.2 with⟨rfl,rfl⟩ |⟨b,o,cap,rfl,h1,hc⟩
 . have h0:=hx.1;obtain rfl:v=0:=by simpa using h0
   exact alP w
 . exact alO b o n cap v w hm h1 hc hx.1
theorem ZN (n:Nat)(f:Nat->Nat):cN (n+1) f=cN n f++[.int .u8 (f n:Int)]:=by unfold cN;rw[List.range_succ,List.map_append];rfl
theorem alF (N:Nat)(w:World)(hN:N<WW):
 Calls Tryz.prog 72 #[.int .u64 (N:Int)] w λe w'=>e=.returned (.string (bs (nt N)))/\Bw w w':=by
 obtain⟨i0,hi,hz0,hz1,hz2⟩:=info_parts Tryz.arE;have hNb:bA N<=64:=fH (by rw[jF]at hN;exact hN);have hW:=iL;go_enter Tryz.func72,Tryz.ntmps72;go_wp2_with fail;go_loopw[0,3] (λu v wr=>∃k:Nat,k<=bA N/\u=.int .u64 ((N/2^k:Nat):Int)/\wr.ownsRow w.heap.size 5 1 v k (cN k (bd N))/\Bw w wr) (λu _ _=>(intOf u).toNat);case atStart=>exact⟨0,Nat.zero_le _,by simp,World.ownsRow_nil _ _ _ _,Below.refl _ _⟩
 case round=>
  obtain⟨k,hk,rfl,hown,hb⟩:=hrel;obtain⟨M,hM⟩:=aB (N/2^k);have BR:M<18446744073709551616:=by have:=Nat.div_le_self N (2^k);omega
  have HM:=af hM;rw[hM];have yH:N/2^(k+1)=M/2:=by rw[Nat.pow_succ,<-Nat.div_div_eq_div_mul,hM]
  have UR:bd N k=M%2:=by unfold bd;rw[hM]
  obtain⟨vF,DV⟩:=aI yH UR;clear hM yH UR hW hN;by_cases h0:0<M
  . have Fl:(0:Int)<(M:Int):=by omega
    have hkl:k<bA N:=by
     rcases Nat.lt_or_ge k (bA N)with h|h
     . exact h
     . have h1:N<2^k:=Nat.lt_of_lt_of_le (nZ N) (Nat.pow_le_pow_right zd h);have:=HM.out;rw[Nat.div_eq_of_lt h1]at this;omega
    have hs0:=hb.size;have mU:=af hown;clear hown;go_wp2_with (first| (at_builtin;refine wpList_append_own _ rfl _ _ 94 rfl w.heap.size 5 i0 (.int .u8 0) 1 1 Tryz.underlying94 hi hz0 hz1 hz2 rfl zd _ _ _ rfl (mU.out.alloc _) ⟨wr.heap.size,0,none⟩ 1 1 [.int .u8 ((M:Int)%2)] rfl rfl (cell_one_new _ _ _) zy zx zo zi ?_;intro v' w1 ho hg _;obtain⟨Ho,Hg⟩:=aI ho hg;clear ho hg));go_roundw;case rel=>
     refine⟨k+1,by omega,?_,?_,?_⟩
     . rw[vF.out];go_num
     . rw[ZN,DV.out];have e:((M%2:Nat):Int)=(M:Int)%2:=by omega
       rw[e];exact Ho.out
     . exact(hb.alloc hs0 _).grown Hg.out zi (λj e=>eI mU.out j e)
    case measure=>simp[intOf];omega
  . obtain rfl:M=0:=by omega
    have VC:N<2^k:=by have:=HM.out;exact(Nat.div_eq_zero_iff_lt (Nat.pow_pos zd)).1 this
    obtain⟨Jo,Hb⟩:=aI (Bv.arH hown VC) hb;clear hown VC hb;go_wp2_with fail;refine(tW u3 k N wr zo Jo.out).mono ?_;rintro e w2 ⟨rfl,hb2⟩;have cE:=af hb2;clear hb2;go_wp2;go_ret;exact⟨rfl,aH Hb.out cE.out⟩
theorem KS (a:Nat)(ha:a<256):bits .and .u8 (a:Int) 1=((a%2:Nat):Int):=by
 have h1:(BitVec.ofInt 8 (a:Int)).toNat=a:=by rw[BitVec.ofInt_natCast,BitVec.toNat_ofNat];exact Nat.mod_eq_of_lt zo
 show IntKind.u8.wrap ((BitVec.ofInt 8 (a:Int)&&&BitVec.ofInt 8 1).toNat:Int)=_
 rw[BitVec.toNat_and,h1,show(BitVec.ofInt 8 1).toNat=1 from rfl,Nat.and_one_is_mod,IntKind.wrap_u8];omega
theorem nO (l:List UInt8)(w:World)(hl:l.length<=68719476736):
 Calls Tryz.prog 131 #[.string (bs l)] w λe w'=>(∃y,e=.returned y/\Bv w' y (bA (nv l)) (nv l))/\Bw w w':=by
 obtain⟨i0,hi,hz0,hz1,hz2⟩:=info_parts Tryz.arE;have hsz:(bs l).size=l.length:=mW l;go_enter Tryz.func131,Tryz.ntmps131;go_wp2_with fail;go_loopw[3,4,5] (λv i _ wr=>∃m:Nat,m<=l.length/\i=.int .i64 ((l.length:Int)-1-(m:Int))/\wr.ownsRow w.heap.size 5 1 v (8*m) (cN (8*m) (bd (nv l)))/\Bw w wr) (λ_ i _ _=>(intOf i+1).toNat);case atStart=>exact⟨0,Nat.zero_le _,by go_num,World.ownsRow_nil _ _ _ _,Below.refl _ _⟩
 case round=>
  obtain⟨m,hm,rfl,hown,hb⟩:=hrel;obtain⟨mU,Hb⟩:=aI hown hb;clear hown hb;by_cases hlt:m<l.length
  . have hge:(m:Int)<=(l.length:Int)-1:=by omega
    have fX:=zh l ((l.length:Int)-1-(m:Int)) (l.length-1-m) zo zo;have abm:Hid (∀k,k<8->l[l.length-1-m].toNat/2^k%2=bd (nv l) (8*m+k)):=λk hk=>akr l m k hlt hk;have hC:=(l[l.length-1-m]'zo).toNat_lt;generalize hCe:l[l.length-1-m].toNat=C at*;clear hCe;go_wp2_with fail;go_loopw[3,5] (λv j wr=>∃k:Nat,k<=8/\j=.int .i64 (k:Int)/\wr.ownsRow w.heap.size 5 1 v (8*m+k) (cN (8*m+k) (bd (nv l)))/\Bw w wr) (λ_ j _=>8-(intOf j).toNat);case atStart=>exact⟨0,Nat.zero_le _,rfl,mU.out,Hb.out⟩
    case round=>
     clear mU Hb;obtain⟨k,hk,rfl,hown,hb⟩:=hrel;obtain⟨mU,Hb⟩:=aI hown hb;have hs0:=hb.size;clear hown hb;by_cases hk8:k<8
     . obtain ⟨Z,hZ⟩:=aB (C/2^k%2);have hbk:=abm.out k hk8;rw[hZ]at hbk;have Am:=af hbk;clear hbk;have hand:bits .and .u8 ((C:Int)/2^k) 1=(Z:Int):=by
        have e:(C:Int)/2^k=((C/2^k:Nat):Int):=by simp
        have:=Nat.div_le_self C (2^k);rw[e,KS _ zo,hZ]
       clear hZ;go_wp2_with (first| (at_builtin;refine wpList_append_own _ rfl _ _ 94 rfl w.heap.size 5 i0 (.int .u8 0) 1 1 Tryz.underlying94 hi hz0 hz1 hz2 rfl zd _ _ _ rfl (mU.out.alloc _) ⟨wr.heap.size,0,none⟩ 1 1 [.int .u8 (Z:Int)] rfl rfl (cell_one_new _ _ _) zy zx zo zi ?_;intro v' w1 ho hg _;obtain⟨Ho,Hg⟩:=aI ho hg;clear ho hg));go_roundw;case rel=>
        refine⟨k+1,by omega,?_,?_,?_⟩
        . go_num
        . rw[<-Nat.add_assoc,ZN,<-Am.out];exact Ho.out
        . exact(Hb.out.alloc hs0 _).grown Hg.out zi (λj e=>eI mU.out j e)
       case measure=>simp[intOf];omega
     . obtain rfl:k=8:=by omega
       go_wp2;go_roundw;case rel=>exact⟨m+1,by omega,by go_num,mU.out,Hb.out⟩
       case measure=>simp[intOf];omega
  . obtain rfl:m=l.length:=by omega
    have Jo:=af (Bv.arH mU.out (mK l));clear hlt;go_wp2_with fail;refine(OZ u3 (8*l.length) (nv l) wr zo Jo.out).mono ?_;rintro e w2 ⟨⟨y,rfl,hy,_⟩,rfl⟩;have Hy:=af hy;clear hy;go_wp2;go_ret;exact⟨⟨_,rfl,Hy.out⟩,Hb.out⟩
theorem zJ (x:Value)(n v i:Nat)(w:World)(hx:Bv w x n v)(hi:i<=1099511627776)(hn:n<=1099511627776):
 Calls Tryz.prog 175 #[x,.int .i64 (i:Int)] w λe w'=>e=.returned (.int .u8 (bd v i:Int))/\w=w':=by
 obtain⟨hv,h⟩:=hx;by_cases hlt:i<n
 . rcases h with⟨rfl,h0⟩ |⟨b,o,cap,rfl,h1,hc⟩
   . omega
   . have hcell:=hc i hlt;have bB:=wY n cap i (i:Int) (rfl:(some ⟨b,o,none⟩:Option Addr)=_) hlt rfl;rw[Nat.mul_one]at bB;clear hc hv;go_enter Tryz.func175,Tryz.ntmps175;go_wp2;go_ret;exact⟨rfl,rfl⟩
 . have h0:bd v i=0:=aez hv zo;have H0:=af h0;clear h0 hv;rcases h with⟨rfl,h0⟩ |⟨b,o,cap,rfl,h1,hc⟩
   . subst h0;go_enter Tryz.func175,Tryz.ntmps175;go_wp2;go_ret;exact⟨by rw[H0.out];rfl,rfl⟩
   . clear hc;go_enter Tryz.func175,Tryz.ntmps175;go_wp2;go_ret;exact⟨by rw[H0.out];rfl,rfl⟩
theorem Bv.len {w:World}{x:Value}{n v:Nat}(h:Bv w x n v):∃a cap,x=.slice a n cap:=by
 rcases h.2 with⟨rfl,rfl⟩ |⟨b,o,cap,rfl,_⟩
 . exact⟨_,_,rfl⟩
 . exact⟨_,_,rfl⟩
theorem YB (x y:Value)(n m v u:Nat)(w:World)(hx:Bv w x n v)(hy:Bv w y m u)(hn:n<=1099511627776)(hm:m<=1099511627776):
 Calls Tryz.prog 176 #[x,y] w λe w'=>e=.returned (.int .i64 (cJ v u))/\w=w':=by
 obtain⟨a,cap,mE⟩:=hx.len;obtain⟨a',cap',CM⟩:=hy.len;have gJ:=λi (hi:i<=1099511627776)=>zJ x n v i w hx hi hn;have hby:=λi (hi:i<=1099511627776)=>zJ y m u i w hy hi hm;have hv:=hx.1;have hu:=hy.1;subst mE;subst CM;obtain⟨oO,Ap,Hv,Hu⟩:=cQ gJ hby hv hu;clear gJ hby hv hu hx hy;obtain⟨M,hM⟩:=aB (max n m);have hMI:max (n:Int) (m:Int)=(M:Int):=by omega
 have bX:Hid (v/2^M=u/2^M):=by
  show _=_
  rw[Nat.div_eq_of_lt (Nat.lt_of_lt_of_le Hv.out (Nat.pow_le_pow_right zd zo)),Nat.div_eq_of_lt (Nat.lt_of_lt_of_le Hu.out (Nat.pow_le_pow_right zd zo))]
 have BR:M<=1099511627776:=by omega
 clear hM;go_enter Tryz.func176,Tryz.ntmps176;go_wp2_with fail;go_loop [5] (λi=>∃k:Nat,k<=M/\v/2^k=u/2^k/\i=.int .i64 ((k:Int)-1)) (λi=>(intOf i+1).toNat)
 case atStart=>exact⟨M,Nat.le_refl _,bX.out,rfl⟩
 case round=>
  obtain⟨k,hk,hvk,rfl⟩:=hrel;have lV:=af hvk;clear hvk;by_cases h0:0<k
  . obtain⟨j,rfl⟩:∃j,k=j+1:=⟨k-1,by omega⟩;have gJ:=oO.out j zo;have hby:=Ap.out j zo;obtain⟨rc,Hgt,Eb⟩:=cG (λh=>Ss (v:=v) (u:=u) lV.out h) (λh=>Ss (v:=u) (u:=v) lV.out.symm h) (λh=>aey (v:=v) (u:=u) lV.out h);have hp1:=ry v j;have hq1:=ry u j;generalize bd v j=p at*;generalize bd u j=q at*;obtain⟨H1,H2⟩:=aI gJ hby;clear gJ hby;have hj:((j+1:Nat):Int)-1=(j:Int):=by omega
    rw[hj];clear hj h0;go_wp2_with fail;refine H1.out.mono ?_;rintro e w' ⟨rfl,rfl⟩;go_wp2_with fail;refine H2.out.mono ?_;rintro e w' ⟨rfl,rfl⟩;by_cases hpq:p<q
    . have ah4:(p:Int)<(q:Int):=by omega
      go_wp2;go_ret;have:=rc.out hpq;exact⟨by unfold cJ;rw[if_pos this];rfl,rfl⟩
    . have ah4:¬(p:Int)<(q:Int):=by omega
      go_wp2_with fail;refine H1.out.mono ?_;rintro e w' ⟨rfl,rfl⟩;go_wp2_with fail;refine H2.out.mono ?_;rintro e w' ⟨rfl,rfl⟩;by_cases hqp:q<p
      . have ah7:(q:Int)<(p:Int):=by omega
        go_wp2;go_ret;have:=Hgt.out hqp;exact⟨by unfold cJ;rw[if_neg zo,if_pos this];rfl,rfl⟩
      . have ah7:¬(q:Int)<(p:Int):=by omega
        go_wp2;refine⟨⟨j,by omega,Eb.out zo,by go_num⟩,by simp[intOf]⟩
  . obtain rfl:k=0:=by omega
    have he:v=u:=by simpa using lV.out
    go_wp2;go_ret;exact⟨by unfold cJ;rw[if_neg zo,if_neg zo];rfl,rfl⟩
theorem YF (x y:Value)(n m v u:Nat)(w:World)(hx:Bv w x n v)(hy:Bv w y m u)(hn:n<=1099511627776)(hm:m<=1099511627776)(tB:u<=v):
 Calls Tryz.prog 134 #[x,y] w λe w'=>(∃z,e=.returned z/\Bv w' z n (v-u)/\Ba z w.heap.size)/\Bw w w':=by
 obtain⟨a,cap,mE⟩:=hx.len;obtain⟨a',cap',CM⟩:=hy.len;have gJ:=λW (hW:Bw w W) i (hi:i<=1099511627776)=>zJ x n v i W (hx.below hW) hi hn;have hby:=λW (hW:Bw w W) i (hi:i<=1099511627776)=>zJ y m u i W (hy.below hW) hi hm;have sH:Hid (v-u<2^n):=by show _<_;have:=hx.1;omega
 subst mE;subst CM;obtain⟨oO,Ap,AW⟩:=cG gJ hby tB;clear gJ hby hx hy tB;have hmk:=tK (n:Int) n rfl zo;go_enter Tryz.func134,Tryz.ntmps134;go_wp2_with fail;go_loopw[6,7,8] (λb i _ wr=>∃k:Nat,k<=n/\i=.int .i64 (k:Int)/\b=.int .u8 (bb v u k:Int)/\aj wr w.heap.size 5 (cN n (λj=>if j<k then bd (v-u) j else 0))/\Bw w wr) (λ_ i _ _=>n-(intOf i).toNat);case atStart=>
  refine⟨0,Nat.zero_le _,rfl,by rw[aet];rfl,?_,zl⟩;have e:cN n (λj=>if j<0 then bd (v-u) j else 0)=cN n λ_=>0:=lM λj hj=>by rw[if_neg zo]
  rw[e];exact aj.new _ _ _
 case round=>
  obtain⟨k,hk,rfl,rfl,hB,hb⟩:=hrel;by_cases hlt:k<n
  . obtain⟨H1,H2⟩:=aI (oO.out wr hb k zo) (Ap.out wr hb k zo);have hs:=aes v u k;have hd:=aer v u k AW.out;have hp:=ry v k;have hq:=ry u k;have hr:=Sq v u k;have hcell:wr.cell? ⟨w.heap.size,k,none⟩=some (.int .u8 0):=by rw[hB.cell,kJ _ _ _ hlt,if_neg zo];rfl
    have hfree:wr.frozen? ⟨w.heap.size,k,none⟩=false:=hB.free _;have bR:=hB.set k (.int .u8 ((bd (v-u) k:Nat):Int))
    rw[zS,lM (g:=λj=>if j<k+1 then bd (v-u) j else 0) λj hj=>by
     by_cases e:j=k
     . subst e;rw[if_pos rfl,if_pos zo]
     . rw[if_neg e];by_cases e2:j<k
       . rw[if_pos e2,if_pos zo]
       . rw[if_neg e2,if_neg zo]]at bR
    obtain⟨dR,Hb⟩:=aI bR (hb.setCell (p:=⟨w.heap.size,k,none⟩) (Nat.le_refl _) (.int .u8 ((bd (v-u) k:Nat):Int)));clear hB bR hb;generalize bd v k=p at*;generalize bd u k=q at*;generalize bb v u k=r at*;generalize bd (v-u) k=z at*;have Hs:=af hs;clear hs;obtain⟨S,hS⟩:=aB (2+p-q-r);have hS3:S<=3:=by omega
    have hw1:IntKind.u8.wrap (2+(p:Int))=2+(p:Int):=by rw[IntKind.wrap_u8];omega
    have hw2:IntKind.u8.wrap (2+(p:Int)-(q:Int))=2+(p:Int)-(q:Int):=by rw[IntKind.wrap_u8];omega
    have hw3:IntKind.u8.wrap (2+(p:Int)-(q:Int)-(r:Int))=(S:Int):=by rw[IntKind.wrap_u8];omega
    have hand:bits .and .u8 (S:Int) 1=(z:Int):=by rw[KS S zo,<-hd];omega
    obtain⟨HS,Hd⟩:=aI hS hd;clear hS hd;go_wp2_with fail;refine H1.out.mono ?_;rintro e w' ⟨rfl,rfl⟩;go_wp2_with fail;refine H2.out.mono ?_;rintro e w' ⟨rfl,rfl⟩;go_wp2;go_roundw;case rel=>refine⟨k+1,by omega,by go_num,?_,dR.out,Hb.out⟩;rw[Hs.out];have:=HS.out;congr 1;split<;>omega
    case measure=>simp[intOf];omega
  . obtain rfl:k=n:=by omega
    rw[lM (g:=bd (v-u)) λj hj=>by rw[if_pos hj]]at hB;obtain⟨Hz,Hb⟩:=aI (Bv.arA hB sH.out) hb;clear hB hb;go_wp2;go_ret;exact⟨⟨_,rfl,Hz.out,λb o n' c e=>by cases e;exact Nat.le_refl _⟩,Hb.out⟩
end Go.Proofs.YtoopepmmepmfnaaGreatDoor
namespace Go.Proofs.YtoopepmmepmfnaaGreatDoor
open Go.RowKit
abbrev aO:=List UInt8×Raw
def bf (t:aO):List Value:=[.string (bs t.1),.bool t.2.1,.string (bs t.2.2.1),.int .i64 t.2.2.2]
theorem At.term {w:World}{a:Option Addr}{ts:List aO}(h:At w a (ts.flatMap bf))(k:Nat)(hk:k<ts.length){l:List UInt8}{s:Bool}{m:List UInt8}{e:Int}(hx:ts[k]=(l,s,m,e)):
 ∃b o,a=some ⟨b,o,none⟩/\bO w b (o+k*4) [.string (bs l),.bool s,.string (bs m),.int .i64 e]:=by
 obtain⟨b,o,hab,hcs⟩:=h.elem (f:=bf) (sz:=4) (λ_=>rfl) zd k hk;refine⟨b,o,hab,λj hj=>?_⟩;have:=hcs j hj;rw[hx]at this;rw[this];unfold bf;rw[List.getElem?_eq_getElem (by simpa using hj)]
def BG (V:Int)(l:List UInt8)(x:Raw):Bool:=gh l V&& !(aP (ar x)==0)&&(canon (ar x)==x)
def pJ (V:Int)(ts:List aO)(k:Nat):Bool:=BG V (ts.getD k default).1 (ts.getD k default).2&&(k==0||Op.bytesLess (bs (ts.getD (k-1) default).1).toList (bs (ts.getD k default).1).toList)
def xC (V:Int)(ts:List aO):Int:=if ¬(0<=V/\V<=12)then 1 else if 4096<ts.length then 3 else if(List.range ts.length).all (pJ V ts)then 0 else 1
end Go.Proofs.YtoopepmmepmfnaaGreatDoor
namespace Go.Proofs.YtoopepmmepmfnaaGreatDoor
theorem Bf (a:List UInt8):Op.bytesLess a a=false:=by
 induction a with
 |nil=>rfl
 |cons x a ih=>simp[Op.bytesLess,ih]
theorem KV {a b c:List UInt8}(h:Op.bytesLess a b=true)(k:Op.bytesLess b c=true):Op.bytesLess a c=true:=by
 induction a generalizing b c with
 | nil=>
   cases c with
   |nil=>cases b<;>simp[Op.bytesLess]at k
   |cons z c=>simp[Op.bytesLess]
 | cons x a ih=>
   cases b with
   |nil=>simp[Op.bytesLess]at h
   | cons y b=>
     cases c with
     |nil=>simp[Op.bytesLess]at k
     | cons z c=>
       simp only[Op.bytesLess,Bool.or_eq_true,Bool.and_eq_true,decide_eq_true_eq,beq_iff_eq]at h k⊢;rcases h with h|⟨rfl,h⟩
       . rcases k with k|⟨rfl,k⟩
         . exact .inl (UInt8.lt_trans h k)
         . exact .inl h
       . rcases k with k|⟨rfl,k⟩
         . exact .inl k
         . exact .inr ⟨rfl,ih h k⟩
theorem ED {a b:List UInt8}(h:Op.bytesLess a b=false)(k:Op.bytesLess b a=false):a=b:=by
 induction a generalizing b with
 | nil=>cases b with
   |nil=>rfl
   |cons y b=>simp[Op.bytesLess]at h
 | cons x a ih=>cases b with
   |nil=>simp[Op.bytesLess]at k
   | cons y b=>
     simp only[Op.bytesLess,Bool.or_eq_false_iff,Bool.and_eq_false_iff,decide_eq_false_iff_not,beq_eq_false_iff_ne]at h k;have e:x=y:=by have h1:=UInt8.not_lt.1 h.1;have h2:=UInt8.not_lt.1 k.1;exact UInt8.le_antisymm h2 h1
     subst e;rw[ih (by rcases h.2 with h|h;exact absurd rfl h;exact h) (by rcases k.2 with h|h;exact absurd rfl h;exact h)]
def Pp (x y:aO):aO:=(x.1,canon (ar x.2+ar y.2))
def vk :Nat->List aO->List aO->List aO
 |0,a,b=>a++b
 |_+1,[],b=>b
 |_+1,x::a,[]=>x::a
 |k+1,x::a,y::b=>if Op.bytesLess x.1 y.1 then x::vk k a (y::b)else if Op.bytesLess y.1 x.1 then y::vk k (x::a) b else Pp x y::vk k a b
theorem Ow (a b:List aO)(j k:Nat)(hj:a.length+b.length<=j)(hk:a.length+b.length<=k):vk j a b=vk k a b:=by
 induction j generalizing k a b with
 |zero=>have ha:a=[]:=List.length_eq_zero_iff.1 zo;have hb:b=[]:=List.length_eq_zero_iff.1 zo;subst ha;subst hb;cases k<;>rfl
 | succ j ih=>
   cases k with
   |zero=>have ha:a=[]:=List.length_eq_zero_iff.1 zo;have hb:b=[]:=List.length_eq_zero_iff.1 zo;subst ha;subst hb;rfl
   | succ k=>
     cases a with
     |nil=>rfl
     | cons x a=>cases b with
       |nil=>rfl
       |cons y b=>simp only[List.length_cons]at hj hk;simp only[vk];rw[ih a (y::b) k zi zi,ih (x::a) b k zi zi,ih a b k zo zo]
def fR (a b:List aO):List aO:=vk (a.length+b.length) a b
theorem zw (b:List aO):fR [] b=b:=by
 unfold fR;cases b with
 |nil=>rfl
 |cons y b=>rfl
theorem zz (a:List aO):fR a []=a:=by
 unfold fR;cases a with
 |nil=>rfl
 |cons y b=>rfl
theorem vp (x y:aO)(a b:List aO):fR (x::a) (y::b)=if Op.bytesLess x.1 y.1 then x::fR a (y::b)else if Op.bytesLess y.1 x.1 then y::fR (x::a) b else Pp x y::fR a b:=by
 unfold fR;rw[show(x::a).length+(y::b).length=(a.length+b.length+1)+1 by simp;omega];simp only[vk]
 rw[Ow a (y::b) (a.length+b.length+1) (a.length+(y::b).length) zi zm,Ow (x::a) b (a.length+b.length+1) ((x::a).length+b.length) zi zm,
  Ow a b (a.length+b.length+1) (a.length+b.length) zo zo]
theorem XR (a b:List aO):(fR a b).length<=a.length+b.length:=by
 obtain⟨n,hn⟩:=aB (a.length+b.length);induction n using Nat.strongRecOn generalizing a b with
 | _ n ih=>
   cases a with
   |nil=>rw[zw];simp
   | cons x a=>cases b with
     |nil=>rw[zz];simp
     | cons y b=>
       rw[vp];simp only[List.length_cons]at hn⊢;split
       . have:=ih _ (by simp only[List.length_cons];omega) a (y::b) rfl;simp only[List.length_cons]at this⊢;omega
       . split
         . have:=ih _ (by simp only[List.length_cons];omega) (x::a) b rfl;simp only[List.length_cons]at this⊢;omega
         . have:=ih _ zo a b rfl;simp only[List.length_cons]at this⊢;omega
def cB :List aO->List UInt8->Dyadic
 |[],_=>0
 |x::l,m=>(if x.1=m then ar x.2 else 0)+cB l m
theorem yx (a b:List aO)(m:List UInt8):cB (a++b) m=cB a m+cB b m:=by
 induction a with
 |nil=>simp[cB]
 |cons x a ih=>simp only[List.cons_append,cB,ih];grind
theorem SQ (a b:List aO)(m:List UInt8):cB (fR a b) m=cB a m+cB b m:=by
 obtain⟨n,hn⟩:=aB (a.length+b.length);induction n using Nat.strongRecOn generalizing a b with
 | _ n ih=>
   cases a with
   |nil=>rw[zw];simp[cB]
   | cons x a=>cases b with
     |nil=>rw[zz];simp[cB]
     | cons y b=>
       rw[vp];simp only[List.length_cons]at hn;split
       . have:=ih _ (by simp only[List.length_cons];omega) a (y::b) rfl;simp only[cB]at this⊢;rw[this];grind
       . split
         . have:=ih _ (by simp only[List.length_cons];omega) (x::a) b rfl;simp only[cB]at this⊢;rw[this];grind
         . rename_i h1 h2
           have:=ih _ zo a b rfl;have e:x.1=y.1:=ED (by simpa using h1) (by simpa using h2);simp only[cB,Pp,bL]at this⊢;rw[this,e];split<;>grind
def Up (l:List aO):Prop:=l.Pairwise λx y=>Op.bytesLess x.1 y.1=true
theorem Ia (a b:List aO):∀x∈fR a b,∃y∈a++b,y.1=x.1:=by
 obtain⟨n,hn⟩:=aB (a.length+b.length);induction n using Nat.strongRecOn generalizing a b with
 | _ n ih=>
   intro z hz;cases a with
   |nil=>rw[zw]at hz;exact⟨z,by simp[hz],rfl⟩
   | cons x a=>cases b with
     |nil=>rw[zz]at hz;exact⟨z,by simpa using hz,rfl⟩
     | cons y b=>
       rw[vp]at hz;simp only[List.length_cons]at hn;split at hz
       . rcases List.mem_cons.1 hz with rfl|hz
         . exact⟨z,by simp,rfl⟩
         . obtain⟨u,hu,e⟩:=ih _ (by simp only[List.length_cons];omega) a (y::b) rfl z hz;exact⟨u,by simp at hu⊢;rcases hu with h|h|h<;>simp[h],e⟩
       . split at hz
         . rcases List.mem_cons.1 hz with rfl|hz
           . exact⟨z,by simp,rfl⟩
           . obtain⟨u,hu,e⟩:=ih _ (by simp only[List.length_cons];omega) (x::a) b rfl z hz;exact⟨u,by simp at hu⊢;rcases hu with h|h|h<;>simp[h],e⟩
         . rcases List.mem_cons.1 hz with rfl|hz
           . exact⟨x,by simp,rfl⟩
           . obtain⟨u,hu,e⟩:=ih _ zo a b rfl z hz;exact⟨u,by simp at hu⊢;rcases hu with h|h<;>simp[h],e⟩
theorem ajV (a b:List aO)(ha:Up a)(hb:Up b):Up (fR a b):=by
 obtain⟨n,hn⟩:=aB (a.length+b.length);induction n using Nat.strongRecOn generalizing a b with
 | _ n ih=>
   cases a with
   |nil=>rw[zw];exact hb
   | cons x a=>cases b with
     |nil=>rw[zz];exact ha
     | cons y b=>
       rw[vp];simp only[List.length_cons]at hn;obtain⟨ha1,ha2⟩:=List.pairwise_cons.1 ha;obtain⟨hb1,hb2⟩:=List.pairwise_cons.1 hb;split
       . rename_i h
         refine List.pairwise_cons.2 ⟨λz hz=>?_,ih _ (by simp only[List.length_cons];omega) a (y::b) ha2 hb rfl⟩;obtain⟨u,hu,e⟩:=Ia _ _ z hz;rw[<-e];rcases List.mem_append.1 hu with h2|h2
         . exact ha1 u h2
         . rcases List.mem_cons.1 h2 with rfl|h2
           . exact h
           . exact KV h (hb1 u h2)
       . split
         . rename_i h0 h
           refine List.pairwise_cons.2 ⟨λz hz=>?_,ih _ (by simp only[List.length_cons];omega) (x::a) b ha hb2 rfl⟩;obtain⟨u,hu,e⟩:=Ia _ _ z hz;rw[<-e];rcases List.mem_append.1 hu with h2|h2
           . rcases List.mem_cons.1 h2 with rfl|h2
             . exact h
             . exact KV h (ha1 u h2)
           . exact hb1 u h2
         . rename_i h1 h2
           have e:x.1=y.1:=ED (by simpa using h1) (by simpa using h2);refine List.pairwise_cons.2 ⟨λz hz=>?_,ih _ zo a b ha2 hb2 rfl⟩;obtain⟨u,hu,e2⟩:=Ia _ _ z hz;rw[<-e2];show Op.bytesLess x.1 u.1=true
           rcases List.mem_append.1 hu with h3|h3
           . exact ha1 u h3
           . rw[e];exact hb1 u h3
def rW :Nat->List aO->List aO
 |0,l=>l
 |k+1,l=>if l.length<2 then l else fR (rW k (l.take (l.length/2))) (rW k (l.drop (l.length/2)))
theorem Zk (l:List aO)(j k:Nat)(hj:l.length<=j)(hk:l.length<=k):rW j l=rW k l:=by
 induction j generalizing k l with
 |zero=>have h:l=[]:=List.length_eq_zero_iff.1 zo;subst h;cases k<;>simp[rW]
 | succ j ih=>
   cases k with
   |zero=>have h:l=[]:=List.length_eq_zero_iff.1 zo;subst h;simp[rW]
   | succ k=>
     simp only[rW];split
     . rfl
     . rw[ih (l.take (l.length/2)) k zi zi,ih (l.drop (l.length/2)) k zi zi]
def fU (l:List aO):List aO:=rW l.length l
theorem Ip (l:List aO)(h:l.length<2):fU l=l:=by
 unfold fU;cases l with
 |nil=>rfl
 |cons x l=>simp only[List.length_cons,rW];rw[if_pos (by simpa using h)]
theorem Pn (l:List aO)(h:2<=l.length):fU l=fR (fU (l.take (l.length/2))) (fU (l.drop (l.length/2))):=by obtain⟨k,hk⟩:∃k,l.length=k+1:=⟨l.length-1,by omega⟩;unfold fU;rw[hk];simp only[rW];rw[if_neg zo,hk,Zk (l.take ((k+1)/2)) k ((l.take ((k+1)/2)).length) zi (Nat.le_refl _),Zk (l.drop ((k+1)/2)) k ((l.drop ((k+1)/2)).length) zi (Nat.le_refl _)]
theorem Io {Q:List aO->List aO->Prop}(h0:∀l,l.length<2->Q l l)(h1:∀a b c d,Q a c->Q b d->Q (a++b) (fR c d))(l:List aO):Q l (fU l):=by
 obtain⟨n,hn⟩:=aB l.length;induction n using Nat.strongRecOn generalizing l with
 | _ n ih=>
   by_cases h:l.length<2
   . rw[Ip l h];exact h0 l h
   . rw[Pn l zo];have:=h1 _ _ _ _ (ih (l.take (l.length/2)).length zi (l.take (l.length/2)) rfl) (ih (l.drop (l.length/2)).length zi (l.drop (l.length/2)) rfl);rwa [List.take_append_drop]at this
theorem afn (l:List aO)(m:List UInt8):cB (fU l) m=cB l m:=
 Io (Q:=λl r=>cB r m=cB l m) (λ_ _=>rfl) (λa b c d h1 h2=>by rw[SQ,yx,h1,h2]) l
theorem amn (l:List aO):Up (fU l):=
 Io (Q:=λ_ r=>Up r) (λl h=>by
  cases l with
  |nil=>exact List.Pairwise.nil
  | cons x l=>cases l with
    |nil=>exact List.pairwise_singleton _ _
    |cons y l=>simp at h;omega) (λa b c d h1 h2=>ajV c d h1 h2) l
theorem Dp (l:List aO):(fU l).length<=l.length:=
 Io (Q:=λl r=>r.length<=l.length) (λ_ _=>Nat.le_refl _) (λa b c d h1 h2=>by have:=XR c d;simp;omega) l
theorem Zl (l:List aO):∀x∈fU l,∃y∈l,y.1=x.1:=
 Io (Q:=λl r=>∀x∈r,∃y∈l,y.1=x.1) (λl _ x hx=>⟨x,hx,rfl⟩) (λa b c d h1 h2 x hx=>by
  obtain⟨y,hy,e⟩:=Ia c d x hx;rcases List.mem_append.1 hy with h|h
  . obtain⟨z,hz,e2⟩:=h1 y h;exact⟨z,by simp[hz],e2.trans e⟩
  . obtain⟨z,hz,e2⟩:=h2 y h;exact⟨z,by simp[hz],e2.trans e⟩) l
def nC (x:aO):Bool:=!(aP (ar x.2)==0)
def cp (l:List aO):List aO:=((fU l).filter nC).map λx=>(x.1,canon (ar x.2))
def Good (l:List aO):Prop:=Up l/\∀x∈l,ar x.2≠0/\x.2=canon (ar x.2)
theorem BA (X:Dyadic):(aP X==0)=false↔X≠0:=by
 have h:aP X=0↔X=0:=by
  constructor
  . intro h;have h1:dN X=0:=by
     unfold aP dD at h;by_cases h1:dN X<0
     . rw[if_pos h1]at h;cases h
     . rw[if_neg h1]at h;by_cases h2:dN X=0
       . exact h2
       . rw[if_neg h2]at h;cases h
    have h2:=rT X;rw[h1,vv]at h2;exact h2
  . rintro rfl;rfl
 rw[beq_eq_false_iff_ne];exact not_congr h
theorem afi (l:List aO)(m:List UInt8):cB (l.filter nC) m=cB l m:=by
 induction l with
 |nil=>rfl
 | cons x l ih=>
   rw[List.filter_cons];split
   . simp only[cB,ih]
   . rename_i h
     have h0:ar x.2=0:=Classical.byContradiction λhc=>h (by unfold nC;rw[(BA _).2 hc];rfl);simp only[cB,ih,h0];split<;>grind
theorem afk (l:List aO)(m:List UInt8):cB (l.map λx=>(x.1,canon (ar x.2))) m=cB l m:=by
 induction l with
 |nil=>rfl
 |cons x l ih=>simp only[List.map_cons,cB,ih,bL]
theorem sM (l:List aO)(m:List UInt8):cB (cp l) m=cB l m:=by unfold cp;rw[afk,afi,afn]
theorem amZ {l:List aO}(h:Up l):Up (l.map λx=>(x.1,canon (ar x.2))):=List.Pairwise.map _ (λ_ _ h=>h) h
theorem agW (l:List aO)(h:Up l):Good ((l.filter nC).map λx=>(x.1,canon (ar x.2))):=by
 refine⟨amZ (List.Pairwise.filter _ h),λx hx=>?_⟩;obtain⟨y,hy,rfl⟩:=List.mem_map.1 hx;have h2:=(List.mem_filter.1 hy).2;unfold nC at h2;refine⟨?_,?_⟩
 . show ar (canon (ar y.2))≠0
   rw[bL];exact(BA _).1 (by simpa using h2)
 . show canon (ar y.2)=canon (ar (canon (ar y.2)))
   rw[bL]
theorem Bo (l:List aO):Good (cp l):=agW _ (amn l)
theorem Bq (l:List aO):(cp l).length<=l.length:=by unfold cp;rw[List.length_map];exact Nat.le_trans (List.length_filter_le _ _) (Dp l)
theorem SS (l:List aO)(m:List UInt8)(h:∀x∈l,x.1≠m):cB l m=0:=by
 induction l with
 |nil=>rfl
 |cons x l ih=>simp only[cB];rw[if_neg (h x zm),ih (λy hy=>h y (by simp[hy]))];grind
theorem Good.tail {x:aO}{l:List aO}(h:Good (x::l)):Good l:=⟨(List.pairwise_cons.1 h.1).2,λy hy=>h.2 y (by simp[hy])⟩
theorem Good.off {x:aO}{l:List aO}(h:Good (x::l)):cB l x.1=0:=by refine SS _ _ (λy hy e=>?_);have:=(List.pairwise_cons.1 h.1).1 y hy;rw[e,Bf]at this;cases this
theorem Good.head {x:aO}{l:List aO}(h:Good (x::l)):cB (x::l) x.1=ar x.2:=by simp only[cB,if_pos,h.off];grind
theorem Good.before {x y:aO}{l:List aO}(h:Good (y::l))(hx:Op.bytesLess x.1 y.1=true):cB (y::l) x.1=0:=by
 refine SS _ _ (λz hz e=>?_);rcases List.mem_cons.1 hz with rfl|hz
 . rw[e,Bf]at hx;cases hx
 . have:=KV hx ((List.pairwise_cons.1 h.1).1 z hz);rw[e,Bf]at this;cases this
theorem agV {a b:List aO}(ha:Good a)(hb:Good b)(h:∀m,cB a m=cB b m):a=b:=by
 induction a generalizing b with
 | nil=>
   cases b with
   |nil=>rfl
   |cons y b=>have:=h y.1;rw[hb.head]at this;exact absurd this.symm (hb.2 y zm).1
 | cons x a ih=>
   cases b with
   |nil=>have:=h x.1;rw[ha.head]at this;exact absurd this (ha.2 x zm).1
   | cons y b=>
     have h1:Op.bytesLess x.1 y.1=false:=by
      cases hc:Op.bytesLess x.1 y.1 with
      |false=>rfl
      |true=>have:=h x.1;rw[ha.head,hb.before hc]at this;exact absurd this (ha.2 x zm).1
     have h2:Op.bytesLess y.1 x.1=false:=by
      cases hc:Op.bytesLess y.1 x.1 with
      |false=>rfl
      |true=>have:=h y.1;rw[hb.head,ha.before hc]at this;exact absurd this.symm (hb.2 y zm).1
     have e1:x.1=y.1:=ED h1 h2;have e2:ar x.2=ar y.2:=by have:=h x.1;rw[ha.head]at this;rw[this,e1,hb.head]
     have e3:x=y:=by refine Prod.ext e1 ?_;rw[(ha.2 x zm).2,(hb.2 y zm).2,e2]
     subst e3
     rw[ih ha.tail hb.tail (λm=>by
      have:=h m;simp only[cB]at this;generalize (if x.1=m then ar x.2 else 0)=u at this
      grind)]
end Go.Proofs.YtoopepmmepmfnaaGreatDoor
namespace Go.Proofs.YtoopepmmepmfnaaGreatDoor
open Go.RowKit
attribute [local go_sem ↓] Go.wp_at_zero Go.wp_at_succ
def tX (a b:List UInt8):Int:=if Op.bytesLess a b then-1 else if Op.bytesLess b a then 1 else 0
theorem ama (l:List UInt8)(s:Bool)(m:List UInt8)(e:Int)(l':List UInt8)(s':Bool)(m':List UInt8)(e':Int)(w:World):
 Calls Tryz.prog 155 #[.agg #[.string (bs l),.bool s,.string (bs m),.int .i64 e],.agg #[.string (bs l'),.bool s',.string (bs m'),.int .i64 e']] w λex w'=>ex=.returned (.int .i64 (tX l l'))/\Bw w w':=by
 obtain⟨R,hR⟩:=aB (tX l l');unfold tX at hR;rw[show tX l l'=R from hR];obtain⟨W,bU,Hb,Hx,Hy⟩:=fw w 93 [.string (bs l),.bool s,.string (bs m),.int .i64 e] 93 [.string (bs l'),.bool s',.string (bs m'),.int .i64 e'];obtain⟨x0,x1,x2,x3⟩:=Hx.out.c4;obtain⟨y0,y1,y2,y3⟩:=Hy.out.c4;cases h1:Op.bytesLess l l' with
 | true=>
   rw[h1]at hR;simp only[if_true]at hR;subst hR;have h2:Op.bytesLess (bs l).toList (bs l').toList=true:=by rw[ju,ju];exact h1
   clear h1;go_enter Tryz.func155,Tryz.ntmps155;go_wp2;go_ret;exact⟨rfl,Hb.out⟩
 | false=>
   rw[h1]at hR;simp only[Bool.false_eq_true,if_false]at hR;have h2:Op.bytesLess (bs l).toList (bs l').toList=false:=by rw[ju,ju];exact h1
   cases h3:Op.bytesLess l' l with
   | true=>
     rw[h3]at hR;simp only[if_true]at hR;subst hR;have hne:¬l=l':=by rintro rfl;rw[Bf]at h3;cases h3
     have h4:((bs l).toList==(bs l').toList)=false:=by rw[ju,ju];simpa using hne
     have h5:¬(bs l).toList=(bs l').toList:=by rw[ju,ju];exact hne
     clear h1 h3 hne;go_enter Tryz.func155,Tryz.ntmps155;go_wp2;go_ret;exact⟨rfl,Hb.out⟩
   |false=>rw[h3]at hR;simp only[Bool.false_eq_true,if_false]at hR;subst hR;obtain rfl:=ED h1 h3;clear h1 h3;go_enter Tryz.func155,Tryz.ntmps155;go_wp2;go_ret;exact⟨rfl,Hb.out⟩
theorem amu (l:List UInt8)(s:Bool)(m:List UInt8)(e:Int)(l':List UInt8)(s':Bool)(m':List UInt8)(e':Int)(S:Dyadic)(B:Nat)(hS:ar (s,m,e)+ar (s',m',e')=S)(w:World)(hx:Fit B (s,m,e))(hy:Fit B (s',m',e'))(hB:B+2<=268435456)(hT:az w):
 Calls Tryz.prog 156 #[.agg #[.string (bs l),.bool s,.string (bs m),.int .i64 e],.agg #[.string (bs l'),.bool s',.string (bs m'),.int .i64 e']] w λex w'=>ex=.returned (.agg #[.string (bs l),.bool (ai (dN S)),.string (bs (nt (dN S).natAbs)),.int .i64 (dE S)])/\Bw w w':=by
 obtain⟨mR,oP,HS,HT⟩:=cQ hx hy hS hT;clear hx hy hS hT;obtain⟨W,bU,Hb,Hx,Hy,Hr⟩:=nz w 93 [.string (bs l),.bool s,.string (bs m),.int .i64 e] 93 [.string (bs l'),.bool s',.string (bs m'),.int .i64 e'] 93 [.string ⟨#[]⟩,.bool false,.string ⟨#[]⟩,.int .i64 0];obtain⟨x0,x1,x2,x3⟩:=Hx.out.c4;obtain⟨y0,y1,y2,y3⟩:=Hy.out.c4;obtain⟨r0,ag,r1,ah,r2,au,r3,bu⟩:=Hr.out.g4;go_enter Tryz.func156,Tryz.ntmps156;go_wp2_with fail;refine bW (λw'=>w'.cell? ⟨w.heap.size,0,none⟩=some (.string (bs l))/\w'.cell? ⟨w.heap.size,1,none⟩=some (.bool s)/\w'.cell? ⟨w.heap.size,2,none⟩=some (.string (bs m))/\w'.cell? ⟨w.heap.size,3,none⟩=some (.int .i64 e)/\w'.cell? ⟨w.heap.size+1,0,none⟩=some (.string (bs l'))/\w'.cell? ⟨w.heap.size+1,1,none⟩=some (.bool s')/\w'.cell? ⟨w.heap.size+1,2,none⟩=some (.string (bs m'))/\w'.cell? ⟨w.heap.size+1,3,none⟩=some (.int .i64 e')) (λi=>Nat.blt i 9) [(0,true),(1,true),(2,true),(3,true),(4,true),(5,true),(6,false),(7,false),(8,true),(9,false)] zk zk rfl zk zc ⟨x0,x1,x2,x3,y0,y1,y2,y3⟩ ?_;iterate 6 (refine pT rfl rfl ?_ (by intro w' ⟨q0,q1,q2,q3,q4,q5,q6,q7⟩;go_simp;try with_reducible rfl);try simp only[UU])
 refine aC rfl rfl (λK hK=>?_);go_simp;refine hK _ _ (λ_=>⟨aJ x0,aJ x1,aJ x2,aJ x3,aJ y0,aJ y1,aJ y2,aJ y3⟩) ?_;clear hK K;try simp only[UU]
 refine bI (λW3=>aj W3 (W.heap.size) 39 [.bool s,.string (bs m),.int .i64 e,.bool s',.string (bs m'),.int .i64 e']/\Bw W W3) (by first|exact cS|exact cV) ?_;rintro W3 ⟨qv,ae⟩;clear x0 x1 x2 x3 y0 y1 y2 y3 r0 ag r1 ah r2 au r3 bu;have ajy:=Hx.out.lt;have ajD:=Hy.out.lt;have GM:=Hr.out.lt;replace Hx:=kB Hx ae;replace Hy:=kB Hy ae;replace Hr:=kB Hr ae;have Hv:=af qv;clear qv;obtain⟨x0,x1,x2,x3⟩:=Hx.out.c4;obtain⟨y0,y1,y2,y3⟩:=Hy.out.c4;obtain⟨r0,ag,r1,ah,r2,au,r3,bu⟩:=Hr.out.g4;obtain⟨v0,v1,v2,v3,v4,v5⟩:=Hv.out.c6;replace Hb:=ak Hb ae;clear ae;refine aC rfl rfl (λK hK=>?_);go_simp;with_reducible refine(yz s m e s' m' e' S B HS.out W.heap.size _ 39 _ mR.out oP.out hB Hv.out ((HT.out.below Hb.out))).mono ?_
 rintro e w4 ⟨rfl,hq⟩;have ae:Bw W3 w4:=by first|exact hq|exact aM hq
 clear x0 x1 x2 x3 y0 y1 y2 y3 r0 ag r1 ah r2 au r3 bu v0 v1 v2 v3 v4 v5;replace Hx:=kB Hx ae;replace Hy:=kB Hy ae;replace Hr:=kB Hr ae;replace Hv:=kB Hv ae;obtain⟨x0,x1,x2,x3⟩:=Hx.out.c4;obtain⟨y0,y1,y2,y3⟩:=Hy.out.c4;obtain⟨r0,ag,r1,ah,r2,au,r3,bu⟩:=Hr.out.g4;obtain⟨v0,v1,v2,v3,v4,v5⟩:=Hv.out.c6;replace Hb:=ak Hb ae;clear ae;refine hK _ _ (λ_=>⟨x0,x1,x2,x3,y0,y1,y2,y3⟩) ?_;clear hK K;try simp only[UU]
 refine pT rfl rfl ?_;try simp only[UU]
 refine aC rfl rfl (λK hK=>?_);go_simp;refine hK _ _ (λh=>absurd h zd) ?_;clear hK K;try simp only[UU]
 clear x0 x1 x2 x3 y0 y1 y2 y3 r0 ag r1 ah r2 au r3 bu v0 v1 v2 v3 v4 v5;refine bI (aY w4 (w.heap.size+1+1) 0 [.string (bs l),.bool (ai (dN S)),.string (bs (nt (dN S).natAbs)),.int .i64 (dE S)]) bg ?_;intro w5 hs;replace Hx:=kS Hx hs zo;replace Hy:=kS Hy hs zo;replace Hr:=bE Hr hs;replace Hv:=kS Hv hs zo;obtain⟨x0,x1,x2,x3⟩:=Hx.out.c4;obtain⟨y0,y1,y2,y3⟩:=Hy.out.c4;obtain⟨r0,ag,r1,ah,r2,au,r3,bu⟩:=Hr.out.g4;obtain⟨v0,v1,v2,v3,v4,v5⟩:=Hv.out.c6;replace Hb:=bS Hb hs ZS;clear hs;simp only[aV];go_wp2;refine bodyPost_ret (v:=.agg #[.string (bs l),.bool (ai (dN S)),.string (bs (nt (dN S).natAbs)),.int .i64 (dE S)]) (by simp[results,Tryz.results156,go_sem,r0,r1,r2,r3]) rfl ⟨rfl,?_⟩;(repeat first|exact Hb.out| (refine Below.setCell ?_ (by have:=Hb.out.size;first| (dsimp only;omega) | (show _<=_;omega) | (simp<;>omega)) _) | (refine Below.alloc ?_ zt _) |refine Below.drew ?_)
theorem afb (l:List UInt8)(s:Bool)(m:List UInt8)(e:Int)(w:World)(hx:Ok (s,m,e)):
 Calls Tryz.prog 190 #[.agg #[.string (bs l),.bool s,.string (bs m),.int .i64 e]] w λex w'=>ex=.returned (.bool (!nC (l,s,m,e)))/\Bw w w':=by
 obtain⟨g,hg⟩:=aB (aP (ar (s,m,e)));have hs:=λW=>ma s m e g hg W hx;have hz:(!nC (l,s,m,e))=decide (g=0):=by unfold nC;rw[hg];by_cases h:g=0<;>simp[h]
 rw[hz];have Hs:=af hs;clear hs hz hg hx;obtain⟨W,bU,Hb,Hx⟩:=gL w 93 [.string (bs l),.bool s,.string (bs m),.int .i64 e];obtain⟨x0,x1,x2,x3⟩:=Hx.out.c4;go_enter Tryz.func190,Tryz.ntmps190;go_wp2_with fail;refine(Hs.out _).mono ?_;rintro e w1 ⟨rfl,ae⟩;clear x0 x1 x2 x3;replace Hx:=kB Hx ae;obtain⟨x0,x1,x2,x3⟩:=Hx.out.c4;replace Hb:=ak Hb ae;clear ae;go_wp2;refine bodyPost_ret (results_tmp rfl _ _ _) rfl ⟨?_,Hb.out⟩;by_cases h:g=0<;>simp[h]
theorem ajG (l:List UInt8)(s:Bool)(m:List UInt8)(e:Int)(V:Int)(bv:Nat)(w:World)(hv:w.cell? ⟨bv,0,none⟩=some (.int .i64 V))(hl:l.length<=9223372036854775807):
 Calls Tryz.prog 186 #[.agg #[.string (bs l),.bool s,.string (bs m),.int .i64 e],.pointer (some ⟨bv,0,none⟩)] w λex w'=>ex=.returned (.bool (!gh l V))/\Bw w w':=by
 have hm:=λW=>GZ l V W hl;obtain⟨t,ht⟩:=aB (gh l V);rw[ht]at hm⊢;obtain⟨Hm,Hv⟩:=aI hm hv;clear hm ht hv;obtain⟨W,bU,Hb,Hx⟩:=gL w 93 [.string (bs l),.bool s,.string (bs m),.int .i64 e];obtain⟨x0,x1,x2,x3⟩:=Hx.out.c4;have hv2:=cell_later Hb.out Hv.out;go_enter Tryz.func186,Tryz.ntmps186;go_wp2_with fail;refine(Hm.out _).mono ?_;rintro e w1 ⟨rfl,ae⟩;clear x0 x1 x2 x3;replace Hx:=kB Hx ae;obtain⟨x0,x1,x2,x3⟩:=Hx.out.c4;replace Hb:=ak Hb ae;clear ae hv2;go_wp2;refine bodyPost_ret (results_tmp rfl _ _ _) rfl ⟨rfl,Hb.out⟩
end Go.Proofs.YtoopepmmepmfnaaGreatDoor
namespace Go.Proofs.YtoopepmmepmfnaaGreatDoor
def KL (V:Nat)(ts:List aO):Prop:=Good ts/\(∀t∈ts,gh t.1 V=true)/\ts.length<=4096/\V<=12
theorem Yr {V:Nat}{ts:List aO}(h:KL V ts):xC V ts=0:=by
 obtain⟨⟨h1,h2⟩,h3,h4,h5⟩:=h;unfold xC;rw[if_neg zo,if_neg zo,if_pos];rw[List.all_eq_true];intro k hk;have hk:k<ts.length:=by simpa using hk
 have e:ts.getD k default=ts[k]:=by simp[hk]
 have hm:=List.getElem_mem hk;unfold pJ BG;rw[e,h3 _ hm,(BA _).2 (h2 _ hm).1];have e2:(canon (ar ts[k].2)==ts[k].2)=true:=by rw[beq_iff_eq];exact(h2 _ hm).2.symm
 rw[e2];by_cases h0:k=0
 . simp[h0]
 . have hk1:k-1<ts.length:=by omega
   have e3:ts.getD (k-1) default=ts[k-1]:=by simp[hk1]
   have:=List.pairwise_iff_getElem.1 h1 (k-1) k hk1 hk zo;rw[e3,ju,ju,this];simp
theorem Good.arP {l:List aO}(h:Good l):∀t∈l,ar t.2=cB l t.1:=by
 induction l with
 |nil=>intro t ht;cases ht
 | cons x l ih=>
   intro t ht;rcases List.mem_cons.1 ht with rfl|ht
   . exact h.head.symm
   . have hne:¬x.1=t.1:=λe=>by have:=(List.pairwise_cons.1 h.1).1 t ht;rw[e,Bf]at this;cases this
     simp only[cB,if_neg hne,ih h.tail t ht];grind
theorem afm {B:Nat}{l:List aO}(h:∀x∈l,Sm B (ar x.2))(m:List UInt8):Sm (B+l.length) (cB l m):=by
 induction l with
 |nil=>exact Sm.zero _
 | cons x l ih=>
   have h1:=ih (λy hy=>h y (by simp[hy]));have h2:Sm B (if x.1=m then ar x.2 else 0):=by
    split
    . exact h x zm
    . exact Sm.zero _
   exact((h2.mono (show B<=B+l.length by omega)).add h1).mono zi
theorem afg {B:Nat}{l:List aO}(h:∀x∈l,Sm B (ar x.2)):∀t∈cp l,Sm (B+l.length) (ar t.2):=by intro t ht;rw[(Bo l).arP t ht,sM];exact afm h _
theorem afe (l:List aO):∀x∈cp l,∃y∈l,y.1=x.1:=by intro x hx;unfold cp at hx;obtain⟨y,hy,rfl⟩:=List.mem_map.1 hx;exact Zl l y (List.mem_filter.1 hy).1
theorem aff {V:Nat}{l:List aO}(hV:V<=12)(hm:∀t∈l,gh t.1 V=true)(hl:l.length<=4096):KL V (cp l):=
 ⟨Bo l,λt ht=>by obtain⟨y,hy,e⟩:=afe l t ht;rw[<-e];exact hm y hy,Nat.le_trans (Bq l) hl,hV⟩
theorem yw {a b:List aO}(h:∀m,cB a m=cB b m):cp a=cp b:=agV (Bo a) (Bo b) (λm=>by rw[sM,sM,h m])
theorem afd (a b:List aO):cp (cp a++cp b)=cp (a++b):=yw (λm=>by rw[yx,yx,sM,sM])
def fy (c:Dyadic)(l:List aO):List aO:=l.map λx=>(x.1,canon (ar x.2*c))
theorem SU (c:Dyadic)(l:List aO)(m:List UInt8):cB (fy c l) m=cB l m*c:=by
 induction l with
 |nil=>simp[fy,cB]
 |cons x l ih=>simp only[fy,List.map_cons,cB]at ih⊢;rw[ih,bL];split<;>grind
def jW (n:Nat):List UInt8:=List.replicate n 0
def dQ (n k:Nat):List UInt8:=(List.replicate n 0).set k 1
theorem aah (n:Nat):gh (jW n) n=true:=by unfold gh jW;rw[Bool.and_eq_true];refine⟨?_,by simp⟩;rw[List.all_eq_true];intro c hc;rw[(List.mem_replicate.1 hc).2];rfl
theorem PD (n k:Nat):gh (dQ n k) n=true:=by
 unfold gh dQ;rw[Bool.and_eq_true];refine⟨?_,by simp⟩;rw[List.all_eq_true];intro c hc;rcases List.mem_or_eq_of_mem_set hc with h|h
 . rw[(List.mem_replicate.1 h).2];rfl
 . rw[h];rfl
def gA (n:Nat)(c:Dyadic)(l:Nat->Dyadic)(k:Nat):List aO:=(jW n,canon c)::(List.range k).map λj=>(dQ n j,canon (l j))
def dM (n:Nat)(c:Dyadic)(l:Nat->Dyadic)(k:Nat):List aO:=cp (gA n c l k)
theorem zq (n:Nat)(c:Dyadic)(l:Nat->Dyadic)(k:Nat):(gA n c l k).length=k+1:=by simp[gA]
theorem aiT (n:Nat)(c:Dyadic)(l:Nat->Dyadic)(k:Nat):∀t∈gA n c l k,gh t.1 n=true:=by
 intro t ht;unfold gA at ht;rcases List.mem_cons.1 ht with rfl|ht
 . exact aah n
 . obtain⟨j,_,rfl⟩:=List.mem_map.1 ht;exact PD n j
theorem aiU {B:Nat}(n:Nat)(c:Dyadic)(l:Nat->Dyadic)(k:Nat)(hc:Sm B c)(hl:∀j,j<k->Sm B (l j)):∀t∈gA n c l k,Sm B (ar t.2):=by
 intro t ht;unfold gA at ht;rcases List.mem_cons.1 ht with rfl|ht
 . show Sm B (ar (canon c));rw[bL];exact hc
 . obtain⟨j,hj,rfl⟩:=List.mem_map.1 ht;show Sm B (ar (canon (l j)));rw[bL];exact hl j (by simpa using hj)
theorem Xj (n:Nat)(c:Dyadic)(l:Nat->Dyadic)(k:Nat):gA n c l (k+1)=gA n c l k++[(dQ n k,canon (l k))]:=by unfold gA;rw[List.range_succ,List.map_append];rfl
theorem EK (n:Nat)(c:Dyadic)(l:Nat->Dyadic)(k:Nat)(m:List UInt8):cB (gA n c l (k+1)) m=cB (gA n c l k) m+if dQ n k=m then l k else 0:=by rw[Xj,yx];simp only[cB,bL];grind
theorem aiV (n:Nat)(c:Dyadic)(l:Nat->Dyadic)(k:Nat):cp (dM n c l k++cp [(dQ n k,canon (l k))])=dM n c l (k+1):=by unfold dM;rw[afd,Xj]
theorem afj (n:Nat)(c d:Dyadic)(l r:Nat->Dyadic)(u v:Dyadic)(k:Nat)(m:List UInt8):cB (gA n (c*u+d*v) (λj=>l j*u+r j*v) k) m=cB (gA n c l k) m*u+cB (gA n d r k) m*v:=by
 induction k with
 |zero=>simp[gA,cB,bL];split<;>grind
 |succ k ih=>rw[EK,ih,EK,EK];split<;>grind
theorem aiS {n:Nat}{c d:Dyadic}{l r:Nat->Dyadic}(k:Nat)(hc:c=d)(h:∀j,j<k->l j=r j):gA n c l k=gA n d r k:=by unfold gA;rw[hc];congr 1;refine List.map_congr_left λj hj=>?_;rw[h j (by simpa using hj)]
theorem aiW (n:Nat)(c d:Dyadic)(l r:Nat->Dyadic)(k:Nat):cp (dM n c l k++cp (fy (-1) (dM n d r k)))=dM n (c-d) (λj=>l j-r j) k:=by unfold dM;refine yw (λm=>?_);rw[yx,sM,sM,SU,sM];have h:=afj n c d l r 1 (-1) k m;rw[aiS (d:=c-d) (r:=λj=>l j-r j) k (by grind) (λj _=>by grind)]at h;rw[h];grind
end Go.Proofs.YtoopepmmepmfnaaGreatDoor
namespace Go.Proofs.YtoopepmmepmfnaaGreatDoor
open Go.RowKit
attribute [local go_sem ↓] Go.wp_at_zero Go.wp_at_succ
def tY (p q:List Dyadic):Nat->Dyadic
 |0=>0
 |k+1=>tY p q k+(p.getD k 0-q.getD k 0) * (p.getD k 0-q.getD k 0)
theorem Zj {B:Nat}{p q:List Dyadic}(hp:∀c∈p,Sm B c)(hq:∀c∈q,Sm B c)(k:Nat):Sm (2*B+2+k) (tY p q k):=by
 induction k with
 |zero=>exact Sm.zero _
 |succ k ih=>have h1:=Sm.sub (TH hp k) (TH hq k);have h2:=Sm.mul h1 h1;exact Sm.add ih (h2.mono (show B+1+(B+1)<=2*B+2+k by omega))
theorem aml (a:Option Addr)(n cap:Nat)(P:List Raw)(a':Option Addr)(cap':Nat)(Q:List Raw)(B:Nat)(w:World)(hP:P.length=n)(hQ:Q.length=n)(hn:n<=8)(ha:At w a (P.flatMap cg))(ha':At w a' (Q.flatMap cg))
 (MN:∀x∈P,Fit B x) (MO:∀x∈Q,Fit B x) (hB:B<=10000000) (hT:az w):
 Calls Tryz.prog 157 #[.slice a n cap,.slice a' n cap'] w λe w'=>e=.returned (bH (tY (P.map ar) (Q.map ar) n))/\Bw w w':=by
 have Ws:∀c∈P.map ar,Sm B c:=λc hc=>by obtain⟨x,hx,rfl⟩:=List.mem_map.1 hc;exact(MN x hx).2
 have Wt:∀c∈Q.map ar,Sm B c:=λc hc=>by obtain⟨x,hx,rfl⟩:=List.mem_map.1 hc;exact(MO x hx).2
 have uP:=λk=>Zj Ws Wt k;have hstep:∀k (h1:k<P.length) (h2:k<Q.length),tY (P.map ar) (Q.map ar) (k+1)=tY (P.map ar) (Q.map ar) k+(ar P[k]-ar Q[k]) * (ar P[k]-ar Q[k]):=λk h1 h2=>by
  have e1:(P.map ar).getD k 0=ar P[k]:=by simp[h1]
  have e2:(Q.map ar).getD k 0=ar Q[k]:=by simp[h2]
  rw[tY,e1,e2]
 have hs0:tY (P.map ar) (Q.map ar) 0=0:=rfl;obtain⟨F,hF⟩:=aB (tY (P.map ar) (Q.map ar));rw[hF]at hs0⊢;simp only[hF]at uP hstep;obtain⟨HP,HQ,Ha,ue,JK,JL,HT,Hsq,eN,Em⟩:=uX hP hQ ha ha' MN MO hT uP hstep hs0;clear hP hQ ha ha' MN MO hT uP hstep hs0 hF Ws Wt;obtain⟨W,bU,Hb,Hr,Hs⟩:=fw w 39 [.bool false,.string ⟨#[]⟩,.int .i64 0] 39 [.bool false,.string ⟨#[]⟩,.int .i64 0];obtain⟨r0,ag,r1,ah,r2,au⟩:=Hr.out.g3;obtain⟨s0,aW,s1,aX,s2,bi⟩:=Hs.out.g3;go_enter Tryz.func157,Tryz.ntmps157;go_wp2_with fail;clear r0 ag r1 ah r2 au s0 aW s1 aX s2 bi;first|refine bQ (aY W (w.heap.size+1) 0 [.bool false,.string ⟨#[]⟩,.int .i64 0]) bg ?_|refine bP (aY W (w.heap.size+1) 0 [.bool false,.string ⟨#[]⟩,.int .i64 0]) bg ?_
 intro w1 hs;replace Hr:=kS Hr hs zo;replace Hs:=bE Hs hs;obtain⟨r0,ag,r1,ah,r2,au⟩:=Hr.out.g3;obtain⟨s0,aW,s1,aX,s2,bi⟩:=Hs.out.g3;replace Hb:=bS Hb hs ZS;clear hs;have lr:=Hr.out.lt;have ls:=Hs.out.lt;go_wp2_with fail;go_loopw[11] (λi wr=>∃(k:Nat) (X:Dyadic),k<=n/\i=.int .i64 (k:Int)/\F k=X/\aj wr w.heap.size 39 [.bool false,.string ⟨#[]⟩,.int .i64 0]/\aj wr (w.heap.size+1) 39 (cg (canon X))/\Bw w wr) (λi _=>n-(intOf i).toNat);case atStart=>exact⟨0,0,Nat.zero_le _,rfl,Em.out,Hr.out,Hs.out,Hb.out⟩
 case round=>
  clear r0 r1 r2 ag ah au s0 s1 s2 aW aX bi Hr Hs;obtain⟨k,X,hk,rfl,hX,pr,ps,pb⟩:=hrel;by_cases hlt:k<n
  . have k1:k<P.length:=by rw[HP.out];exact hlt
    have k2:k<Q.length:=by rw[HQ.out];exact hlt
    obtain⟨sp,mp,ep,jh⟩:=ux (P[k]);obtain⟨sq,mq,eq,uU⟩:=ux (Q[k]);have gy:=JK.out _ (List.getElem_mem k1);have uH:=JL.out _ (List.getElem_mem k2);have hst:=eN.out k k1 k2;rw[jh]at gy hst;rw[uU]at uH hst;obtain⟨D,hD⟩:=aB (ar (sp,mp,ep)-ar (sq,mq,eq));obtain⟨E,hE⟩:=aB (D*D);obtain⟨Y,hY⟩:=aB (X+E);rw[hX,hD,hE,hY]at hst;have iT:Sm (B+1) D:=by rw[<-hD];exact Sm.sub gy.2 uH.2
    have jd:Sm (2*B+2) E:=by rw[<-hE];exact(Sm.mul iT iT).mono zo
    have dY:Sm (2*B+2+k) X:=by rw[<-hX];exact Hsq.out k
    obtain⟨b1,o1,gH,p0,p1,p2⟩:=(Ha.out.below pb).num k k1 jh;obtain⟨b2,o2,mr,q0,q1,q2⟩:=(ue.out.below pb).num k k2 uU;have pW:=CP n cap k (k:Int) gH hlt rfl;have jg:=CP n cap' k (k:Int) mr hlt rfl;have Hp:Hid (bO wr b1 (o1+k*3) [.bool sp,.string (bs mp),.int .i64 ep]):=oM p0 p1 p2;have Hq:Hid (bO wr b2 (o2+k*3) [.bool sq,.string (bs mq),.int .i64 eq]):=oM q0 q1 q2;obtain⟨qV,Ec,HD,HE,HY,bX,zZ,IW,xO,Hr⟩:=uX gy uH hD hE hY hst iT jd dY pr;have Hs:Hid (aj wr (w.heap.size+1) 39 [.bool (ai (dN X)),.string (bs (nt (dN X).natAbs)),.int .i64 (dE X)]):=ps;obtain⟨iH,cP⟩:=aI pb (HT.out.below pb);have szb:=pb.size;clear pr ps pb gy uH hst hD hE hY iT jd dY p0 p1 p2 q0 q1 q2 jh uU hX gH mr;have Hb:Hid (Bw wr wr):=Below.refl _ _;go_upto_region 5 with fail
    go_cut[7] (λs7 wx=>∃g:Nat,s7=.pointer (some ⟨g,0,none⟩)/\wr.heap.size<=g/\aj wx g 39 [.bool (ai (dN D)),.string (bs (nt (dN D).natAbs)),.int .i64 (dE D)]/\Bw wr wx);case first=>
     have p0:wr.cell? ⟨b1,o1+k*3,none⟩=some (.bool sp):=Hp.out.cell 0 zm;have p1:wr.cell? ⟨b1,o1+k*3+1,none⟩=some (.string (bs mp)):=Hp.out.cell 1 zm;have p2:wr.cell? ⟨b1,o1+k*3+2,none⟩=some (.int .i64 ep):=Hp.out.cell 2 zm;have q0:wr.cell? ⟨b2,o2+k*3,none⟩=some (.bool sq):=Hq.out.cell 0 zm;have q1:wr.cell? ⟨b2,o2+k*3+1,none⟩=some (.string (bs mq)):=Hq.out.cell 1 zm;have q2:wr.cell? ⟨b2,o2+k*3+2,none⟩=some (.int .i64 eq):=Hq.out.cell 2 zm;obtain⟨p0,p1,p2⟩:=Hp.out.w3;obtain⟨q0,q1,q2⟩:=Hq.out.w3;refine PO (λw'=>w'.cell? ⟨b1,o1+k*3,none⟩=some (.bool sp)/\w'.cell? ⟨b1,o1+k*3+1,none⟩=some (.string (bs mp))/\w'.cell? ⟨b1,o1+k*3+2,none⟩=some (.int .i64 ep)/\w'.cell? ⟨b2,o2+k*3,none⟩=some (.bool sq)/\w'.cell? ⟨b2,o2+k*3+1,none⟩=some (.string (bs mq))/\w'.cell? ⟨b2,o2+k*3+2,none⟩=some (.int .i64 eq)) (λi=>Nat.blt i 10) 8 9 [(9,false),(10,false)] [(8,false),(10,false)] [0,1,2,3,4,5,6,7] zk zk rfl rfl zk zc ⟨p0,p1,p2,q0,q1,q2⟩ ?_;iterate 8 (refine OS rfl rfl (v:=?_) (λw' hw'=>?_) ?_;rotate_left;(focus obtain⟨q0,q1,q2,q3,q4,q5⟩:=hw';go_simp;try with_reducible rfl);try simp only[UU])
     refine OQ rfl rfl rfl rfl (λK hK=>?_) (λK hK=>?_)
     . go_simp;with_reducible refine(Bu sp mp ep sq mq eq D B HD.out _ qV.out Ec.out zo (by first|exact cP.out|exact az.drew cP.out|exact az.alloc cP.out _|exact az.drew (az.alloc cP.out _) |exact az.alloc (az.drew cP.out) _)).mono ?_
       rintro e w5 ⟨rfl,hq⟩;have cH:Bw wr w5:=aM hq;refine hK _ _ ⟨cell_later cH p0,cell_later cH p1,cell_later cH p2,cell_later cH q0,cell_later cH q1,cell_later cH q2⟩ ?_;try simp only[UU]
       refine aC rfl rfl (λK hK=>?_);go_simp;refine hK _ _ (λ_=>⟨aJ (cell_later cH p0),aJ (cell_later cH p1),aJ (cell_later cH p2),aJ (cell_later cH q0),aJ (cell_later cH q1),aJ (cell_later cH q2)⟩) ?_;try simp only[UU]
       refine aC rfl rfl (λK hK=>?_);go_simp;refine hK _ _ (λh=>absurd h zd) ?_;simp only[aV];go_wp2_with fail;go_meet;exact⟨w5.heap.size,rfl,cH.size,aj.new _ _ _,cH.alloc cH.size _⟩
     . go_simp;refine hK _ _ ⟨aJ p0,aJ p1,aJ p2,aJ q0,aJ q1,aJ q2⟩ ?_;try simp only[UU]
       refine aC rfl rfl (λK hK=>?_);go_simp;with_reducible refine(Bu sp mp ep sq mq eq D B HD.out _ qV.out Ec.out zo (by first|exact cP.out|exact az.drew cP.out|exact az.alloc cP.out _|exact az.drew (az.alloc cP.out _) |exact az.alloc (az.drew cP.out) _)).mono ?_
       rintro e w5 ⟨rfl,hq⟩;have cH:Bw wr w5:=pu hq;have Hn:aj w5 wr.heap.size 39 [.bool false,.string ⟨#[]⟩,.int .i64 0]:=aj.below (aj.new wr.drew 39 [.bool false,.string ⟨#[]⟩,.int .i64 0]) hq;obtain⟨n0,eV,n1,eW,n2,eX⟩:=Hn.g3;refine hK _ _ (λ_=>⟨cell_later cH p0,cell_later cH p1,cell_later cH p2,cell_later cH q0,cell_later cH q1,cell_later cH q2⟩) ?_;try simp only[UU]
       refine aC rfl rfl (λK hK=>?_);go_simp;refine hK _ _ (λh=>absurd h zd) ?_;simp only[aV];go_wp2_with fail;go_meet;exact⟨wr.heap.size,rfl,Nat.le_refl _,((Hn.set 0 _).set 1 _).set 2 _,((cH.sc wr.heap.size 0 (Nat.le_refl _) _).sc wr.heap.size 1 (Nat.le_refl _) _).sc wr.heap.size 2 (Nat.le_refl _) _⟩
    case rest=>
     obtain⟨g,rfl,hg,qd,qb⟩:=hcut;have QN:Hid (Fit (B+1) (ai (dN D),nt (dN D).natAbs,dE D)):=zZ.out.fit zo;have HfX:Hid (Fit (2*B+10) (ai (dN X),nt (dN X).natAbs,dE X)):=(xO.out.mono zo).fit zo;have HfE:Hid (Fit (2*B+10) (ai (dN E),nt (dN E).natAbs,dE E)):=(IW.out.mono zo).fit zo;have HmE:Hid (ar (ai (dN D),nt (dN D).natAbs,dE D) *ar (ai (dN D),nt (dN D).natAbs,dE D)=E):=by show ar (canon D) *ar (canon D)=E;rw[bL];exact HE.out
     have HaY:Hid (ar (ai (dN X),nt (dN X).natAbs,dE X)+ar (ai (dN E),nt (dN E).natAbs,dE E)=Y):=by show ar (canon X)+ar (canon E)=Y;rw[bL,bL];exact HY.out
     have ls2:=Hs.out.lt;replace Hr:=af (Hr.out.below qb);replace Hs:=af (Hs.out.below qb);have Hd:=af qd;replace cP:=af (cP.out.below qb);clear Hb;have Hb:=af (aH iH.out qb);have lg:=Hd.out.lt;clear qd qb;obtain⟨r0,r1,r2⟩:=Hr.out.c3;obtain⟨s0,aW,s1,aX,s2,bi⟩:=Hs.out.g3;obtain⟨d0,d1,d2⟩:=Hd.out.c3;have cP:Hid (az wc):=cP.out;go_wp2_with fail;refine bW (λw'=>w'.cell? ⟨w.heap.size+1,0,none⟩=some (.bool (ai (dN X)))/\w'.cell? ⟨w.heap.size+1,1,none⟩=some (.string (bs (nt (dN X).natAbs)))/\w'.cell? ⟨w.heap.size+1,2,none⟩=some (.int .i64 (dE X))/\w'.cell? ⟨g,0,none⟩=some (.bool (ai (dN D)))/\w'.cell? ⟨g,1,none⟩=some (.string (bs (nt (dN D).natAbs)))/\w'.cell? ⟨g,2,none⟩=some (.int .i64 (dE D))) (λi=>Nat.blt i 7) [(0,true),(1,true),(2,true),(3,false),(4,false),(5,false),(6,false),(7,false)] zk zk rfl zk zc ⟨s0,s1,s2,d0,d1,d2⟩ ?_;iterate 3 (refine pT rfl rfl ?_ (by intro w' ⟨q0,q1,q2,q3,q4,q5⟩;go_simp;try with_reducible rfl);try simp only[UU])
     refine aC rfl rfl (λK hK=>?_);go_simp;refine hK _ _ (λ_=>⟨aJ s0,aJ s1,aJ s2,aJ d0,aJ d1,aJ d2⟩) ?_;clear hK K;try simp only[UU]
     refine bI (λw6=>aj w6 (wc.heap.size) 39 [.bool (ai (dN D)),.string (bs (nt (dN D).natAbs)),.int .i64 (dE D),.bool (ai (dN D)),.string (bs (nt (dN D).natAbs)),.int .i64 (dE D)]/\Bw wc w6) (by first|exact cS|exact cV) ?_;rintro w6 ⟨Yw,ae⟩;clear r0 r1 r2 s0 aW s1 aX s2 bi d0 d1 d2;have aqp:=Hr.out.lt;have aqw:=Hs.out.lt;have apP:=Hd.out.lt;replace Hr:=kB Hr ae;replace Hs:=kB Hs ae;replace Hd:=kB Hd ae;replace cP:=kT cP ae;have kQ:=af Yw;clear Yw;obtain⟨r0,r1,r2⟩:=Hr.out.c3;obtain⟨s0,aW,s1,aX,s2,bi⟩:=Hs.out.g3;obtain⟨d0,d1,d2⟩:=Hd.out.c3;obtain⟨uY,uZ,vd,rO,rP,m15⟩:=kQ.out.c6;replace Hb:=ak Hb ae;clear ae;refine aC rfl rfl (λK hK=>?_);go_simp;with_reducible refine(pE _ _ _ _ _ _ E (B+1) HmE.out _ 2 _ _ QN.out QN.out zo kQ.out (by first|exact cP.out|exact az.drew cP.out|exact az.alloc cP.out _|exact az.drew (az.alloc cP.out _) |exact az.alloc (az.drew cP.out) _)).mono ?_
     rintro e w7 ⟨rfl,hq⟩;have ae:Bw w6 w7:=by first|exact hq|exact aM hq
     clear r0 r1 r2 s0 aW s1 aX s2 bi d0 d1 d2 uY uZ vd rO rP m15;replace Hr:=kB Hr ae;replace Hs:=kB Hs ae;replace Hd:=kB Hd ae;replace cP:=kT cP ae;replace kQ:=kB kQ ae;obtain⟨r0,r1,r2⟩:=Hr.out.c3;obtain⟨s0,aW,s1,aX,s2,bi⟩:=Hs.out.g3;obtain⟨d0,d1,d2⟩:=Hd.out.c3;obtain⟨uY,uZ,vd,rO,rP,m15⟩:=kQ.out.c6;replace Hb:=ak Hb ae;clear ae;refine hK _ _ (λ_=>⟨s0,s1,s2,d0,d1,d2⟩) ?_;clear hK K;try simp only[UU]
     refine aC rfl rfl (λK hK=>?_);go_simp;refine hK _ _ (λ_=>⟨aJ s0,aJ s1,aJ s2,aJ d0,aJ d1,aJ d2⟩) ?_;clear hK K;try simp only[UU]
     refine bI (λw8=>aj w8 (w7.heap.size) 39 [.bool (ai (dN X)),.string (bs (nt (dN X).natAbs)),.int .i64 (dE X),.bool (ai (dN E)),.string (bs (nt (dN E).natAbs)),.int .i64 (dE E)]/\Bw w7 w8) (by first|exact cS|exact cV) ?_;rintro w8 ⟨Yx,ae⟩;clear r0 r1 r2 s0 aW s1 aX s2 bi d0 d1 d2 uY uZ vd rO rP m15;have aqr:=Hr.out.lt;have aqx:=Hs.out.lt;have apQ:=Hd.out.lt;have ap4:=kQ.out.lt;replace Hr:=kB Hr ae;replace Hs:=kB Hs ae;replace Hd:=kB Hd ae;replace cP:=kT cP ae;replace kQ:=kB kQ ae;have uj:=af Yx;clear Yx;obtain⟨r0,r1,r2⟩:=Hr.out.c3;obtain⟨s0,aW,s1,aX,s2,bi⟩:=Hs.out.g3;obtain⟨d0,d1,d2⟩:=Hd.out.c3;obtain⟨uY,uZ,vd,rO,rP,m15⟩:=kQ.out.c6;obtain⟨GR,GU,GV,GW,GX,GY⟩:=uj.out.c6;replace Hb:=ak Hb ae;clear ae;refine aC rfl rfl (λK hK=>?_);go_simp;with_reducible refine(yz _ _ _ _ _ _ Y (2*B+10) HaY.out _ 2 _ _ HfX.out HfE.out zo uj.out (by first|exact cP.out|exact az.drew cP.out|exact az.alloc cP.out _|exact az.drew (az.alloc cP.out _) |exact az.alloc (az.drew cP.out) _)).mono ?_
     rintro e w9 ⟨rfl,hq⟩;have ae:Bw w8 w9:=by first|exact hq|exact aM hq
     clear r0 r1 r2 s0 aW s1 aX s2 bi d0 d1 d2 uY uZ vd rO rP m15 GR GU GV GW GX GY;replace Hr:=kB Hr ae;replace Hs:=kB Hs ae;replace Hd:=kB Hd ae;replace cP:=kT cP ae;replace kQ:=kB kQ ae;replace uj:=kB uj ae;obtain⟨r0,r1,r2⟩:=Hr.out.c3;obtain⟨s0,aW,s1,aX,s2,bi⟩:=Hs.out.g3;obtain⟨d0,d1,d2⟩:=Hd.out.c3;obtain⟨uY,uZ,vd,rO,rP,m15⟩:=kQ.out.c6;obtain⟨GR,GU,GV,GW,GX,GY⟩:=uj.out.c6;replace Hb:=ak Hb ae;clear ae;refine hK _ _ (λ_=>⟨s0,s1,s2,d0,d1,d2⟩) ?_;clear hK K;try simp only[UU]
     refine aC rfl rfl (λK hK=>?_);go_simp;refine hK _ _ (λh=>absurd h zd) ?_;clear hK K;try simp only[UU]
     clear r0 r1 r2 s0 aW s1 aX s2 bi d0 d1 d2 uY uZ vd rO rP m15 GR GU GV GW GX GY;refine bI (aY w9 (w.heap.size+1) 0 [.bool (ai (dN Y)),.string (bs (nt (dN Y).natAbs)),.int .i64 (dE Y)]) bg ?_;intro cC hs;replace Hr:=kS Hr hs zo;replace Hs:=bE Hs hs;replace Hd:=kS Hd hs zo;replace kQ:=kS kQ hs zo;replace uj:=kS uj hs zo;obtain⟨r0,r1,r2⟩:=Hr.out.c3;obtain⟨s0,aW,s1,aX,s2,bi⟩:=Hs.out.g3;obtain⟨d0,d1,d2⟩:=Hd.out.c3;obtain⟨uY,uZ,vd,rO,rP,m15⟩:=kQ.out.c6;obtain⟨GR,GU,GV,GW,GX,GY⟩:=uj.out.c6;replace Hb:=bS Hb hs ZS;clear hs;simp only[aV];go_wp2;go_roundw;case rel=>exact⟨k+1,Y,by omega,by go_num,bX.out,Hr.out,Hs.out,Hb.out⟩
     case measure=>simp[intOf];omega
  . obtain rfl:k=n:=by omega
    have Hr:=af pr;have Hs:Hid (aj wr (w.heap.size+1) 39 [.bool (ai (dN X)),.string (bs (nt (dN X).natAbs)),.int .i64 (dE X)]):=ps;have HX:=af hX;replace Hb:=af pb;clear pr ps pb hX;obtain⟨r0,ag,r1,ah,r2,au⟩:=Hr.out.g3;obtain⟨s0,s1,s2⟩:=Hs.out.c3;go_wp2;clear r0 ag r1 ah r2 au s0 s1 s2;refine dx (aY wr (w.heap.size) 0 [.bool (ai (dN X)),.string (bs (nt (dN X).natAbs)),.int .i64 (dE X)]) bg ?_;intro w9 hs;replace Hr:=bE Hr hs;replace Hs:=kS Hs hs zo;obtain⟨r0,ag,r1,ah,r2,au⟩:=Hr.out.g3;obtain⟨s0,s1,s2⟩:=Hs.out.c3;replace Hb:=bS Hb hs ZS;clear hs;refine bodyPost_ret (v:=bH X) (by simp[results,Tryz.results157,go_sem,r0,r1,r2]) rfl ⟨by rw[HX.out],Hb.out⟩
end Go.Proofs.YtoopepmmepmfnaaGreatDoor
