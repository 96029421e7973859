/- Small facts that many walks share: numbers in memory,windows,own rows. -/
import Derived.Test.YtdaadlblknpipaaGreatDoorZ9
import Derived.Test.YtdaadlblknpipaaGreatDoorZ11
import Derived.Test.YtdaadlblknpipaaGreatDoorZ7
import Derived.Carry
import Derived.Maps.AppendAt
import Derived.Maps.OwnIn
import Derived.Maps.Own
import Derived.Maps.Views
import Derived.Maps.Keyed
import Derived.Maps.OwnSet
import Derived.Shelf.Abstract
import Derived.Shelf.RegionOpen
import Derived.OwnWalkIn
import Derived.TacticsInMore
import Derived.LoopNIn
import Derived.LoopIn
import Derived.Lib.BufferWrite
import Derived.Deep.WholeRow
import Derived.Test.YtdaadlblknpipaaGreatDoorZ5
set_option linter.unusedVariables false
set_option linter.unusedSimpArgs false
set_option maxRecDepth 100000
set_option maxHeartbeats 16000000
namespace Go.Proofs.YtdaadlblknpipaaGreatDoor
open Go.RowKit
attribute [local go_sem ↓] Go.wp_at_zero Go.wp_at_succ
def hp (k:Nat):Dyadic:=Dyadic.ofIntWithPrec 1 k
theorem Xe (D:Dyadic)(k:Nat):aB (au (dN D),nt (dN D).natAbs,dE D+ -(k:Int))=D*hp k:=by
 have h:=bP D;unfold aB canon at h;unfold aB hp;simp only[eV]at h⊢;conv=>rhs;rw[<-h]
 rw[uJ,Int.mul_one];congr 1;omega
theorem Uu (k:Nat):Sm (k+1) (hp k):=by
 refine⟨2,?_,?_⟩
 . unfold hp;rw[<-sO 1 1 k];rfl
 . have:2^2<=2^(2* (k+1)):=Nat.pow_le_pow_right zd zo;omega
theorem Tryz.an8 :(Tryz.prog.info? 30).map (λi=>(i.zero,i.size,i.bytes))=some (some (.agg #[.bool false,.string (bs []),.int .i64 0]),3,32):=by kernel_rfl
def dC (ds:List Dyadic):List Value:=ds.flatMap λd=>bB (canon d)
theorem ac5 (ds:List Dyadic):(dC ds).length=ds.length*3:=jg _ 3 (λ_=>rfl) ds
theorem tN (a b:List Dyadic):dC (a++b)=dC a++dC b:=by unfold dC;rw[List.flatMap_append]
theorem ahU {Y:Nat->Prop}{W W':World}{base:Nat}{e:TypeId}{size:Nat}{v:Value}{n:Nat}{xs:List Value}(h:W.ownsRow base e size v n xs)(hc:Chg Y W W')(hy:∀b,v.ownBlock=some b->¬Y b):W'.ownsRow base e size v n xs:=by
 refine⟨h.1,?_⟩;rcases h.2 with h1|⟨g,cap,cur,rfl,hb,hg,h2,h3,h4,h5⟩
 . exact .inl h1
 . exact .inr ⟨g,cap,cur,rfl,hb,(hc.block g (Array.getElem?_eq_some_iff.1 hg).1 (hy g rfl)).trans hg,h2,h3,h4,h5⟩
theorem dK {W:World}{base:Nat}{e:TypeId}{size:Nat}{v:Value}{n:Nat}{xs:List Value}(h:W.ownsRow base e size v n xs):∃a cap,v=.slice a n cap/\At W a xs/\∀b o,a=some ⟨b,o,none⟩->base<=b:=by
 rcases h.2 with⟨rfl,rfl⟩ |⟨g,cap,cur,rfl,hb,hg,h2,h3,h4,h5⟩
 . refine⟨none,0,rfl,.inl ?_,λb o e=>by cases e⟩;have:=h.1;simpa using this
 . refine⟨_,cap,rfl,.inr ⟨g,0,rfl,λj hj=>?_⟩,λb o e=>by cases e;exact hb⟩;have:=h.cells (g:=g) rfl j (xs[j]) (by simp[hj]);rw[Nat.zero_add];have e2:((⟨g,0,none⟩:Addr).add j)=⟨g,j,none⟩:=by simp[Addr.add];omega
   rw[e2]at this;rw[this];simp[hj]
def aZ (w:World)(b o:Nat)(cs:List Value):Prop:=∀j (h:j<cs.length),w.cell? ⟨b,o+j,none⟩=some cs[j]
theorem aZ.cell {w:World}{b o:Nat}{cs:List Value}(h:aZ w b o cs)(j:Nat)(hj:j<cs.length):w.cell? ⟨b,o+j,none⟩=some cs[j]:=h j hj
theorem aZ.w1 {w:World}{b o:Nat}{x0:Value}(h:aZ w b o [x0]):w.cell? ⟨b,o,none⟩=some x0:=h 0 zm
theorem aZ.w2 {w:World}{b o:Nat}{x0 x1:Value}(h:aZ w b o [x0,x1]):w.cell? ⟨b,o,none⟩=some x0/\w.cell? ⟨b,o+1,none⟩=some x1:=⟨h 0 zm,h 1 zm⟩
theorem aZ.w3 {w:World}{b o:Nat}{x0 x1 x2:Value}(h:aZ w b o [x0,x1,x2]):w.cell? ⟨b,o,none⟩=some x0/\w.cell? ⟨b,o+1,none⟩=some x1/\w.cell? ⟨b,o+2,none⟩=some x2:=⟨h 0 zm,h 1 zm,h 2 zm⟩
theorem aZ.w4 {w:World}{b o:Nat}{x0 x1 x2 x3:Value}(h:aZ w b o [x0,x1,x2,x3]):w.cell? ⟨b,o,none⟩=some x0/\w.cell? ⟨b,o+1,none⟩=some x1/\w.cell? ⟨b,o+2,none⟩=some x2/\w.cell? ⟨b,o+3,none⟩=some x3:=⟨h 0 zm,h 1 zm,h 2 zm,h 3 zm⟩
theorem aZ.below {w w':World}{b o:Nat}{cs:List Value}(h:aZ w b o cs)(hb:Bw w w'):aZ w' b o cs:=λj hj=>cell_later hb (h j hj)
theorem kW {w w':World}{b o:Nat}{cs:List Value}(h:Hid (aZ w b o cs))(k:Bw w w'):Hid (aZ w' b o cs):=h.out.below k
theorem aZ.an5 {w:World}{b o:Nat}{cs:List Value}(h:aZ w b o cs)(a:Addr)(hne:b≠a.block)(u:Value):aZ (w.setCell a u) b o cs:=λj hj=>fc hne (h j hj)
theorem Re (ds:List Dyadic)(i:Nat)(D:Dyadic):(((dC ds).set (i*3) (.bool (au (dN D)))).set (i*3+1) (.string (bs (nt (dN D).natAbs)))).set (i*3+2) (.int .i64 (dE D))=dC (ds.set i D):=by
 induction ds generalizing i with
 |nil=>simp[dC]
 | cons x ds ih=>
   have e:∀y:Dyadic,∀zs,dC (y::zs)=.bool (au (dN y))::.string (bs (nt (dN y).natAbs))::.int .i64 (dE y)::dC zs:=λy zs=>rfl;cases i with
   |zero=>rw[e];rfl
   |succ i=>rw[List.set_cons_succ,e,e,<-ih i,show(i+1) *3=i*3+1+1+1 by omega];rfl
theorem rS (ds:List Dyadic):dC ds=(ds.map canon).flatMap bB:=by unfold dC;rw[List.flatMap_map]
theorem gu {P:Program}{fn:Func}{R:Ending->World->Prop}{e:Exit}{a:Act}{W:World}(S:World->Prop)(hS:S W)(h:∀W',S W'->bodyPost P fn R e a W'):bodyPost P fn R e a W:=h W hS
theorem ai.not_row {W:World}{B:Nat}{t e:TypeId}{cs:List Value}(h:ai W B t cs)(hte:t≠e){base size k:Nat}{v:Value}{xs:List Value}(hr:W.ownsRow base e size v k xs):some B≠v.ownBlock:=by
 rcases hr.2 with⟨rfl,_⟩ |⟨g,cap,cur,rfl,_,hgb,_⟩
 . simp[Value.ownBlock]
 . intro e';simp only[Value.ownBlock,Option.some.injEq]at e';subst e';have:=h.symm.trans hgb;simp at this;exact hte this.2
theorem ai.row {W W':World}{B:Nat}{t e:TypeId}{cs:List Value}(h:ai W B t cs)(hte:t≠e){base size k:Nat}{v:Value}{xs:List Value}(hr:W.ownsRow base e size v k xs)(hg:W.grownBy W' v.ownBlock):ai W' B t cs:=
 h.grown hg (h.not_row hte hr)
theorem ownsRow_below {W W':World}{base:Nat}{e:TypeId}{size:Nat}{v:Value}{n:Nat}{xs:List Value}(h:W.ownsRow base e size v n xs)(hb:Bw W W'):W'.ownsRow base e size v n xs:=by refine ahU (Y:=λ_=>False) h (Chg.of_below hb) (λ_ _ h=>h)
theorem cL {W:World}{base:Nat}{e:TypeId}{size:Nat}{v:Value}{n:Nat}{xs:List Value}(h:W.ownsRow base e size v n xs):∀k,v.ownBlock=some k->base<=k:=λk hk=>(h.lt k hk).1
theorem gM {w:World}{b o:Nat}{x y z:Value}(h0:w.cell? ⟨b,o,none⟩=some x)(h1:w.cell? ⟨b,o+1,none⟩=some y)(h2:w.cell? ⟨b,o+2,none⟩=some z):aZ w b o [x,y,z]:=by
 intro j hj;rcases j with _|_|_|j
 . exact h0
 . exact h1
 . exact h2
 . simp at hj;omega
theorem fZ {W:World}{b:Nat}{t:TypeId}{cs:List Value}(h:ai W b t cs):∀j u,cs[j]?=some u->W.cell? ((⟨b,0,none⟩:Addr).add j)=some u:=by
 intro j u hj;have e2:((⟨b,0,none⟩:Addr).add j)=⟨b,j,none⟩:=by simp[Addr.add];omega
 rw[e2,h.cell];exact hj
theorem At.num {W:World}{a:Option Addr}{cS:List Raw}(h:At W a (cS.flatMap bB))(k:Nat)(hk:k<cS.length){s:Bool}{m:List UInt8}{e:Int}(hx:cS[k]=(s,m,e)):
 ∃b o,a=some ⟨b,o,none⟩/\W.cell? ⟨b,o+k*3,none⟩=some (.bool s)/\W.cell? ⟨b,o+k*3+1,none⟩=some (.string (bs m))/\W.cell? ⟨b,o+k*3+2,none⟩=some (.int .i64 e):=by
 obtain⟨b,o,ha,hc⟩:=h.elem (f:=bB) (sz:=3) (λ_=>rfl) zd k hk;rw[hx]at hc;exact⟨b,o,ha,by simpa[bB]using hc 0 zd,by simpa[bB]using hc 1 zd,by simpa[bB]using hc 2 zd⟩
theorem RI {B:Nat}{cs:List Dyadic}(h:∀c∈cs,Sm B c)(k:Nat):Sm B (cs.getD k 0):=by
 by_cases hk:k<cs.length
 . have:cs.getD k 0=cs[k]:=by simp[hk]
   rw[this];exact h _ (List.getElem_mem hk)
 . have:cs.getD k 0=0:=by simp[List.getD_eq_getElem?_getD,List.getElem?_eq_none (by omega:cs.length<=k)]
   rw[this];exact Sm.zero B
def idxFrom (p:Value->Bool):List Value->Nat->Int
 |[],_=>-1
 |v::l,k=>if p v then(k:Int)else idxFrom p l (k+1)
theorem Mw (p:Value->Bool)(l:List Value)(k n:Nat)(h:n<l.length):idxFrom p (l.drop n) k=if p l[n]then(k:Int)else idxFrom p (l.drop (n+1)) (k+1):=by rw[List.drop_eq_getElem_cons h];rfl
theorem Vf (p:Value->Bool)(l:List Value)(k:Nat):decide (0<=idxFrom p l k)=l.any p:=by
 induction l generalizing k with
 |nil=>rfl
 | cons v l ih=>
   unfold idxFrom;rw[List.any_cons];by_cases h:p v=true
   . rw[if_pos h,h,Bool.true_or];simp
   . rw[if_neg h,ih];simp[h]
theorem afM (a:Option Addr)(n cap:Nat)(vals:List Value)(gf:Nat)(lb:Array Value)(p:Value->Bool)(w:World)(hn:vals.length=n)(hl:n<=1099511627776)(ha:At w a vals)
 (eg:∀args w,(callFunc gf args).run Tryz.prog w=.ok (.enter gf args) w)
 (hcl:∀v∈vals,∀W,Bw w W->Calls Tryz.prog gf (#[v]++lb) W λe w'=>e=.returned (.bool (p v))/\Bw W w'):
 Calls Tryz.prog 123 #[.slice a n cap,.func (.func gf) #[] lb] w λe w'=>e=.returned (.int .i64 (idxFrom p vals 0))/\Bw w w':=by
 obtain⟨Hn,Ha,gN,oK⟩:=dO hn ha hcl eg;clear hn ha hcl eg;have Hb:Hid (Bw w w):=Below.refl _ _;go_enter Tryz.func123,Tryz.ntmps123;go_wp2_with fail;go_loopw[5,8] (λ_ i wr=>∃k:Nat,k<=n/\i=.int .i64 (k:Int)/\idxFrom p vals 0=idxFrom p (vals.drop k) k/\Bw w wr) (λ_ i _=>n-(intOf i).toNat);case atStart=>exact⟨0,Nat.zero_le _,rfl,rfl,Hb.out⟩
 case round=>
  clear Hb;obtain⟨k,hk,rfl,gh,pb⟩:=hrel;obtain⟨lN,Hb⟩:=aM gh pb;clear gh pb;by_cases hlt:k<n
  . have bo:k<vals.length:=by rw[Hn.out];exact hlt
    obtain⟨b,o,hab,hcs⟩:=(Ha.out.below Hb.out).get (by intro h;rw[h]at bo;simp at bo);obtain⟨v,hv⟩:=aC (vals[k]);have hc0:wr.cell? ⟨b,o+k,none⟩=some v:=by rw[hcs k bo,List.getElem?_eq_getElem bo,hv]
    have bA:=gz n cap k (k:Int) hab hlt rfl;rw[Nat.mul_one]at bA;have hcall:=gN.out v (by rw[<-hv];exact List.getElem_mem bo) wr Hb.out;have hstep:=Mw p vals k k bo;rw[hv,<-lN.out]at hstep;obtain⟨fA,kj⟩:=aM hstep hcall;have rF:=oK.out;clear hcs hab hv hstep hcall;go_wp2_with fail;refine kj.out.mono ?_;rintro e w1 ⟨rfl,hb1⟩;replace Hb:=ah (aK Hb.out hb1);clear hb1 hc0 bA rF;obtain⟨t,ht⟩:=aC (p v);rw[ht]at fA⊢;clear ht;cases t with
    |true=>go_wp2;refine bodyPost_ret (results_tmp rfl _ _ _) rfl ⟨?_,Hb.out⟩;have h:=fA.out;rw[if_pos (by trivial)]at h;rw[h];rfl
    | false=>
      go_wp2;go_roundw;case rel=>exact⟨k+1,by omega,by go_num,by have h:=fA.out;rw[if_neg zd]at h;exact h,Hb.out⟩
      case measure=>simp[intOf];omega
  . obtain rfl:k=n:=by omega
    go_wp2;refine bodyPost_ret (results_tmp rfl _ _ _) rfl ⟨?_,Hb.out⟩;have h:=lN.out;rw[List.drop_of_length_le (by rw[Hn.out];exact Nat.le_refl _)]at h;rw[h];rfl
theorem acS (a:Option Addr)(n cap:Nat)(vals:List Value)(gf:Nat)(lb:Array Value)(p:Value->Bool)(w:World)(hn:vals.length=n)(hl:n<=1099511627776)(ha:At w a vals)
 (eg:∀args w,(callFunc gf args).run Tryz.prog w=.ok (.enter gf args) w)
 (hcl:∀v∈vals,∀W,Bw w W->Calls Tryz.prog gf (#[v]++lb) W λe w'=>e=.returned (.bool (p v))/\Bw W w'):
 Calls Tryz.prog 85 #[.slice a n cap,.func (.func gf) #[] lb] w λe w'=>e=.returned (.bool (vals.any p))/\Bw w w':=by
 have h1:=afM a n cap vals gf lb p w hn hl ha eg hcl;rw[<-Vf p vals 0];generalize idxFrom p vals 0=i at*;have H1:=ah h1;clear h1 hcl eg ha hn;have Hb:Hid (Bw w w):=Below.refl _ _;go_enter Tryz.func85,Tryz.ntmps85;go_wp2_with fail;refine(H1.out).mono ?_;rintro e w1 ⟨rfl,ae⟩;replace Hb:=az Hb ae;clear ae;go_wp2;refine bodyPost_ret (v:=.bool (decide (0<=i))) (by simp[results,Tryz.results85,go_sem]) rfl ⟨rfl,?_⟩;(repeat first|exact Hb.out| (refine Below.setCell ?_ (by have:=Hb.out.size;first| (dsimp only;omega) | (show _<=_;omega) | (simp<;>omega)) _) | (refine Below.alloc ?_ zt _) |refine Below.drew ?_)
theorem afL (a:Option Addr)(n cap:Nat)(vals:List Value)(gf:Nat)(lb:Array Value)(p:Value->Bool)(w:World)(hn:vals.length=n)(hl:n<=1099511627776)(ha:At w a vals)
 (eg:∀args w,(callFunc gf args).run Tryz.prog w=.ok (.enter gf args) w)
 (hcl:∀v∈vals,∀W,Bw w W->Calls Tryz.prog gf (#[v]++lb) W λe w'=>e=.returned (.bool (p v))/\Bw W w'):
 Calls Tryz.prog 155 #[.slice a n cap,.func (.func gf) #[] lb] w λe w'=>e=.returned (.int .i64 (idxFrom p vals 0))/\Bw w w':=by
 obtain⟨Hn,Ha,gN,oK⟩:=dO hn ha hcl eg;clear hn ha hcl eg;have Hb:Hid (Bw w w):=Below.refl _ _;go_enter Tryz.func155,Tryz.ntmps155;go_wp2_with fail;go_loopw[5,8] (λ_ i wr=>∃k:Nat,k<=n/\i=.int .i64 (k:Int)/\idxFrom p vals 0=idxFrom p (vals.drop k) k/\Bw w wr) (λ_ i _=>n-(intOf i).toNat);case atStart=>exact⟨0,Nat.zero_le _,rfl,rfl,Hb.out⟩
 case round=>
  clear Hb;obtain⟨k,hk,rfl,gh,pb⟩:=hrel;obtain⟨lN,Hb⟩:=aM gh pb;clear gh pb;by_cases hlt:k<n
  . have bo:k<vals.length:=by rw[Hn.out];exact hlt
    obtain⟨b,o,hab,hcs⟩:=(Ha.out.below Hb.out).get (by intro h;rw[h]at bo;simp at bo);obtain⟨v,hv⟩:=aC (vals[k]);have hc0:wr.cell? ⟨b,o+k,none⟩=some v:=by rw[hcs k bo,List.getElem?_eq_getElem bo,hv]
    have bA:=wO n cap k (k:Int) hab hlt rfl;rw[Nat.mul_one]at bA;have hcall:=gN.out v (by rw[<-hv];exact List.getElem_mem bo) wr Hb.out;have hstep:=Mw p vals k k bo;rw[hv,<-lN.out]at hstep;obtain⟨fA,kj⟩:=aM hstep hcall;have rF:=oK.out;clear hcs hab hv hstep hcall;go_wp2_with fail;refine kj.out.mono ?_;rintro e w1 ⟨rfl,hb1⟩;replace Hb:=ah (aK Hb.out hb1);clear hb1 hc0 bA rF;obtain⟨t,ht⟩:=aC (p v);rw[ht]at fA⊢;clear ht;cases t with
    |true=>go_wp2;refine bodyPost_ret (results_tmp rfl _ _ _) rfl ⟨?_,Hb.out⟩;have h:=fA.out;rw[if_pos (by trivial)]at h;rw[h];rfl
    | false=>
      go_wp2;go_roundw;case rel=>exact⟨k+1,by omega,by go_num,by have h:=fA.out;rw[if_neg zd]at h;exact h,Hb.out⟩
      case measure=>simp[intOf];omega
  . obtain rfl:k=n:=by omega
    go_wp2;refine bodyPost_ret (results_tmp rfl _ _ _) rfl ⟨?_,Hb.out⟩;have h:=lN.out;rw[List.drop_of_length_le (by rw[Hn.out];exact Nat.le_refl _)]at h;rw[h];rfl
theorem acR (a:Option Addr)(n cap:Nat)(vals:List Value)(gf:Nat)(lb:Array Value)(p:Value->Bool)(w:World)(hn:vals.length=n)(hl:n<=1099511627776)(ha:At w a vals)
 (eg:∀args w,(callFunc gf args).run Tryz.prog w=.ok (.enter gf args) w)
 (hcl:∀v∈vals,∀W,Bw w W->Calls Tryz.prog gf (#[v]++lb) W λe w'=>e=.returned (.bool (p v))/\Bw W w'):
 Calls Tryz.prog 124 #[.slice a n cap,.func (.func gf) #[] lb] w λe w'=>e=.returned (.bool (vals.any p))/\Bw w w':=by
 have h1:=afL a n cap vals gf lb p w hn hl ha eg hcl;rw[<-Vf p vals 0];generalize idxFrom p vals 0=i at*;have H1:=ah h1;clear h1 hcl eg ha hn;have Hb:Hid (Bw w w):=Below.refl _ _;go_enter Tryz.func124,Tryz.ntmps124;go_wp2_with fail;refine(H1.out).mono ?_;rintro e w1 ⟨rfl,ae⟩;replace Hb:=az Hb ae;clear ae;go_wp2;refine bodyPost_ret (v:=.bool (decide (0<=i))) (by simp[results,Tryz.results124,go_sem]) rfl ⟨rfl,?_⟩;(repeat first|exact Hb.out| (refine Below.setCell ?_ (by have:=Hb.out.size;first| (dsimp only;omega) | (show _<=_;omega) | (simp<;>omega)) _) | (refine Below.alloc ?_ zt _) |refine Below.drew ?_)
theorem afK (a:Option Addr)(n cap:Nat)(vals:List Value)(gf:Nat)(lb:Array Value)(p:Value->Bool)(w:World)(hn:vals.length=n)(hl:n<=1099511627776)(ha:At w a vals)
 (eg:∀args w,(callFunc gf args).run Tryz.prog w=.ok (.enter gf args) w)
 (hcl:∀v∈vals,∀W,Bw w W->Calls Tryz.prog gf (#[v]++lb) W λe w'=>e=.returned (.bool (p v))/\Bw W w'):
 Calls Tryz.prog 126 #[.slice a n cap,.func (.func gf) #[] lb] w λe w'=>e=.returned (.int .i64 (idxFrom p vals 0))/\Bw w w':=by
 obtain⟨Hn,Ha,gN,oK⟩:=dO hn ha hcl eg;clear hn ha hcl eg;have Hb:Hid (Bw w w):=Below.refl _ _;go_enter Tryz.func126,Tryz.ntmps126;go_wp2_with fail;go_loopw[5,8] (λ_ i wr=>∃k:Nat,k<=n/\i=.int .i64 (k:Int)/\idxFrom p vals 0=idxFrom p (vals.drop k) k/\Bw w wr) (λ_ i _=>n-(intOf i).toNat);case atStart=>exact⟨0,Nat.zero_le _,rfl,rfl,Hb.out⟩
 case round=>
  clear Hb;obtain⟨k,hk,rfl,gh,pb⟩:=hrel;obtain⟨lN,Hb⟩:=aM gh pb;clear gh pb;by_cases hlt:k<n
  . have bo:k<vals.length:=by rw[Hn.out];exact hlt
    obtain⟨b,o,hab,hcs⟩:=(Ha.out.below Hb.out).get (by intro h;rw[h]at bo;simp at bo);obtain⟨v,hv⟩:=aC (vals[k]);have hc0:wr.cell? ⟨b,o+k,none⟩=some v:=by rw[hcs k bo,List.getElem?_eq_getElem bo,hv]
    have bA:=yJ n cap k (k:Int) hab hlt rfl;rw[Nat.mul_one]at bA;have hcall:=gN.out v (by rw[<-hv];exact List.getElem_mem bo) wr Hb.out;have hstep:=Mw p vals k k bo;rw[hv,<-lN.out]at hstep;obtain⟨fA,kj⟩:=aM hstep hcall;have rF:=oK.out;clear hcs hab hv hstep hcall;go_wp2_with fail;refine kj.out.mono ?_;rintro e w1 ⟨rfl,hb1⟩;replace Hb:=ah (aK Hb.out hb1);clear hb1 hc0 bA rF;obtain⟨t,ht⟩:=aC (p v);rw[ht]at fA⊢;clear ht;cases t with
    |true=>go_wp2;refine bodyPost_ret (results_tmp rfl _ _ _) rfl ⟨?_,Hb.out⟩;have h:=fA.out;rw[if_pos (by trivial)]at h;rw[h];rfl
    | false=>
      go_wp2;go_roundw;case rel=>exact⟨k+1,by omega,by go_num,by have h:=fA.out;rw[if_neg zd]at h;exact h,Hb.out⟩
      case measure=>simp[intOf];omega
  . obtain rfl:k=n:=by omega
    go_wp2;refine bodyPost_ret (results_tmp rfl _ _ _) rfl ⟨?_,Hb.out⟩;have h:=lN.out;rw[List.drop_of_length_le (by rw[Hn.out];exact Nat.le_refl _)]at h;rw[h];rfl
def Pt (w:World)(v:Value)(cS:List Raw):Prop:=∃a cap,v=.slice a cS.length cap/\At w a (cS.flatMap bB)
theorem Pt.below {w w':World}{v:Value}{cS:List Raw}(h:Pt w v cS)(hb:Bw w w'):Pt w' v cS:=
 let ⟨a,cap,hv,ha⟩:=h;⟨a,cap,hv,ha.below hb⟩
def aX (w:World)(a:Option Addr)(rows:List (List Raw)):Prop:=∃vals:List Value,vals.length=rows.length/\At w a vals/\∀i (h:i<rows.length) (h':i<vals.length),Pt w vals[i] rows[i]
theorem aX.below {w w':World}{a:Option Addr}{rows:List (List Raw)}(h:aX w a rows)(hb:Bw w w'):aX w' a rows:=
 let ⟨vals,hl,ha,hp⟩:=h;⟨vals,hl,ha.below hb,λi h1 h2=>(hp i h1 h2).below hb⟩
theorem kL {w w':World}{a:Option Addr}{rows:List (List Raw)}(h:Hid (aX w a rows))(k:Bw w w'):Hid (aX w' a rows):=h.out.below k
theorem aX.row {w:World}{a:Option Addr}{rows:List (List Raw)}(h:aX w a rows)(k:Nat)(hk:k<rows.length):
 ∃b o a' cap',a=some ⟨b,o,none⟩/\w.cell? ⟨b,o+k,none⟩=some (.slice a' rows[k].length cap')/\At w a' (rows[k].flatMap bB):=by
 obtain⟨vals,hl,ha,hp⟩:=h;have hk2:k<vals.length:=by rw[hl];exact hk
 obtain⟨b,o,hab,hcs⟩:=ha.get (by intro h0;rw[h0]at hk2;simp at hk2);obtain⟨a',cap',hv,hat⟩:=hp k hk hk2;exact⟨b,o,a',cap',hab,by rw[hcs k hk2,List.getElem?_eq_getElem hk2,hv],hat⟩
def uv :Value->Int
 | .slice _ n _=>n
 |_=>0
def xg (N:Int)(v:Value):Bool:=decide (uv v≠N)
theorem QB {w:World}{vals:List Value}{rows:List (List Raw)}(N:Int)(hl:vals.length=rows.length)(hp:∀i (h:i<rows.length) (h':i<vals.length),Pt w vals[i] rows[i]):
 vals.any (xg N)=rows.any λr=>decide ((r.length:Int)≠N):=by
 induction vals generalizing rows with
 |nil=>have:rows=[]:=List.length_eq_zero_iff.1 hl.symm;subst this;rfl
 | cons v vs ih=>
   match rows,hl with
   |r::rs,hl=>have h0:=hp 0 zm zm;obtain⟨a,cap,hv,_⟩:=h0;have hv':v=.slice a r.length cap:=hv;have:=ih (rows:=rs) (by simpa using hl) (λi h h'=>hp (i+1) zi zi);rw[List.any_cons,List.any_cons,this];subst hv';rfl
theorem akm (bn:Nat)(N:Int)(a:Option Addr)(n cap:Nat)(w:World)(hN:w.cell? ⟨bn,0,none⟩=some (.int .i64 N)):
 Calls Tryz.prog 84 #[.slice a n cap,.pointer (some ⟨bn,0,none⟩)] w λe w'=>e=.returned (.bool (xg N (.slice a n cap)))/\Bw w w':=by
 have Hb:Hid (Bw w w):=Below.refl _ _;go_enter Tryz.func84,Tryz.ntmps84;go_wp2;refine bodyPost_ret (results_tmp rfl _ _ _) rfl ⟨?_,Hb.out⟩;simp only[xg,uv];by_cases h:(n:Int)=N<;>simp[h]
def fM (rows:List (List Raw)):Int:=
 let n:Int:=rows.length-1
 if n<1\/8<n\/(rows.any λr=>decide ((r.length:Int)≠n))then 0 else n
theorem zJ (a:Option Addr)(L cap:Nat)(rows:List (List Raw))(w:World)(hL:rows.length=L)(hl:L<=1099511627776)(ha:aX w a rows):
 Calls Tryz.prog 44 #[.slice a L cap] w λe w'=>e=.returned (.int .i64 (fM rows))/\Bw w w':=by
 obtain⟨vals,hvl,hat,hp⟩:=ha;have sf:=λN=>QB (w:=w) N hvl hp;have hcl:∀(bn:Nat) (W:World),W.cell? ⟨bn,0,none⟩=some (.int .i64 ((L:Int)-1))->At W a vals->Calls Tryz.prog 85 #[.slice a L cap,.func (.func 84) #[] #[.pointer (some ⟨bn,0,none⟩)]] W λe w'=>e=.returned (.bool (rows.any λr=>decide ((r.length:Int)≠(L:Int)-1)))/\Bw W w':=by intro bn W hc hA;rw[<-sf];refine acS a L cap vals 84 #[.pointer (some ⟨bn,0,none⟩)] (xg ((L:Int)-1)) W (by rw[hvl,hL]) hl hA (enters_of Tryz.func84 zk rfl) (λv hv W' hb=>?_);obtain⟨i,hi,rfl⟩:=List.mem_iff_getElem.1 hv;obtain⟨a',cap',e,_⟩:=hp i (by rw[<-hvl];exact hi) hi;rw[e];exact akm bn _ a' _ cap' W' (cell_later hb hc)
 have hv:fM rows=if(L:Int)-1<1\/8<(L:Int)-1\/(rows.any λr=>decide ((r.length:Int)≠(L:Int)-1))=true then 0 else(L:Int)-1:=by unfold fM;rw[hL]
 obtain⟨T,hT⟩:=aC (rows.any λr=>decide ((r.length:Int)≠(L:Int)-1));rw[hT]at hv;simp only[hT]at hcl;obtain⟨gN,fF,Hv⟩:=cH hcl hat hv;obtain⟨V,hV⟩:=aC (fM rows);rw[hV]at Hv⊢;clear hcl hat hv sf hvl hp hL hT hV;obtain⟨W,cO,Hb,Hn⟩:=iF w 3 [.int .i64 ((L:Int)-1)];have n0:=Hn.out.c1;go_enter Tryz.func44,Tryz.ntmps44;by_cases h1:(L:Int)-1<1
 . have hv:=Hv.out;rw[if_pos (.inl h1)]at hv;subst hv;go_wp2;refine bodyPost_ret (v:=.int .i64 0) (by simp[results,Tryz.results44,go_sem]) rfl ⟨rfl,?_⟩;(repeat first|exact Hb.out| (refine Below.setCell ?_ (by have:=Hb.out.size;first| (dsimp only;omega) | (show _<=_;omega) | (simp<;>omega)) _) | (refine Below.alloc ?_ zt _) |refine Below.drew ?_)
 . by_cases h2:8<(L:Int)-1
   . have hv:=Hv.out;rw[if_pos (.inr (.inl h2))]at hv;subst hv;go_wp2;refine bodyPost_ret (v:=.int .i64 0) (by simp[results,Tryz.results44,go_sem]) rfl ⟨rfl,?_⟩;(repeat first|exact Hb.out| (refine Below.setCell ?_ (by have:=Hb.out.size;first| (dsimp only;omega) | (show _<=_;omega) | (simp<;>omega)) _) | (refine Below.alloc ?_ zt _) |refine Below.drew ?_)
   . have kj:=ah (gN.out w.heap.size W n0 (fF.out.below Hb.out));go_wp2_with fail;refine(kj.out).mono ?_;rintro e w1 ⟨rfl,ae⟩;clear n0;replace Hn:=kB Hn ae;have n0:=Hn.out.c1;replace Hb:=az Hb ae;clear ae;cases T with
     |true=>have hv:=Hv.out;rw[if_pos (.inr (.inr rfl))]at hv;subst hv;go_wp2;refine bodyPost_ret (v:=.int .i64 0) (by simp[results,Tryz.results44,go_sem]) rfl ⟨rfl,?_⟩;(repeat first|exact Hb.out| (refine Below.setCell ?_ (by have:=Hb.out.size;first| (dsimp only;omega) | (show _<=_;omega) | (simp<;>omega)) _) | (refine Below.alloc ?_ zt _) |refine Below.drew ?_)
     |false=>have hv:=Hv.out;rw[if_neg (by rintro(h|h|h);omega;omega;cases h)]at hv;subst hv;go_wp2;refine bodyPost_ret (v:=.int .i64 ((L:Int)-1)) (by simp[results,Tryz.results44,go_sem]) rfl ⟨rfl,?_⟩;(repeat first|exact Hb.out| (refine Below.setCell ?_ (by have:=Hb.out.size;first| (dsimp only;omega) | (show _<=_;omega) | (simp<;>omega)) _) | (refine Below.alloc ?_ zt _) |refine Below.drew ?_)
theorem agY (bn:Nat)(a0:Option Addr)(N c0:Nat)(a:Option Addr)(n cap:Nat)(w:World)(hN:w.cell? ⟨bn,0,none⟩=some (.slice a0 N c0)):
 Calls Tryz.prog 125 #[.slice a n cap,.pointer (some ⟨bn,0,none⟩)] w λe w'=>e=.returned (.bool (xg (N:Int) (.slice a n cap)))/\Bw w w':=by
 have Hb:Hid (Bw w w):=Below.refl _ _;go_enter Tryz.func125,Tryz.ntmps125;go_wp2;refine bodyPost_ret (results_tmp rfl _ _ _) rfl ⟨?_,Hb.out⟩;simp only[xg,uv];by_cases h:(n:Int)=(N:Int)<;>simp[h]
def sN (rows:List (List Raw)):Int:=if 8<rows.length\/(rows.any λr=>decide ((r.length:Int)≠(rows.length:Int)))then 1 else 0
theorem MN (a:Option Addr)(L cap:Nat)(rows:List (List Raw))(w:World)(hL:rows.length=L)(hl:L<=1099511627776)(ha:aX w a rows):
 Calls Tryz.prog 86 #[.slice a L cap] w λe w'=>e=.returned (.int .i64 (sN rows))/\Bw w w':=by
 obtain⟨vals,hvl,hat,hp⟩:=ha;have sf:=λN=>QB (w:=w) N hvl hp;have hcl:∀(bn:Nat) (W:World),W.cell? ⟨bn,0,none⟩=some (.slice a L cap)->At W a vals->Calls Tryz.prog 124 #[.slice a L cap,.func (.func 125) #[] #[.pointer (some ⟨bn,0,none⟩)]] W λe w'=>e=.returned (.bool (rows.any λr=>decide ((r.length:Int)≠(L:Int))))/\Bw W w':=by intro bn W hc hA;rw[<-sf];refine acR a L cap vals 125 #[.pointer (some ⟨bn,0,none⟩)] (xg (L:Int)) W (by rw[hvl,hL]) hl hA (enters_of Tryz.func125 zk rfl) (λv hv W' hb=>?_);obtain⟨i,hi,rfl⟩:=List.mem_iff_getElem.1 hv;obtain⟨a',cap',e,_⟩:=hp i (by rw[<-hvl];exact hi) hi;rw[e];exact agY bn a L cap a' _ cap' W' (cell_later hb hc)
 have hv:sN rows=if 8<L\/(rows.any λr=>decide ((r.length:Int)≠(L:Int)))=true then 1 else 0:=by unfold sN;rw[hL]
 obtain⟨T,hT⟩:=aC (rows.any λr=>decide ((r.length:Int)≠(L:Int)));rw[hT]at hv;simp only[hT]at hcl;obtain⟨gN,fF,Hv⟩:=cH hcl hat hv;obtain⟨V,hV⟩:=aC (sN rows);rw[hV]at Hv⊢;clear hcl hat hv sf hvl hp hL hT hV;obtain⟨W,cO,Hb,Hn⟩:=iF w 78 [.slice a L cap];have n0:=Hn.out.c1;go_enter Tryz.func86,Tryz.ntmps86;by_cases h1:8<L
 . have hv:=Hv.out;rw[if_pos (.inl h1)]at hv;subst hv;have h2:(8:Int)<(L:Int):=by omega
   go_wp2;refine bodyPost_ret (v:=.int .i64 1) (by simp[results,Tryz.results86,go_sem]) rfl ⟨rfl,?_⟩;(repeat first|exact Hb.out| (refine Below.setCell ?_ (by have:=Hb.out.size;first| (dsimp only;omega) | (show _<=_;omega) | (simp<;>omega)) _) | (refine Below.alloc ?_ zt _) |refine Below.drew ?_)
 . have h2:¬(8:Int)<(L:Int):=by omega
   have kj:=ah (gN.out w.heap.size W n0 (fF.out.below Hb.out));go_wp2_with fail;refine(kj.out).mono ?_;rintro e w1 ⟨rfl,ae⟩;clear n0;replace Hn:=kB Hn ae;have n0:=Hn.out.c1;replace Hb:=az Hb ae;clear ae;cases T with
   |true=>have hv:=Hv.out;rw[if_pos (.inr rfl)]at hv;subst hv;go_wp2;refine bodyPost_ret (v:=.int .i64 1) (by simp[results,Tryz.results86,go_sem]) rfl ⟨rfl,?_⟩;(repeat first|exact Hb.out| (refine Below.setCell ?_ (by have:=Hb.out.size;first| (dsimp only;omega) | (show _<=_;omega) | (simp<;>omega)) _) | (refine Below.alloc ?_ zt _) |refine Below.drew ?_)
   |false=>have hv:=Hv.out;rw[if_neg (by rintro(h|h);omega;cases h)]at hv;subst hv;go_wp2;refine bodyPost_ret (v:=.int .i64 0) (by simp[results,Tryz.results86,go_sem]) rfl ⟨rfl,?_⟩;(repeat first|exact Hb.out| (refine Below.setCell ?_ (by have:=Hb.out.size;first| (dsimp only;omega) | (show _<=_;omega) | (simp<;>omega)) _) | (refine Below.alloc ?_ zt _) |refine Below.drew ?_)
theorem Dp {rows:List (List Raw)}{n:Int}(h:fM rows=n)(h0:n≠0):1<=n/\n<=8/\(rows.length:Int)=n+1/\∀r∈rows,(r.length:Int)=n:=by
 unfold fM at h;dsimp only at h;split at h
 . exact absurd h.symm h0
 . rename_i hc
   simp only[not_or,Bool.not_eq_true,List.any_eq_false,decide_eq_true_eq,Decidable.not_not]at hc;obtain⟨h1,h2,h3⟩:=hc;refine⟨by omega,by omega,by omega,λr hr=>?_⟩;have:=h3 r hr;omega
theorem zI {rows:List (List Raw)}{n:Nat}(h1:rows.length=n+1)(h2:∀r∈rows,r.length=n)(h3:1<=n)(h8:n<=8):fM rows=n:=by
 unfold fM;dsimp only;rw[if_neg]
 . omega
 . rintro(h|h|h)
   . omega
   . omega
   . rw[List.any_eq_true]at h;obtain⟨r,hr,h⟩:=h;have:=h2 r hr;simp[h1,this]at h
def Bv (w:World)(x:Value)(n v:Nat):Prop:=v<2^n/\((x=.slice none 0 0/\n=0)\/∃b o cap,x=.slice (some ⟨b,o,none⟩) n cap/\n<=cap/\∀j,j<n->w.cell? ⟨b,o+j,none⟩=some (.int .u8 (bd v j:Int)))
theorem Bv.below {w w':World}{x:Value}{n v:Nat}(h:Bv w x n v)(hb:Bw w w'):Bv w' x n v:=by
 refine⟨h.1,?_⟩;rcases h.2 with h|⟨b,o,cap,e,h1,hc⟩
 . exact .inl h
 . exact .inr ⟨b,o,cap,e,h1,λj hj=>cell_later hb (hc j hj)⟩
theorem Bv.aod {w:World}{base:Nat}{e:TypeId}{x:Value}{n v:Nat}(h:w.ownsRow base e 1 x n (cn n (bd v)))(hx:v<2^n):Bv w x n v:=by
 refine⟨hx,?_⟩;rcases h.2 with⟨rfl,rfl⟩ |⟨g,cap,cur,rfl,hb,hg,h2,h3,h4,h5⟩
 . exact .inl ⟨rfl,rfl⟩
 . refine .inr ⟨g,0,cap,rfl,h2,λj hj=>?_⟩;have:=h.cells (g:=g) rfl j _ (kg n (bd v) j hj);have e2:((⟨g,0,none⟩:Addr).add j)=⟨g,j,none⟩:=by simp[Addr.add];omega
   rw[Nat.zero_add,<-e2];exact this
theorem Bv.an6 {w:World}{b:Nat}{t:TypeId}{n v:Nat}(h:ai w b t (cn n (bd v)))(hv:v<2^n):Bv w (.slice (some ⟨b,0,none⟩) n n) n v:=
 ⟨hv,.inr ⟨b,0,n,rfl,Nat.le_refl _,λj hj=>by rw[Nat.zero_add,h.cell,kg _ _ _ hj]⟩⟩
theorem WK (b o n cap v:Nat)(w:World)(hm:n<=1099511627776)(hcap:n<=cap)(hc:∀j,j<n->w.cell? ⟨b,o+j,none⟩=some (.int .u8 (bd v j:Int)))(hv:v<2^n):
 Calls Tryz.prog 160 #[.slice (some ⟨b,o,none⟩) n cap] w λe w'=>e=.returned (.slice (some ⟨b,o,none⟩) (bu v) cap)/\w=w':=by
 have Hc:=ah hc;clear hc;have Hv:=ah hv;clear hv;go_enter Tryz.func160,Tryz.ntmps160;go_wp2_with fail;go_loop [3] (λx=>∃k:Nat,k<=n/\v<2^k/\x=.int .i64 (k:Int)) (λx=>(intOf x).toNat)
 case atStart=>exact⟨n,Nat.le_refl _,Hv.out,rfl⟩
 case round=>
  obtain⟨k,hk,hvk,rfl⟩:=hrel;have lR:=ah hvk;clear hvk;by_cases h0:0<k
  . have hcell:w.cell? ⟨b,o+(k-1),none⟩=some (.int .u8 (bd v (k-1):Int)):=Hc.out _ zo;have bA:=ut n cap (k-1) ((k:Int)-1) (rfl:(some ⟨b,o,none⟩:Option Addr)=_) zo zo;rw[Nat.mul_one]at bA;by_cases hd:bd v (k-1)=0
    . have hd':((bd v (k-1):Int)==0)=true:=by simp[hd]
      have Hd:=ah hd;clear hd;go_wp2;refine⟨⟨k-1,by omega,?_,by go_num⟩,by simp[intOf];omega⟩;refine acf ?_ Hd.out;rw[show k-1+1=k by omega];exact lR.out
    . have hd':((bd v (k-1):Int)==0)=false:=by simp[hd]
      have Hd:=ah hd;clear hd;go_wp2;go_ret;have e:bu v=k:=by have:=ab5 (v:=v) (k:=k-1) (by rw[show k-1+1=k by omega];exact lR.out) (ace Hd.out);omega
      rw[e];exact⟨rfl,rfl⟩
  . obtain rfl:k=0:=by omega
    go_wp2;go_ret;have e:bu v=0:=by have:=lR.out;simp at this;subst this;rfl
    rw[e];exact⟨rfl,rfl⟩
theorem WL (w:World):
 Calls Tryz.prog 160 #[.slice none 0 0] w λe w'=>e=.returned (.slice none 0 0)/\w=w':=by
 go_enter Tryz.func160,Tryz.ntmps160;go_wp2_with fail;refine wp_loop_rounds 1 ?_;rw[rounds_succ];go_wp2;go_ret;exact⟨rfl,rfl⟩
def AW (x:Value)(lo:Nat):Prop:=∀b o n c,x=.slice (some ⟨b,o,none⟩) n c->lo<=b
theorem Nw (x:Value)(n v:Nat)(w:World)(hm:n<=1099511627776)(hx:Bv w x n v):
 Calls Tryz.prog 160 #[x] w λe w'=>(∃y,e=.returned y/\Bv w y (bu v) v/\∀lo,AW x lo->AW y lo)/\w=w':=by
 have hl:=fO hx.1;rcases hx.2 with⟨rfl,rfl⟩ |⟨b,o,cap,rfl,h1,hc⟩
 . refine(WL w).mono ?_;rintro e w' ⟨rfl,rfl⟩;exact⟨⟨_,rfl,⟨nS v,.inl ⟨rfl,by omega⟩⟩,λ_ h=>h⟩,rfl⟩
 . refine(WK b o n cap v w hm h1 hc hx.1).mono ?_;rintro e w' ⟨rfl,rfl⟩;exact⟨⟨_,rfl,⟨nS v,.inr ⟨b,o,cap,rfl,by omega,λj hj=>hc j zo⟩⟩,λlo h b' o' n' c' e=>by cases e;exact h _ _ _ _ rfl⟩,rfl⟩
theorem ajl (b o n cap v:Nat)(w:World)(hm:n<=1099511627776)(hcap:n<=cap)(hc:∀j,j<n->w.cell? ⟨b,o+j,none⟩=some (.int .u8 (bd v j:Int)))(hv:v<2^n):
 Calls Tryz.prog 152 #[.slice (some ⟨b,o,none⟩) n cap] w λe w'=>e=.returned (.string (bs (nt v)))/\Bw w w':=by
 have hle:=fO hv;have hcut:=WK b o n cap v w hm hcap hc hv;have hvl:=nS v;have rG:Hid ((List.range ((bu v+7)/8)).map (λj=>UInt8.ofNat (v/256^((bu v+7)/8-1-j)%256))=nt v):=MX _ _ (Be v).1 (Be v).2;generalize hL:bu v=L at*;obtain⟨nb,hnb⟩:=aC ((L+7)/8);have hmk:=qR (((L:Int)+7)/8) nb zo zo;have LV:((L:Int)+7)/8=(nb:Int):=by omega
 rw[LV]at hmk;rw[hnb]at rG;obtain⟨YJ,Hc,Hv,kV,HL⟩:=fp hcut hc hv hvl hL;clear hcut hc hv hvl hL;go_enter Tryz.func152,Tryz.ntmps152;go_wp2_with fail;refine YJ.out.mono ?_;rintro e w' ⟨rfl,rfl⟩;go_wp2_with fail;go_loopw[4] (λi wr=>∃k:Nat,k<=L/\i=.int .i64 (k:Int)/\ai wr w.heap.size 5 (cn nb (λj=>v%2^k/256^(nb-1-j)%256))/\Bw w wr) (λi _=>L-(intOf i).toNat);case atStart=>
  refine⟨0,Nat.zero_le _,rfl,?_,zl⟩;have e:cn nb (λj=>v%2^0/256^(nb-1-j)%256)=cn nb λ_=>0:=lL λj hj=>by simp[Nat.mod_one]
  rw[e];exact ai.new _ _ _
 case round=>
  obtain⟨k,hk,rfl,hB,hb⟩:=hrel;by_cases hlt:k<L
  . have hq:k/8<nb:=by omega
    obtain⟨Z,hZ⟩:=aC (bd v k);have hZ1:Z<=1:=by rw[<-hZ];exact pY v k
    have jy:wr.cell? ⟨b,o+k,none⟩=some (.int .u8 (Z:Int)):=by rw[<-hZ];exact cell_later hb (Hc.out _ zo)
    obtain⟨A,hA⟩:=aC (v%2^k/256^(k/8)%256);have hcell:wr.cell? ⟨w.heap.size,nb-1-k/8,none⟩=some (.int .u8 (A:Int)):=by rw[hB.cell,kg _ _ _ zo,show nb-1-(nb-1-k/8)=k/8 by omega,hA]
    have hfree:wr.frozen? ⟨w.heap.size,nb-1-k/8,none⟩=false:=hB.free _;obtain⟨hb1,hb2⟩:=acj v k;rw[hA,hZ]at hb1 hb2;have bK:=hB.set (nb-1-k/8) (.int .u8 ((A+Z*2^(k%8):Nat):Int));have hb3:=hb.setCell (p:=⟨w.heap.size,nb-1-k/8,none⟩) (Nat.le_refl _) (.int .u8 ((A+Z*2^(k%8):Nat):Int))
    rw[xy,lL (g:=λj=>v%2^(k+1)/256^(nb-1-j)%256) λj hj=>by
     by_cases mS:j=nb-1-k/8
     . subst mS;rw[if_pos rfl,show nb-1-(nb-1-k/8)=k/8 by omega,hb1]
     . rw[if_neg mS,ack v k _ zo]]at bK
    obtain⟨dU,Hb⟩:=aM bK hb3;clear hB hb bK hb3 hb1 hA hZ;have He:Hid ((((A:Int)+(Z:Int) *2^(k%8))%256)=((A+Z*2^(k%8):Nat):Int)):=by
     show _=_
     have:((Z:Int) *2^(k%8))=((Z*2^(k%8):Nat):Int):=by simp
     rw[this];omega
    clear hb2;go_wp2;go_region
    go_wp2;go_roundw;case rel=>rw[He.out];exact⟨k+1,by omega,by go_num,dU.out,Hb.out.drew⟩
    case measure=>simp[intOf];omega
  . obtain rfl:k=L:=by omega
    rw[Nat.mod_eq_of_lt kV.out]at hB;have vX:=xx hB nb;rw[rG.out]at vX;have Hb:=ah hb;clear hb hB;go_wp2;go_ret;exact⟨rfl,Hb.out⟩
theorem ajm (w:World):
 Calls Tryz.prog 152 #[.slice none 0 0] w λe w'=>e=.returned (.string (bs []))/\Bw w w':=by
 have hmk:=qR 0 0 rfl zo;have vX:=xx (ai.new w 5 (cn 0 λ_=>0)) 0;go_enter Tryz.func152,Tryz.ntmps152;go_wp2_with fail;refine(WL w).mono ?_;rintro e w' ⟨rfl,rfl⟩;go_wp2_with fail;refine wp_loop_rounds 1 ?_;rw[rounds_succ];go_wp2;go_ret;exact⟨rfl,zl⟩
theorem sS (x:Value)(n v:Nat)(w:World)(hm:n<=1099511627776)(hx:Bv w x n v):
 Calls Tryz.prog 152 #[x] w λe w'=>e=.returned (.string (bs (nt v)))/\Bw w w':=by
 rcases hx.2 with⟨rfl,rfl⟩ |⟨b,o,cap,rfl,h1,hc⟩
 . have h0:=hx.1;obtain rfl:v=0:=by simpa using h0
   exact ajm w
 . exact ajl b o n cap v w hm h1 hc hx.1
theorem Xz (n:Nat)(f:Nat->Nat):cn (n+1) f=cn n f++[.int .u8 (f n:Int)]:=by unfold cn;rw[List.range_succ,List.map_append];rfl
theorem ai4 (N:Nat)(w:World)(hN:N<WW):
 Calls Tryz.prog 119 #[.int .u64 (N:Int)] w λe w'=>e=.returned (.string (bs (nt N)))/\Bw w w':=by
 obtain⟨i0,hi,hz0,hz1,hz2⟩:=info_parts Tryz.aoa;have hNb:bu N<=64:=fO (by rw[jN]at hN;exact hN);have hW:=iN;go_enter Tryz.func119,Tryz.ntmps119;go_wp2_with fail;go_loopw[0,3] (λu v wr=>∃k:Nat,k<=bu N/\u=.int .u64 ((N/2^k:Nat):Int)/\wr.ownsRow w.heap.size 5 1 v k (cn k (bd N))/\Bw w wr) (λu _ _=>(intOf u).toNat);case atStart=>exact⟨0,Nat.zero_le _,by simp,World.ownsRow_nil _ _ _ _,Below.refl _ _⟩
 case round=>
  obtain⟨k,hk,rfl,hown,hb⟩:=hrel;obtain⟨M,hM⟩:=aC (N/2^k);have BD:M<18446744073709551616:=by have:=Nat.div_le_self N (2^k);omega
  have HM:=ah hM;rw[hM];have yr:N/2^(k+1)=M/2:=by rw[Nat.pow_succ,<-Nat.div_div_eq_div_mul,hM]
  have jS:bd N k=M%2:=by unfold bd;rw[hM]
  obtain⟨uV,ju⟩:=aM yr jS;clear hM yr jS hW hN;by_cases h0:0<M
  . have h01:(0:Int)<(M:Int):=by omega
    have hkl:k<bu N:=by
     rcases Nat.lt_or_ge k (bu N)with h|h
     . exact h
     . have h1:N<2^k:=Nat.lt_of_lt_of_le (nS N) (Nat.pow_le_pow_right zd h);have:=HM.out;rw[Nat.div_eq_of_lt h1]at this;omega
    have hs0:=hb.size;have mH:=ah hown;clear hown;go_wp2_with (first| (at_builtin;refine wpList_append_own _ rfl _ _ 111 rfl w.heap.size 5 i0 (.int .u8 0) 1 1 Tryz.underlying111 hi hz0 hz1 hz2 rfl zd _ _ _ rfl (mH.out.alloc _) ⟨wr.heap.size,0,none⟩ 1 1 [.int .u8 ((M:Int)%2)] rfl rfl (cell_one_new _ _ _) zy zx zo zi ?_;intro v' w1 ho hg _;obtain⟨Ho,Hg⟩:=aM ho hg;clear ho hg));go_roundw;case rel=>
     refine⟨k+1,by omega,?_,?_,?_⟩
     . rw[uV.out];go_num
     . rw[Xz,ju.out];have e:((M%2:Nat):Int)=(M:Int)%2:=by omega
       rw[e];exact Ho.out
     . exact(hb.alloc hs0 _).grown Hg.out zi (λj e=>cL mH.out j e)
    case measure=>simp[intOf];omega
  . obtain rfl:M=0:=by omega
    have TL:N<2^k:=by have:=HM.out;exact(Nat.div_eq_zero_iff_lt (Nat.pow_pos zd)).1 this
    obtain⟨IA,Hb⟩:=aM (Bv.aod hown TL) hb;clear hown TL hb;go_wp2_with fail;refine(sS u3 k N wr zo IA.out).mono ?_;rintro e w2 ⟨rfl,hb2⟩;have bV:=ah hb2;clear hb2;go_wp2;go_ret;exact⟨rfl,aK Hb.out bV.out⟩
theorem JY (a:Nat)(ha:a<256):bits .and .u8 (a:Int) 1=((a%2:Nat):Int):=by
 have h1:(BitVec.ofInt 8 (a:Int)).toNat=a:=by rw[BitVec.ofInt_natCast,BitVec.toNat_ofNat];exact Nat.mod_eq_of_lt zo
 show IntKind.u8.wrap ((BitVec.ofInt 8 (a:Int)&&&BitVec.ofInt 8 1).toNat:Int)=_
 rw[BitVec.toNat_and,h1,show(BitVec.ofInt 8 1).toNat=1 from rfl,Nat.and_one_is_mod,IntKind.wrap_u8];omega
theorem nk (l:List UInt8)(w:World)(hl:l.length<=68719476736):
 Calls Tryz.prog 132 #[.string (bs l)] w λe w'=>(∃y,e=.returned y/\Bv w' y (bu (nv l)) (nv l))/\Bw w w':=by
 obtain⟨i0,hi,hz0,hz1,hz2⟩:=info_parts Tryz.aoa;have hsz:(bs l).size=l.length:=mK l;go_enter Tryz.func132,Tryz.ntmps132;go_wp2_with fail;go_loopw[3,4,5] (λv i _ wr=>∃m:Nat,m<=l.length/\i=.int .i64 ((l.length:Int)-1-(m:Int))/\wr.ownsRow w.heap.size 5 1 v (8*m) (cn (8*m) (bd (nv l)))/\Bw w wr) (λ_ i _ _=>(intOf i+1).toNat);case atStart=>exact⟨0,Nat.zero_le _,by go_num,World.ownsRow_nil _ _ _ _,Below.refl _ _⟩
 case round=>
  obtain⟨m,hm,rfl,hown,hb⟩:=hrel;obtain⟨mH,Hb⟩:=aM hown hb;clear hown hb;by_cases hlt:m<l.length
  . have hge:(m:Int)<=(l.length:Int)-1:=by omega
    have gh:=wP l ((l.length:Int)-1-(m:Int)) (l.length-1-m) zo zo;have YG:Hid (∀k,k<8->l[l.length-1-m].toNat/2^k%2=bd (nv l) (8*m+k)):=λk hk=>ahB l m k hlt hk;have hC:=(l[l.length-1-m]'zo).toNat_lt;generalize hCe:l[l.length-1-m].toNat=C at*;clear hCe;go_wp2_with fail;go_loopw[3,5] (λv j wr=>∃k:Nat,k<=8/\j=.int .i64 (k:Int)/\wr.ownsRow w.heap.size 5 1 v (8*m+k) (cn (8*m+k) (bd (nv l)))/\Bw w wr) (λ_ j _=>8-(intOf j).toNat);case atStart=>exact⟨0,Nat.zero_le _,rfl,mH.out,Hb.out⟩
    case round=>
     clear mH Hb;obtain⟨k,hk,rfl,hown,hb⟩:=hrel;obtain⟨mH,Hb⟩:=aM hown hb;have hs0:=hb.size;clear hown hb;by_cases hk8:k<8
     . obtain ⟨Z,hZ⟩:=aC (C/2^k%2);have hbk:=YG.out k hk8;rw[hZ]at hbk;have Ad:=ah hbk;clear hbk;have hand:bits .and .u8 ((C:Int)/2^k) 1=(Z:Int):=by
        have e:(C:Int)/2^k=((C/2^k:Nat):Int):=by simp
        have:=Nat.div_le_self C (2^k);rw[e,JY _ zo,hZ]
       clear hZ;go_wp2_with (first| (at_builtin;refine wpList_append_own _ rfl _ _ 111 rfl w.heap.size 5 i0 (.int .u8 0) 1 1 Tryz.underlying111 hi hz0 hz1 hz2 rfl zd _ _ _ rfl (mH.out.alloc _) ⟨wr.heap.size,0,none⟩ 1 1 [.int .u8 (Z:Int)] rfl rfl (cell_one_new _ _ _) zy zx zo zi ?_;intro v' w1 ho hg _;obtain⟨Ho,Hg⟩:=aM ho hg;clear ho hg));go_roundw;case rel=>
        refine⟨k+1,by omega,?_,?_,?_⟩
        . go_num
        . rw[<-Nat.add_assoc,Xz,<-Ad.out];exact Ho.out
        . exact(Hb.out.alloc hs0 _).grown Hg.out zi (λj e=>cL mH.out j e)
       case measure=>simp[intOf];omega
     . obtain rfl:k=8:=by omega
       go_wp2;go_roundw;case rel=>exact⟨m+1,by omega,by go_num,mH.out,Hb.out⟩
       case measure=>simp[intOf];omega
  . obtain rfl:m=l.length:=by omega
    have IA:=ah (Bv.aod mH.out (mA l));clear hlt;go_wp2_with fail;refine(Nw u3 (8*l.length) (nv l) wr zo IA.out).mono ?_;rintro e w2 ⟨⟨y,rfl,hy,_⟩,rfl⟩;have Hy:=ah hy;clear hy;go_wp2;go_ret;exact⟨⟨_,rfl,Hy.out⟩,Hb.out⟩
theorem zz (x:Value)(n v i:Nat)(w:World)(hx:Bv w x n v)(hi:i<=1099511627776)(hn:n<=1099511627776):
 Calls Tryz.prog 179 #[x,.int .i64 (i:Int)] w λe w'=>e=.returned (.int .u8 (bd v i:Int))/\w=w':=by
 obtain⟨hv,h⟩:=hx;by_cases hlt:i<n
 . rcases h with⟨rfl,h0⟩ |⟨b,o,cap,rfl,h1,hc⟩
   . omega
   . have hcell:=hc i hlt;have bA:=ut n cap i (i:Int) (rfl:(some ⟨b,o,none⟩:Option Addr)=_) hlt rfl;rw[Nat.mul_one]at bA;clear hc hv;go_enter Tryz.func179,Tryz.ntmps179;go_wp2;go_ret;exact⟨rfl,rfl⟩
 . have h0:bd v i=0:=abW hv zo;have H0:=ah h0;clear h0 hv;rcases h with⟨rfl,h0⟩ |⟨b,o,cap,rfl,h1,hc⟩
   . subst h0;go_enter Tryz.func179,Tryz.ntmps179;go_wp2;go_ret;exact⟨by rw[H0.out];rfl,rfl⟩
   . clear hc;go_enter Tryz.func179,Tryz.ntmps179;go_wp2;go_ret;exact⟨by rw[H0.out];rfl,rfl⟩
theorem Bv.len {w:World}{x:Value}{n v:Nat}(h:Bv w x n v):∃a cap,x=.slice a n cap:=by
 rcases h.2 with⟨rfl,rfl⟩ |⟨b,o,cap,rfl,_⟩
 . exact⟨_,_,rfl⟩
 . exact⟨_,_,rfl⟩
theorem WJ (x y:Value)(n m v u:Nat)(w:World)(hx:Bv w x n v)(hy:Bv w y m u)(hn:n<=1099511627776)(hm:m<=1099511627776):
 Calls Tryz.prog 176 #[x,y] w λe w'=>e=.returned (.int .i64 (cK v u))/\w=w':=by
 obtain⟨a,cap,jk⟩:=hx.len;obtain⟨a',cap',CI⟩:=hy.len;have mP:=λi (hi:i<=1099511627776)=>zz x n v i w hx hi hn;have hby:=λi (hi:i<=1099511627776)=>zz y m u i w hy hi hm;have hv:=hx.1;have hu:=hy.1;subst jk;subst CI;obtain⟨Ae,Af,Hv,Hu⟩:=dO mP hby hv hu;clear mP hby hv hu hx hy;obtain⟨M,hM⟩:=aC (max n m);have hMI:max (n:Int) (m:Int)=(M:Int):=by omega
 have bS:Hid (v/2^M=u/2^M):=by
  show _=_
  rw[Nat.div_eq_of_lt (Nat.lt_of_lt_of_le Hv.out (Nat.pow_le_pow_right zd zo)),Nat.div_eq_of_lt (Nat.lt_of_lt_of_le Hu.out (Nat.pow_le_pow_right zd zo))]
 have BD:M<=1099511627776:=by omega
 clear hM;go_enter Tryz.func176,Tryz.ntmps176;go_wp2_with fail;go_loop [5] (λi=>∃k:Nat,k<=M/\v/2^k=u/2^k/\i=.int .i64 ((k:Int)-1)) (λi=>(intOf i+1).toNat)
 case atStart=>exact⟨M,Nat.le_refl _,bS.out,rfl⟩
 case round=>
  obtain⟨k,hk,hvk,rfl⟩:=hrel;have lR:=ah hvk;clear hvk;by_cases h0:0<k
  . obtain⟨j,rfl⟩:∃j,k=j+1:=⟨k-1,by omega⟩;have mP:=Ae.out j zo;have hby:=Af.out j zo;obtain⟨xO,Zf,DU⟩:=cH (λh=>QI (v:=v) (u:=u) lR.out h) (λh=>QI (v:=u) (u:=v) lR.out.symm h) (λh=>abV (v:=v) (u:=u) lR.out h);have hp1:=pY v j;have hq1:=pY u j;generalize bd v j=p at*;generalize bd u j=q at*;obtain⟨H1,H2⟩:=aM mP hby;clear mP hby;have hj:((j+1:Nat):Int)-1=(j:Int):=by omega
    rw[hj];clear hj h0;go_wp2_with fail;refine H1.out.mono ?_;rintro e w' ⟨rfl,rfl⟩;go_wp2_with fail;refine H2.out.mono ?_;rintro e w' ⟨rfl,rfl⟩;by_cases hpq:p<q
    . have afs:(p:Int)<(q:Int):=by omega
      go_wp2;go_ret;have:=xO.out hpq;exact⟨by unfold cK;rw[if_pos this];rfl,rfl⟩
    . have afs:¬(p:Int)<(q:Int):=by omega
      go_wp2_with fail;refine H1.out.mono ?_;rintro e w' ⟨rfl,rfl⟩;go_wp2_with fail;refine H2.out.mono ?_;rintro e w' ⟨rfl,rfl⟩;by_cases hqp:q<p
      . have afw:(q:Int)<(p:Int):=by omega
        go_wp2;go_ret;have:=Zf.out hqp;exact⟨by unfold cK;rw[if_neg zo,if_pos this];rfl,rfl⟩
      . have afw:¬(q:Int)<(p:Int):=by omega
        go_wp2;refine⟨⟨j,by omega,DU.out zo,by go_num⟩,by simp[intOf]⟩
  . obtain rfl:k=0:=by omega
    have he:v=u:=by simpa using lR.out
    go_wp2;go_ret;exact⟨by unfold cK;rw[if_neg zo,if_neg zo];rfl,rfl⟩
theorem WO (x y:Value)(n m v u:Nat)(w:World)(hx:Bv w x n v)(hy:Bv w y m u)(hn:n<=1099511627776)(hm:m<=1099511627776)(sK:u<=v):
 Calls Tryz.prog 159 #[x,y] w λe w'=>(∃z,e=.returned z/\Bv w' z n (v-u)/\AW z w.heap.size)/\Bw w w':=by
 obtain⟨a,cap,jk⟩:=hx.len;obtain⟨a',cap',CI⟩:=hy.len;have mP:=λW (hW:Bw w W) i (hi:i<=1099511627776)=>zz x n v i W (hx.below hW) hi hn;have hby:=λW (hW:Bw w W) i (hi:i<=1099511627776)=>zz y m u i W (hy.below hW) hi hm;have rO:Hid (v-u<2^n):=by show _<_;have:=hx.1;omega
 subst jk;subst CI;obtain⟨Ae,Af,AQ⟩:=cH mP hby sK;clear mP hby hx hy sK;have hmk:=qR (n:Int) n rfl zo;go_enter Tryz.func159,Tryz.ntmps159;go_wp2_with fail;go_loopw[6,7,8] (λb i _ wr=>∃k:Nat,k<=n/\i=.int .i64 (k:Int)/\b=.int .u8 (bb v u k:Int)/\ai wr w.heap.size 5 (cn n (λj=>if j<k then bd (v-u) j else 0))/\Bw w wr) (λ_ i _ _=>n-(intOf i).toNat);case atStart=>
  refine⟨0,Nat.zero_le _,rfl,by rw[abT];rfl,?_,zl⟩;have e:cn n (λj=>if j<0 then bd (v-u) j else 0)=cn n λ_=>0:=lL λj hj=>by rw[if_neg zo]
  rw[e];exact ai.new _ _ _
 case round=>
  obtain⟨k,hk,rfl,rfl,hB,hb⟩:=hrel;by_cases hlt:k<n
  . obtain⟨H1,H2⟩:=aM (Ae.out wr hb k zo) (Af.out wr hb k zo);have hs:=abS v u k;have hd:=abR v u k AQ.out;have hp:=pY v k;have hq:=pY u k;have hr:=QG v u k;have hcell:wr.cell? ⟨w.heap.size,k,none⟩=some (.int .u8 0):=by rw[hB.cell,kg _ _ _ hlt,if_neg zo];rfl
    have hfree:wr.frozen? ⟨w.heap.size,k,none⟩=false:=hB.free _;have bK:=hB.set k (.int .u8 ((bd (v-u) k:Nat):Int))
    rw[xy,lL (g:=λj=>if j<k+1 then bd (v-u) j else 0) λj hj=>by
     by_cases e:j=k
     . subst e;rw[if_pos rfl,if_pos zo]
     . rw[if_neg e];by_cases e2:j<k
       . rw[if_pos e2,if_pos zo]
       . rw[if_neg e2,if_neg zo]]at bK
    obtain⟨dU,Hb⟩:=aM bK (hb.setCell (p:=⟨w.heap.size,k,none⟩) (Nat.le_refl _) (.int .u8 ((bd (v-u) k:Nat):Int)));clear hB bK hb;generalize bd v k=p at*;generalize bd u k=q at*;generalize bb v u k=r at*;generalize bd (v-u) k=z at*;have Hs:=ah hs;clear hs;obtain⟨S,hS⟩:=aC (2+p-q-r);have hS3:S<=3:=by omega
    have hw1:IntKind.u8.wrap (2+(p:Int))=2+(p:Int):=by rw[IntKind.wrap_u8];omega
    have hw2:IntKind.u8.wrap (2+(p:Int)-(q:Int))=2+(p:Int)-(q:Int):=by rw[IntKind.wrap_u8];omega
    have hw3:IntKind.u8.wrap (2+(p:Int)-(q:Int)-(r:Int))=(S:Int):=by rw[IntKind.wrap_u8];omega
    have hand:bits .and .u8 (S:Int) 1=(z:Int):=by rw[JY S zo,<-hd];omega
    obtain⟨HS,Hd⟩:=aM hS hd;clear hS hd;go_wp2_with fail;refine H1.out.mono ?_;rintro e w' ⟨rfl,rfl⟩;go_wp2_with fail;refine H2.out.mono ?_;rintro e w' ⟨rfl,rfl⟩;go_wp2;go_roundw;case rel=>refine⟨k+1,by omega,by go_num,?_,dU.out,Hb.out⟩;rw[Hs.out];have:=HS.out;congr 1;split<;>omega
    case measure=>simp[intOf];omega
  . obtain rfl:k=n:=by omega
    rw[lL (g:=bd (v-u)) λj hj=>by rw[if_pos hj]]at hB;obtain⟨Hz,Hb⟩:=aM (Bv.an6 hB rO.out) hb;clear hB hb;go_wp2;go_ret;exact⟨⟨_,rfl,Hz.out,λb o n' c e=>by cases e;exact Nat.le_refl _⟩,Hb.out⟩
end Go.Proofs.YtdaadlblknpipaaGreatDoor
namespace Go.Proofs.YtdaadlblknpipaaGreatDoor
open Go.RowKit
abbrev aL:=List UInt8×Raw
def aN (t:aL):List Value:=[.string (bs t.1),.bool t.2.1,.string (bs t.2.2.1),.int .i64 t.2.2.2]
theorem At.term {w:World}{a:Option Addr}{ts:List aL}(h:At w a (ts.flatMap aN))(k:Nat)(hk:k<ts.length){l:List UInt8}{s:Bool}{m:List UInt8}{e:Int}(hx:ts[k]=(l,s,m,e)):
 ∃b o,a=some ⟨b,o,none⟩/\aZ w b (o+k*4) [.string (bs l),.bool s,.string (bs m),.int .i64 e]:=by
 obtain⟨b,o,hab,hcs⟩:=h.elem (f:=aN) (sz:=4) (λ_=>rfl) zd k hk;refine⟨b,o,hab,λj hj=>?_⟩;have:=hcs j hj;rw[hx]at this;rw[this];unfold aN;rw[List.getElem?_eq_getElem (by simpa using hj)]
def Bq (V:Int)(l:List UInt8)(x:Raw):Bool:=fK l V&& !(bW (aB x)==0)&&(canon (aB x)==x)
def oZ (V:Int)(ts:List aL)(k:Nat):Bool:=Bq V (ts.getD k default).1 (ts.getD k default).2&&(k==0||Op.bytesLess (bs (ts.getD (k-1) default).1).toList (bs (ts.getD k default).1).toList)
def xk (V:Int)(ts:List aL):Int:=if ¬(0<=V/\V<=12)then 1 else if 4096<ts.length then 3 else if(List.range ts.length).all (oZ V ts)then 0 else 1
end Go.Proofs.YtdaadlblknpipaaGreatDoor
namespace Go.Proofs.YtdaadlblknpipaaGreatDoor
theorem ya (a:List UInt8):Op.bytesLess a a=false:=by
 induction a with
 |nil=>rfl
 |cons x a ih=>simp[Op.bytesLess,ih]
theorem Bc {a b c:List UInt8}(h:Op.bytesLess a b=true)(k:Op.bytesLess b c=true):Op.bytesLess a c=true:=by
 induction a generalizing b c with
 | nil=>
   cases c with
   |nil=>cases b<;>simp[Op.bytesLess]at k
   |cons z c=>simp[Op.bytesLess]
 | cons x a ih=>
   cases b with
   |nil=>simp[Op.bytesLess]at h
   | cons y b=>
     cases c with
     |nil=>simp[Op.bytesLess]at k
     | cons z c=>
       simp only[Op.bytesLess,Bool.or_eq_true,Bool.and_eq_true,decide_eq_true_eq,beq_iff_eq]at h k⊢;rcases h with h|⟨rfl,h⟩
       . rcases k with k|⟨rfl,k⟩
         . exact .inl (UInt8.lt_trans h k)
         . exact .inl h
       . rcases k with k|⟨rfl,k⟩
         . exact .inl k
         . exact .inr ⟨rfl,ih h k⟩
theorem Bd {a b:List UInt8}(h:Op.bytesLess a b=false)(k:Op.bytesLess b a=false):a=b:=by
 induction a generalizing b with
 | nil=>cases b with
   |nil=>rfl
   |cons y b=>simp[Op.bytesLess]at h
 | cons x a ih=>cases b with
   |nil=>simp[Op.bytesLess]at k
   | cons y b=>
     simp only[Op.bytesLess,Bool.or_eq_false_iff,Bool.and_eq_false_iff,decide_eq_false_iff_not,beq_eq_false_iff_ne]at h k;have e:x=y:=by have h1:=UInt8.not_lt.1 h.1;have h2:=UInt8.not_lt.1 k.1;exact UInt8.le_antisymm h2 h1
     subst e;rw[ih (by rcases h.2 with h|h;exact absurd rfl h;exact h) (by rcases k.2 with h|h;exact absurd rfl h;exact h)]
def NS (x y:aL):aL:=(x.1,canon (aB x.2+aB y.2))
def uD :Nat->List aL->List aL->List aL
 |0,a,b=>a++b
 |_+1,[],b=>b
 |_+1,x::a,[]=>x::a
 |k+1,x::a,y::b=>if Op.bytesLess x.1 y.1 then x::uD k a (y::b)else if Op.bytesLess y.1 x.1 then y::uD k (x::a) b else NS x y::uD k a b
theorem MR (a b:List aL)(j k:Nat)(hj:a.length+b.length<=j)(hk:a.length+b.length<=k):uD j a b=uD k a b:=by
 induction j generalizing k a b with
 |zero=>have ha:a=[]:=List.length_eq_zero_iff.1 zo;have hb:b=[]:=List.length_eq_zero_iff.1 zo;subst ha;subst hb;cases k<;>rfl
 | succ j ih=>
   cases k with
   |zero=>have ha:a=[]:=List.length_eq_zero_iff.1 zo;have hb:b=[]:=List.length_eq_zero_iff.1 zo;subst ha;subst hb;rfl
   | succ k=>
     cases a with
     |nil=>rfl
     | cons x a=>cases b with
       |nil=>rfl
       |cons y b=>simp only[List.length_cons]at hj hk;simp only[uD];rw[ih a (y::b) k zi zi,ih (x::a) b k zi zi,ih a b k zo zo]
def fT (a b:List aL):List aL:=uD (a.length+b.length) a b
theorem yS (b:List aL):fT [] b=b:=by
 unfold fT;cases b with
 |nil=>rfl
 |cons y b=>rfl
theorem yT (a:List aL):fT a []=a:=by
 unfold fT;cases a with
 |nil=>rfl
 |cons y b=>rfl
theorem uE (x y:aL)(a b:List aL):fT (x::a) (y::b)=if Op.bytesLess x.1 y.1 then x::fT a (y::b)else if Op.bytesLess y.1 x.1 then y::fT (x::a) b else NS x y::fT a b:=by
 unfold fT;rw[show(x::a).length+(y::b).length=(a.length+b.length+1)+1 by simp;omega];simp only[uD]
 rw[MR a (y::b) (a.length+b.length+1) (a.length+(y::b).length) zi zm,MR (x::a) b (a.length+b.length+1) ((x::a).length+b.length) zi zm,
  MR a b (a.length+b.length+1) (a.length+b.length) zo zo]
theorem VV (a b:List aL):(fT a b).length<=a.length+b.length:=by
 obtain⟨n,hn⟩:=aC (a.length+b.length);induction n using Nat.strongRecOn generalizing a b with
 | _ n ih=>
   cases a with
   |nil=>rw[yS];simp
   | cons x a=>cases b with
     |nil=>rw[yT];simp
     | cons y b=>
       rw[uE];simp only[List.length_cons]at hn⊢;split
       . have:=ih _ (by simp only[List.length_cons];omega) a (y::b) rfl;simp only[List.length_cons]at this⊢;omega
       . split
         . have:=ih _ (by simp only[List.length_cons];omega) (x::a) b rfl;simp only[List.length_cons]at this⊢;omega
         . have:=ih _ zo a b rfl;simp only[List.length_cons]at this⊢;omega
def bR :List aL->List UInt8->Dyadic
 |[],_=>0
 |x::l,m=>(if x.1=m then aB x.2 else 0)+bR l m
theorem vJ (a b:List aL)(m:List UInt8):bR (a++b) m=bR a m+bR b m:=by
 induction a with
 |nil=>simp[bR]
 |cons x a ih=>simp only[List.cons_append,bR,ih];grind
theorem QU (a b:List aL)(m:List UInt8):bR (fT a b) m=bR a m+bR b m:=by
 obtain⟨n,hn⟩:=aC (a.length+b.length);induction n using Nat.strongRecOn generalizing a b with
 | _ n ih=>
   cases a with
   |nil=>rw[yS];simp[bR]
   | cons x a=>cases b with
     |nil=>rw[yT];simp[bR]
     | cons y b=>
       rw[uE];simp only[List.length_cons]at hn;split
       . have:=ih _ (by simp only[List.length_cons];omega) a (y::b) rfl;simp only[bR]at this⊢;rw[this];grind
       . split
         . have:=ih _ (by simp only[List.length_cons];omega) (x::a) b rfl;simp only[bR]at this⊢;rw[this];grind
         . rename_i h1 h2
           have:=ih _ zo a b rfl;have e:x.1=y.1:=Bd (by simpa using h1) (by simpa using h2);simp only[bR,NS,bP]at this⊢;rw[this,e];split<;>grind
def Up (l:List aL):Prop:=l.Pairwise λx y=>Op.bytesLess x.1 y.1=true
theorem Gl (a b:List aL):∀x∈fT a b,∃y∈a++b,y.1=x.1:=by
 obtain⟨n,hn⟩:=aC (a.length+b.length);induction n using Nat.strongRecOn generalizing a b with
 | _ n ih=>
   intro z hz;cases a with
   |nil=>rw[yS]at hz;exact⟨z,by simp[hz],rfl⟩
   | cons x a=>cases b with
     |nil=>rw[yT]at hz;exact⟨z,by simpa using hz,rfl⟩
     | cons y b=>
       rw[uE]at hz;simp only[List.length_cons]at hn;split at hz
       . rcases List.mem_cons.1 hz with rfl|hz
         . exact⟨z,by simp,rfl⟩
         . obtain⟨u,hu,e⟩:=ih _ (by simp only[List.length_cons];omega) a (y::b) rfl z hz;exact⟨u,by simp at hu⊢;rcases hu with h|h|h<;>simp[h],e⟩
       . split at hz
         . rcases List.mem_cons.1 hz with rfl|hz
           . exact⟨z,by simp,rfl⟩
           . obtain⟨u,hu,e⟩:=ih _ (by simp only[List.length_cons];omega) (x::a) b rfl z hz;exact⟨u,by simp at hu⊢;rcases hu with h|h|h<;>simp[h],e⟩
         . rcases List.mem_cons.1 hz with rfl|hz
           . exact⟨x,by simp,rfl⟩
           . obtain⟨u,hu,e⟩:=ih _ zo a b rfl z hz;exact⟨u,by simp at hu⊢;rcases hu with h|h<;>simp[h],e⟩
theorem ag4 (a b:List aL)(ha:Up a)(hb:Up b):Up (fT a b):=by
 obtain⟨n,hn⟩:=aC (a.length+b.length);induction n using Nat.strongRecOn generalizing a b with
 | _ n ih=>
   cases a with
   |nil=>rw[yS];exact hb
   | cons x a=>cases b with
     |nil=>rw[yT];exact ha
     | cons y b=>
       rw[uE];simp only[List.length_cons]at hn;obtain⟨ha1,ha2⟩:=List.pairwise_cons.1 ha;obtain⟨hb1,hb2⟩:=List.pairwise_cons.1 hb;split
       . rename_i h
         refine List.pairwise_cons.2 ⟨λz hz=>?_,ih _ (by simp only[List.length_cons];omega) a (y::b) ha2 hb rfl⟩;obtain⟨u,hu,e⟩:=Gl _ _ z hz;rw[<-e];rcases List.mem_append.1 hu with h2|h2
         . exact ha1 u h2
         . rcases List.mem_cons.1 h2 with rfl|h2
           . exact h
           . exact Bc h (hb1 u h2)
       . split
         . rename_i h0 h
           refine List.pairwise_cons.2 ⟨λz hz=>?_,ih _ (by simp only[List.length_cons];omega) (x::a) b ha hb2 rfl⟩;obtain⟨u,hu,e⟩:=Gl _ _ z hz;rw[<-e];rcases List.mem_append.1 hu with h2|h2
           . rcases List.mem_cons.1 h2 with rfl|h2
             . exact h
             . exact Bc h (ha1 u h2)
           . exact hb1 u h2
         . rename_i h1 h2
           have e:x.1=y.1:=Bd (by simpa using h1) (by simpa using h2);refine List.pairwise_cons.2 ⟨λz hz=>?_,ih _ zo a b ha2 hb2 rfl⟩;obtain⟨u,hu,e2⟩:=Gl _ _ z hz;rw[<-e2];show Op.bytesLess x.1 u.1=true
           rcases List.mem_append.1 hu with h3|h3
           . exact ha1 u h3
           . rw[e];exact hb1 u h3
def rf :Nat->List aL->List aL
 |0,l=>l
 |k+1,l=>if l.length<2 then l else fT (rf k (l.take (l.length/2))) (rf k (l.drop (l.length/2)))
theorem Xj (l:List aL)(j k:Nat)(hj:l.length<=j)(hk:l.length<=k):rf j l=rf k l:=by
 induction j generalizing k l with
 |zero=>have h:l=[]:=List.length_eq_zero_iff.1 zo;subst h;cases k<;>simp[rf]
 | succ j ih=>
   cases k with
   |zero=>have h:l=[]:=List.length_eq_zero_iff.1 zo;subst h;simp[rf]
   | succ k=>
     simp only[rf];split
     . rfl
     . rw[ih (l.take (l.length/2)) k zi zi,ih (l.drop (l.length/2)) k zi zi]
def fW (l:List aL):List aL:=rf l.length l
theorem GC (l:List aL)(h:l.length<2):fW l=l:=by
 unfold fW;cases l with
 |nil=>rfl
 |cons x l=>simp only[List.length_cons,rf];rw[if_pos (by simpa using h)]
theorem NR (l:List aL)(h:2<=l.length):fW l=fT (fW (l.take (l.length/2))) (fW (l.drop (l.length/2))):=by obtain⟨k,hk⟩:∃k,l.length=k+1:=⟨l.length-1,by omega⟩;unfold fW;rw[hk];simp only[rf];rw[if_neg zo,hk,Xj (l.take ((k+1)/2)) k ((l.take ((k+1)/2)).length) zi (Nat.le_refl _),Xj (l.drop ((k+1)/2)) k ((l.drop ((k+1)/2)).length) zi (Nat.le_refl _)]
theorem Gz {Q:List aL->List aL->Prop}(h0:∀l,l.length<2->Q l l)(h1:∀a b c d,Q a c->Q b d->Q (a++b) (fT c d))(l:List aL):Q l (fW l):=by
 obtain⟨n,hn⟩:=aC l.length;induction n using Nat.strongRecOn generalizing l with
 | _ n ih=>
   by_cases h:l.length<2
   . rw[GC l h];exact h0 l h
   . rw[NR l zo];have:=h1 _ _ _ _ (ih (l.take (l.length/2)).length zi (l.take (l.length/2)) rfl) (ih (l.drop (l.length/2)).length zi (l.drop (l.length/2)) rfl);rwa [List.take_append_drop]at this
theorem acN (l:List aL)(m:List UInt8):bR (fW l) m=bR l m:=
 Gz (Q:=λl r=>bR r m=bR l m) (λ_ _=>rfl) (λa b c d h1 h2=>by rw[QU,vJ,h1,h2]) l
theorem ajO (l:List aL):Up (fW l):=
 Gz (Q:=λ_ r=>Up r) (λl h=>by
  cases l with
  |nil=>exact List.Pairwise.nil
  | cons x l=>cases l with
    |nil=>exact List.pairwise_singleton _ _
    |cons y l=>simp at h;omega) (λa b c d h1 h2=>ag4 c d h1 h2) l
theorem GA (l:List aL):(fW l).length<=l.length:=
 Gz (Q:=λl r=>r.length<=l.length) (λ_ _=>Nat.le_refl _) (λa b c d h1 h2=>by have:=VV c d;simp;omega) l
theorem ajN (l:List aL):∀x∈fW l,∃y∈l,y.1=x.1:=
 Gz (Q:=λl r=>∀x∈r,∃y∈l,y.1=x.1) (λl _ x hx=>⟨x,hx,rfl⟩) (λa b c d h1 h2 x hx=>by
  obtain⟨y,hy,e⟩:=Gl c d x hx;rcases List.mem_append.1 hy with h|h
  . obtain⟨z,hz,e2⟩:=h1 y h;exact⟨z,by simp[hz],e2.trans e⟩
  . obtain⟨z,hz,e2⟩:=h2 y h;exact⟨z,by simp[hz],e2.trans e⟩) l
def gp (x:aL):Bool:=!(bW (aB x.2)==0)
def bH (l:List aL):List aL:=((fW l).filter gp).map λx=>(x.1,canon (aB x.2))
def Good (l:List aL):Prop:=Up l/\∀x∈l,aB x.2≠0/\x.2=canon (aB x.2)
theorem vM (X:Dyadic):(bW X==0)=false↔X≠0:=by
 have h:bW X=0↔X=0:=by
  constructor
  . intro h;have h1:dN X=0:=by
     unfold bW dP at h;by_cases h1:dN X<0
     . rw[if_pos h1]at h;cases h
     . rw[if_neg h1]at h;by_cases h2:dN X=0
       . exact h2
       . rw[if_neg h2]at h;cases h
    have h2:=qX X;rw[h1,uK]at h2;exact h2
  . rintro rfl;rfl
 rw[beq_eq_false_iff_ne];exact not_congr h
theorem QT (l:List aL)(m:List UInt8):bR (l.filter gp) m=bR l m:=by
 induction l with
 |nil=>rfl
 | cons x l ih=>
   rw[List.filter_cons];split
   . simp only[bR,ih]
   . rename_i h
     have h0:aB x.2=0:=Classical.byContradiction λhc=>h (by unfold gp;rw[(vM _).2 hc];rfl);simp only[bR,ih,h0];split<;>grind
theorem acI (l:List aL)(m:List UInt8):bR (l.map λx=>(x.1,canon (aB x.2))) m=bR l m:=by
 induction l with
 |nil=>rfl
 |cons x l ih=>simp only[List.map_cons,bR,ih,bP]
theorem pZ (l:List aL)(m:List UInt8):bR (bH l) m=bR l m:=by unfold bH;rw[acI,QT,acN]
theorem akk {l:List aL}(h:Up l):Up (l.map λx=>(x.1,canon (aB x.2))):=List.Pairwise.map _ (λ_ _ h=>h) h
theorem aej (l:List aL)(h:Up l):Good ((l.filter gp).map λx=>(x.1,canon (aB x.2))):=by
 refine⟨akk (List.Pairwise.filter _ h),λx hx=>?_⟩;obtain⟨y,hy,rfl⟩:=List.mem_map.1 hx;have h2:=(List.mem_filter.1 hy).2;unfold gp at h2;refine⟨?_,?_⟩
 . show aB (canon (aB y.2))≠0
   rw[bP];exact(vM _).1 (by simpa using h2)
 . show canon (aB y.2)=canon (aB (canon (aB y.2)))
   rw[bP]
theorem yf (l:List aL):Good (bH l):=aej _ (ajO l)
theorem yg (l:List aL):(bH l).length<=l.length:=by unfold bH;rw[List.length_map];exact Nat.le_trans (List.length_filter_le _ _) (GA l)
theorem QV (l:List aL)(m:List UInt8)(h:∀x∈l,x.1≠m):bR l m=0:=by
 induction l with
 |nil=>rfl
 |cons x l ih=>simp only[bR];rw[if_neg (h x zm),ih (λy hy=>h y (by simp[hy]))];grind
theorem Good.tail {x:aL}{l:List aL}(h:Good (x::l)):Good l:=⟨(List.pairwise_cons.1 h.1).2,λy hy=>h.2 y (by simp[hy])⟩
theorem Good.off {x:aL}{l:List aL}(h:Good (x::l)):bR l x.1=0:=by refine QV _ _ (λy hy e=>?_);have:=(List.pairwise_cons.1 h.1).1 y hy;rw[e,ya]at this;cases this
theorem Good.head {x:aL}{l:List aL}(h:Good (x::l)):bR (x::l) x.1=aB x.2:=by simp only[bR,if_pos,h.off];grind
theorem Good.before {x y:aL}{l:List aL}(h:Good (y::l))(hx:Op.bytesLess x.1 y.1=true):bR (y::l) x.1=0:=by
 refine QV _ _ (λz hz e=>?_);rcases List.mem_cons.1 hz with rfl|hz
 . rw[e,ya]at hx;cases hx
 . have:=Bc hx ((List.pairwise_cons.1 h.1).1 z hz);rw[e,ya]at this;cases this
theorem RJ {a b:List aL}(ha:Good a)(hb:Good b)(h:∀m,bR a m=bR b m):a=b:=by
 induction a generalizing b with
 | nil=>
   cases b with
   |nil=>rfl
   |cons y b=>have:=h y.1;rw[hb.head]at this;exact absurd this.symm (hb.2 y zm).1
 | cons x a ih=>
   cases b with
   |nil=>have:=h x.1;rw[ha.head]at this;exact absurd this (ha.2 x zm).1
   | cons y b=>
     have h1:Op.bytesLess x.1 y.1=false:=by
      cases hc:Op.bytesLess x.1 y.1 with
      |false=>rfl
      |true=>have:=h x.1;rw[ha.head,hb.before hc]at this;exact absurd this (ha.2 x zm).1
     have h2:Op.bytesLess y.1 x.1=false:=by
      cases hc:Op.bytesLess y.1 x.1 with
      |false=>rfl
      |true=>have:=h y.1;rw[hb.head,ha.before hc]at this;exact absurd this.symm (hb.2 y zm).1
     have e1:x.1=y.1:=Bd h1 h2;have e2:aB x.2=aB y.2:=by have:=h x.1;rw[ha.head]at this;rw[this,e1,hb.head]
     have e3:x=y:=by refine Prod.ext e1 ?_;rw[(ha.2 x zm).2,(hb.2 y zm).2,e2]
     subst e3
     rw[ih ha.tail hb.tail (λm=>by
      have:=h m;simp only[bR]at this;generalize (if x.1=m then aB x.2 else 0)=u at this
      grind)]
def AX (V:Nat)(ts:List aL):Prop:=Good ts/\(∀t∈ts,fK t.1 V=true)/\ts.length<=4096/\V<=12
theorem Wv {V:Nat}{ts:List aL}(h:AX V ts):xk V ts=0:=by
 obtain⟨⟨h1,h2⟩,h3,h4,h5⟩:=h;unfold xk;rw[if_neg zo,if_neg zo,if_pos];rw[List.all_eq_true];intro k hk;have hk:k<ts.length:=by simpa using hk
 have e:ts.getD k default=ts[k]:=by simp[hk]
 have hm:=List.getElem_mem hk;unfold oZ Bq;rw[e,h3 _ hm,(vM _).2 (h2 _ hm).1];have e2:(canon (aB ts[k].2)==ts[k].2)=true:=by rw[beq_iff_eq];exact(h2 _ hm).2.symm
 rw[e2];by_cases h0:k=0
 . simp[h0]
 . have hk1:k-1<ts.length:=by omega
   have e3:ts.getD (k-1) default=ts[k-1]:=by simp[hk1]
   have:=List.pairwise_iff_getElem.1 h1 (k-1) k hk1 hk zo;rw[e3,fH,fH,this];simp
theorem Good.aol {l:List aL}(h:Good l):∀t∈l,aB t.2=bR l t.1:=by
 induction l with
 |nil=>intro t ht;cases ht
 | cons x l ih=>
   intro t ht;rcases List.mem_cons.1 ht with rfl|ht
   . exact h.head.symm
   . have hne:¬x.1=t.1:=λe=>by have:=(List.pairwise_cons.1 h.1).1 t ht;rw[e,ya]at this;cases this
     simp only[bR,if_neg hne,ih h.tail t ht];grind
theorem acM {B:Nat}{l:List aL}(h:∀x∈l,Sm B (aB x.2))(m:List UInt8):Sm (B+l.length) (bR l m):=by
 induction l with
 |nil=>exact Sm.zero _
 | cons x l ih=>
   have h1:=ih (λy hy=>h y (by simp[hy]));have h2:Sm B (if x.1=m then aB x.2 else 0):=by
    split
    . exact h x zm
    . exact Sm.zero _
   exact((h2.mono (show B<=B+l.length by omega)).add h1).mono zi
theorem acF {B:Nat}{l:List aL}(h:∀x∈l,Sm B (aB x.2)):∀t∈bH l,Sm (B+l.length) (aB t.2):=by intro t ht;rw[(yf l).aol t ht,pZ];exact acM h _
theorem acD (l:List aL):∀x∈bH l,∃y∈l,y.1=x.1:=by intro x hx;unfold bH at hx;obtain⟨y,hy,rfl⟩:=List.mem_map.1 hx;exact ajN l y (List.mem_filter.1 hy).1
theorem acE {V:Nat}{l:List aL}(hV:V<=12)(hm:∀t∈l,fK t.1 V=true)(hl:l.length<=4096):AX V (bH l):=
 ⟨yf l,λt ht=>by obtain⟨y,hy,e⟩:=acD l t ht;rw[<-e];exact hm y hy,Nat.le_trans (yg l) hl,hV⟩
theorem ye {a b:List aL}(h:∀m,bR a m=bR b m):bH a=bH b:=RJ (yf a) (yf b) (λm=>by rw[pZ,pZ,h m])
theorem acC (a b:List aL):bH (bH a++bH b)=bH (a++b):=ye (λm=>by rw[vJ,vJ,pZ,pZ])
def dG (c:Dyadic)(l:List aL):List aL:=l.map λx=>(x.1,canon (aB x.2*c))
theorem QW (c:Dyadic)(l:List aL)(m:List UInt8):bR (dG c l) m=bR l m*c:=by
 induction l with
 |nil=>simp[dG,bR]
 |cons x l ih=>simp only[dG,List.map_cons,bR]at ih⊢;rw[ih,bP];split<;>grind
def pS (n:Nat):List UInt8:=List.replicate n 0
def cV (n k:Nat):List UInt8:=(List.replicate n 0).set k 1
theorem XQ (n:Nat):fK (pS n) n=true:=by unfold fK pS;rw[Bool.and_eq_true];refine⟨?_,by simp⟩;rw[List.all_eq_true];intro c hc;rw[(List.mem_replicate.1 hc).2];rfl
theorem Oa (n k:Nat):fK (cV n k) n=true:=by
 unfold fK cV;rw[Bool.and_eq_true];refine⟨?_,by simp⟩;rw[List.all_eq_true];intro c hc;rcases List.mem_or_eq_of_mem_set hc with h|h
 . rw[(List.mem_replicate.1 h).2];rfl
 . rw[h];rfl
def gK (n:Nat)(c:Dyadic)(l:Nat->Dyadic)(k:Nat):List aL:=(pS n,canon c)::(List.range k).map λj=>(cV n j,canon (l j))
def eZ (n:Nat)(c:Dyadic)(l:Nat->Dyadic)(k:Nat):List aL:=bH (gK n c l k)
theorem CK (n:Nat)(c:Dyadic)(l:Nat->Dyadic)(k:Nat):(gK n c l k).length=k+1:=by simp[gK]
theorem agk (n:Nat)(c:Dyadic)(l:Nat->Dyadic)(k:Nat):∀t∈gK n c l k,fK t.1 n=true:=by
 intro t ht;unfold gK at ht;rcases List.mem_cons.1 ht with rfl|ht
 . exact XQ n
 . obtain⟨j,_,rfl⟩:=List.mem_map.1 ht;exact Oa n j
theorem agl {B:Nat}(n:Nat)(c:Dyadic)(l:Nat->Dyadic)(k:Nat)(hc:Sm B c)(hl:∀j,j<k->Sm B (l j)):∀t∈gK n c l k,Sm B (aB t.2):=by
 intro t ht;unfold gK at ht;rcases List.mem_cons.1 ht with rfl|ht
 . show Sm B (aB (canon c));rw[bP];exact hc
 . obtain⟨j,hj,rfl⟩:=List.mem_map.1 ht;show Sm B (aB (canon (l j)));rw[bP];exact hl j (by simpa using hj)
theorem Vu (n:Nat)(c:Dyadic)(l:Nat->Dyadic)(k:Nat):gK n c l (k+1)=gK n c l k++[(cV n k,canon (l k))]:=by unfold gK;rw[List.range_succ,List.map_append];rfl
theorem EC (n:Nat)(c:Dyadic)(l:Nat->Dyadic)(k:Nat)(m:List UInt8):bR (gK n c l (k+1)) m=bR (gK n c l k) m+if cV n k=m then l k else 0:=by rw[Vu,vJ];simp only[bR,bP];grind
theorem agm (n:Nat)(c:Dyadic)(l:Nat->Dyadic)(k:Nat):bH (eZ n c l k++bH [(cV n k,canon (l k))])=eZ n c l (k+1):=by unfold eZ;rw[acC,Vu]
theorem acH (n:Nat)(c d:Dyadic)(l r:Nat->Dyadic)(u v:Dyadic)(k:Nat)(m:List UInt8):bR (gK n (c*u+d*v) (λj=>l j*u+r j*v) k) m=bR (gK n c l k) m*u+bR (gK n d r k) m*v:=by
 induction k with
 |zero=>simp[gK,bR,bP];split<;>grind
 |succ k ih=>rw[EC,ih,EC,EC];split<;>grind
theorem agj {n:Nat}{c d:Dyadic}{l r:Nat->Dyadic}(k:Nat)(hc:c=d)(h:∀j,j<k->l j=r j):gK n c l k=gK n d r k:=by unfold gK;rw[hc];congr 1;refine List.map_congr_left λj hj=>?_;rw[h j (by simpa using hj)]
theorem agn (n:Nat)(c d:Dyadic)(l r:Nat->Dyadic)(k:Nat):bH (eZ n c l k++bH (dG (-1) (eZ n d r k)))=eZ n (c-d) (λj=>l j-r j) k:=by unfold eZ;refine ye (λm=>?_);rw[vJ,pZ,pZ,QW,pZ];have h:=acH n c d l r 1 (-1) k m;rw[agj (d:=c-d) (r:=λj=>l j-r j) k (by grind) (λj _=>by grind)]at h;rw[h];grind
def gD (m:List UInt8):List aL->Nat
 |[]=>0
 |x::l=>if Op.bytesLess x.1 m then gD m l+1 else 0
theorem abb (m:List UInt8)(l:List aL):gD m l<=l.length:=by
 induction l with
 |nil=>exact Nat.le_refl _
 |cons x l ih=>unfold gD;split<;>simp<;>omega
def fV (l:List aL)(x:aL):List aL:=match l with
 |[]=>[(x.1,canon (aB x.2))]
 |y::l=>if Op.bytesLess y.1 x.1 then y::fV l x else if y.1=x.1 then(x.1,canon (aB y.2+aB x.2))::l else(x.1,canon (aB x.2))::y::l
theorem WA (l:List aL)(x:aL):fV l x=l.take (gD x.1 l)++(if(l.drop (gD x.1 l)).head?.map (·.1)=some x.1 then(x.1,canon (aB ((l.drop (gD x.1 l)).headD default).2+aB x.2))::l.drop (gD x.1 l+1)else(x.1,canon (aB x.2))::l.drop (gD x.1 l)):=by
 induction l with
 |nil=>simp[fV,gD]
 | cons y l ih=>
   unfold fV gD;by_cases h:Op.bytesLess y.1 x.1=true
   . rw[if_pos h,if_pos h,ih,show List.drop (gD x.1 l+1) (y::l)=List.drop (gD x.1 l) l from rfl,show List.drop (gD x.1 l+1+1) (y::l)=List.drop (gD x.1 l+1) l from rfl,List.take_succ_cons,List.cons_append]
   . rw[if_neg h,if_neg h];by_cases e:y.1=x.1
     . rw[if_pos e];simp[e]
     . rw[if_neg e];simp[e]
theorem acK (l:List aL)(x:aL)(m:List UInt8):bR (fV l x) m=bR l m+if x.1=m then aB x.2 else 0:=by
 induction l with
 |nil=>simp only[fV,bR,bP];grind
 | cons y l ih=>
   unfold fV;split
   . simp only[bR,ih];grind
   . split
     . rename_i h e
       simp only[bR,bP,e];split<;>grind
     . simp only[bR,bP];grind
theorem aiw (l:List aL)(x:aL):∀y∈fV l x,y.1=x.1\/∃z∈l,z.1=y.1:=by
 induction l with
 |nil=>intro y hy;simp only[fV,List.mem_singleton]at hy;rw[hy];exact .inl rfl
 | cons z l ih=>
   intro y hy;unfold fV at hy;split at hy
   . rcases List.mem_cons.1 hy with rfl|hy
     . exact .inr ⟨y,by simp,rfl⟩
     . rcases ih y hy with h|⟨u,hu,e⟩
       . exact .inl h
       . exact .inr ⟨u,by simp[hu],e⟩
   . split at hy
     . rcases List.mem_cons.1 hy with rfl|hy
       . exact .inl rfl
       . exact .inr ⟨y,by simp[hy],rfl⟩
     . rcases List.mem_cons.1 hy with rfl|hy
       . exact .inl rfl
       . exact .inr ⟨y,hy,rfl⟩
theorem aiz (l:List aL)(x:aL)(h:Up l):Up (fV l x):=by
 induction l with
 |nil=>exact List.pairwise_singleton _ _
 | cons y l ih=>
   obtain⟨h1,h2⟩:=List.pairwise_cons.1 h;unfold fV;split
   . rename_i hy
     refine List.pairwise_cons.2 ⟨λz hz=>?_,ih h2⟩;rcases aiw l x z hz with e|⟨u,hu,e⟩
     . rw[e];exact hy
     . rw[<-e];exact h1 u hu
   . rename_i hy
     split
     . rename_i e
       refine List.pairwise_cons.2 ⟨λz hz=>?_,h2⟩;show Op.bytesLess x.1 z.1=true
       rw[<-e];exact h1 z hz
     . rename_i e
       have hlt:Op.bytesLess x.1 y.1=true:=by
        cases hc:Op.bytesLess x.1 y.1 with
        |true=>rfl
        |false=>exact absurd (Bd (by simpa using hy) hc) e
       refine List.pairwise_cons.2 ⟨λz hz=>?_,h⟩;show Op.bytesLess x.1 z.1=true
       rcases List.mem_cons.1 hz with rfl|hz
       . exact hlt
       . exact Bc hlt (h1 z hz)
theorem aiv (l:List aL)(x:aL):(fV l x).length<=l.length+1:=by
 induction l with
 |nil=>exact Nat.le_refl _
 | cons y l ih=>
   unfold fV;split
   . simp only[List.length_cons];omega
   . split<;>simp
def gB (l:List aL):List aL:=l.foldl fV []
theorem zq (l:List aL)(x:aL):gB (l++[x])=fV (gB l) x:=by unfold gB;rw[List.foldl_append];rfl
theorem Dl {Q:List aL->Prop}(h0:Q [])(h1:∀l x,Q l->Q (l++[x]))(l:List aL):Q l:=by
 have h:∀r:List aL,Q r.reverse:=by
  intro r;induction r with
  |nil=>exact h0
  |cons x r ih=>rw[List.reverse_cons];exact h1 _ _ ih
 have:=h l.reverse;rwa [List.reverse_reverse]at this
theorem aiD (l:List aL):Up (gB l):=Dl (Q:=λl=>Up (gB l)) List.Pairwise.nil (λl x ih=>by rw[zq];exact aiz _ _ ih) l
theorem acL (l:List aL)(m:List UInt8):bR (gB l) m=bR l m:=Dl (Q:=λl=>bR (gB l) m=bR l m) rfl (λl x ih=>by rw[zq,acK,ih,vJ];simp only[bR];grind) l
theorem aiB (l:List aL):(gB l).length<=l.length:=Dl (Q:=λl=>(gB l).length<=l.length) (Nat.le_refl _) (λl x ih=>by rw[zq];have:=aiv (gB l) x;simp;omega) l
theorem aiu (l:List aL)(x:aL)(h:∀t∈l,t.2=canon (aB t.2)):∀t∈fV l x,t.2=canon (aB t.2):=by
 have hc:∀X:Dyadic,canon X=canon (aB (canon X)):=λX=>by rw[bP]
 induction l with
 |nil=>intro t ht;simp only[fV,List.mem_singleton]at ht;rw[ht];exact hc _
 | cons y l ih=>
   intro t ht;unfold fV at ht;split at ht
   . rcases List.mem_cons.1 ht with rfl|ht
     . exact h _ zm
     . exact ih (λt ht=>h t (by simp[ht])) t ht
   . split at ht
     . rcases List.mem_cons.1 ht with rfl|ht
       . exact hc _
       . exact h t (by simp[ht])
     . rcases List.mem_cons.1 ht with rfl|ht
       . exact hc _
       . exact h t ht
theorem WB (l:List aL):∀t∈gB l,t.2=canon (aB t.2):=Dl (Q:=λl=>∀t∈gB l,t.2=canon (aB t.2)) (λt ht=>by cases ht) (λl x ih=>by rw[zq];exact aiu _ _ ih) l
theorem aeh (l:List aL):(gB l).filter gp=bH l:=by refine RJ ⟨List.Pairwise.filter _ (aiD l),λx hx=>?_⟩ (yf l) (λm=>by rw[QT,acL,pZ]);obtain⟨h1,h2⟩:=List.mem_filter.1 hx;refine⟨(vM _).1 ?_,WB l x h1⟩;unfold gp at h2;simpa using h2
end Go.Proofs.YtdaadlblknpipaaGreatDoor
namespace Go.Proofs.YtdaadlblknpipaaGreatDoor
open Go.RowKit
attribute [local go_sem ↓] Go.wp_at_zero Go.wp_at_succ
def sV (a b:List UInt8):Int:=if Op.bytesLess a b then-1 else if Op.bytesLess b a then 1 else 0
theorem ajE (l:List UInt8)(s:Bool)(m:List UInt8)(e:Int)(l':List UInt8)(s':Bool)(m':List UInt8)(e':Int)(w:World):
 Calls Tryz.prog 100 #[.agg #[.string (bs l),.bool s,.string (bs m),.int .i64 e],.agg #[.string (bs l'),.bool s',.string (bs m'),.int .i64 e']] w λex w'=>ex=.returned (.int .i64 (sV l l'))/\Bw w w':=by
 obtain⟨R,hR⟩:=aC (sV l l');unfold sV at hR;rw[show sV l l'=R from hR];obtain⟨W,cO,Hb,Hx,Hy⟩:=ni w 107 [.string (bs l),.bool s,.string (bs m),.int .i64 e] 107 [.string (bs l'),.bool s',.string (bs m'),.int .i64 e'];obtain⟨x0,x1,x2,x3⟩:=Hx.out.c4;obtain⟨y0,y1,y2,y3⟩:=Hy.out.c4;cases h1:Op.bytesLess l l' with
 | true=>
   rw[h1]at hR;simp only[if_true]at hR;subst hR;have h2:Op.bytesLess (bs l).toList (bs l').toList=true:=by rw[fH,fH];exact h1
   clear h1;go_enter Tryz.func100,Tryz.ntmps100;go_wp2;go_ret;exact⟨rfl,Hb.out⟩
 | false=>
   rw[h1]at hR;simp only[Bool.false_eq_true,if_false]at hR;have h2:Op.bytesLess (bs l).toList (bs l').toList=false:=by rw[fH,fH];exact h1
   cases h3:Op.bytesLess l' l with
   | true=>
     rw[h3]at hR;simp only[if_true]at hR;subst hR;have hne:¬l=l':=by rintro rfl;rw[ya]at h3;cases h3
     have h4:((bs l).toList==(bs l').toList)=false:=by rw[fH,fH];simpa using hne
     have h5:¬(bs l).toList=(bs l').toList:=by rw[fH,fH];exact hne
     clear h1 h3 hne;go_enter Tryz.func100,Tryz.ntmps100;go_wp2;go_ret;exact⟨rfl,Hb.out⟩
   |false=>rw[h3]at hR;simp only[Bool.false_eq_true,if_false]at hR;subst hR;obtain rfl:=Bd h1 h3;clear h1 h3;go_enter Tryz.func100,Tryz.ntmps100;go_wp2;go_ret;exact⟨rfl,Hb.out⟩
theorem ajR (l:List UInt8)(s:Bool)(m:List UInt8)(e:Int)(l':List UInt8)(s':Bool)(m':List UInt8)(e':Int)(S:Dyadic)(B:Nat)(hS:aB (s,m,e)+aB (s',m',e')=S)(w:World)(hx:Fit B (s,m,e))(hy:Fit B (s',m',e'))(hB:B+2<=268435456)(hT:aF w):
 Calls Tryz.prog 101 #[.agg #[.string (bs l),.bool s,.string (bs m),.int .i64 e],.agg #[.string (bs l'),.bool s',.string (bs m'),.int .i64 e']] w λex w'=>ex=.returned (.agg #[.string (bs l),.bool (au (dN S)),.string (bs (nt (dN S).natAbs)),.int .i64 (dE S)])/\Bw w w':=by
 obtain⟨gZ,kR,HS,HT⟩:=dO hx hy hS hT;clear hx hy hS hT;obtain⟨W,cO,Hb,Hx,Hy,Hr⟩:=pM w 107 [.string (bs l),.bool s,.string (bs m),.int .i64 e] 107 [.string (bs l'),.bool s',.string (bs m'),.int .i64 e'] 107 [.string ⟨#[]⟩,.bool false,.string ⟨#[]⟩,.int .i64 0];obtain⟨x0,x1,x2,x3⟩:=Hx.out.c4;obtain⟨y0,y1,y2,y3⟩:=Hy.out.c4;obtain⟨r0,aj,r1,ar,r2,aG,r3,cF⟩:=Hr.out.g4;go_enter Tryz.func101,Tryz.ntmps101;go_wp2_with fail;refine bD (λw'=>w'.cell? ⟨w.heap.size,0,none⟩=some (.string (bs l))/\w'.cell? ⟨w.heap.size,1,none⟩=some (.bool s)/\w'.cell? ⟨w.heap.size,2,none⟩=some (.string (bs m))/\w'.cell? ⟨w.heap.size,3,none⟩=some (.int .i64 e)/\w'.cell? ⟨w.heap.size+1,0,none⟩=some (.string (bs l'))/\w'.cell? ⟨w.heap.size+1,1,none⟩=some (.bool s')/\w'.cell? ⟨w.heap.size+1,2,none⟩=some (.string (bs m'))/\w'.cell? ⟨w.heap.size+1,3,none⟩=some (.int .i64 e')) (λi=>Nat.blt i 9) [(0,true),(1,true),(2,true),(3,true),(4,true),(5,true),(6,false),(7,false),(8,true),(9,false)] zk zk rfl zk zc ⟨x0,x1,x2,x3,y0,y1,y2,y3⟩ ?_;iterate 6 (refine pT rfl rfl ?_ (by intro w' ⟨q0,q1,q2,q3,q4,q5,q6,q7⟩;go_simp;try with_reducible rfl);try simp only[UU])
 refine aJ rfl rfl (λK hK=>?_);go_simp;refine hK _ _ (λ_=>⟨aI x0,aI x1,aI x2,aI x3,aI y0,aI y1,aI y2,aI y3⟩) ?_;clear hK K;try simp only[UU]
 refine bE (λW3=>ai W3 (W.heap.size) 30 [.bool s,.string (bs m),.int .i64 e,.bool s',.string (bs m'),.int .i64 e']/\Bw W W3) (by first|exact dW|exact dX) ?_;rintro W3 ⟨qv,ae⟩;clear x0 x1 x2 x3 y0 y1 y2 y3 r0 aj r1 ar r2 aG r3 cF;have agP:=Hx.out.lt;have agR:=Hy.out.lt;have Gd:=Hr.out.lt;replace Hx:=kB Hx ae;replace Hy:=kB Hy ae;replace Hr:=kB Hr ae;have Hv:=ah qv;clear qv;obtain⟨x0,x1,x2,x3⟩:=Hx.out.c4;obtain⟨y0,y1,y2,y3⟩:=Hy.out.c4;obtain⟨r0,aj,r1,ar,r2,aG,r3,cF⟩:=Hr.out.g4;obtain⟨v0,v1,v2,v3,v4,v5⟩:=Hv.out.c6;replace Hb:=az Hb ae;clear ae;refine aJ rfl rfl (λK hK=>?_);go_simp;with_reducible refine(Bh s m e s' m' e' S B HS.out W.heap.size _ 30 _ gZ.out kR.out hB Hv.out ((HT.out.below Hb.out))).mono ?_
 rintro e w4 ⟨rfl,hq⟩;have ae:Bw W3 w4:=by first|exact hq|exact aO hq
 clear x0 x1 x2 x3 y0 y1 y2 y3 r0 aj r1 ar r2 aG r3 cF v0 v1 v2 v3 v4 v5;replace Hx:=kB Hx ae;replace Hy:=kB Hy ae;replace Hr:=kB Hr ae;replace Hv:=kB Hv ae;obtain⟨x0,x1,x2,x3⟩:=Hx.out.c4;obtain⟨y0,y1,y2,y3⟩:=Hy.out.c4;obtain⟨r0,aj,r1,ar,r2,aG,r3,cF⟩:=Hr.out.g4;obtain⟨v0,v1,v2,v3,v4,v5⟩:=Hv.out.c6;replace Hb:=az Hb ae;clear ae;refine hK _ _ (λ_=>⟨x0,x1,x2,x3,y0,y1,y2,y3⟩) ?_;clear hK K;try simp only[UU]
 refine pT rfl rfl ?_;try simp only[UU]
 refine aJ rfl rfl (λK hK=>?_);go_simp;refine hK _ _ (λh=>absurd h zd) ?_;clear hK K;try simp only[UU]
 clear x0 x1 x2 x3 y0 y1 y2 y3 r0 aj r1 ar r2 aG r3 cF v0 v1 v2 v3 v4 v5;refine bE (λw5=>ai w5 (w.heap.size) 107 [.string (bs l),.bool s,.string (bs m),.int .i64 e]/\ai w5 (w.heap.size+1) 107 [.string (bs l'),.bool s',.string (bs m'),.int .i64 e']/\ai w5 (w.heap.size+1+1) 107 [.string (bs l),.bool (au (dN S)),.string (bs (nt (dN S).natAbs)),.int .i64 (dE S)]/\ai w5 (W.heap.size) 30 [.bool s,.string (bs m),.int .i64 e,.bool s',.string (bs m'),.int .i64 e']/\Bw w w5) ⟨((((Hx.out.so (w.heap.size+1+1) 0 zo _).so (w.heap.size+1+1) 1 zo _).so (w.heap.size+1+1) 2 zo _).so (w.heap.size+1+1) 3 zo _),((((Hy.out.so (w.heap.size+1+1) 0 zo _).so (w.heap.size+1+1) 1 zo _).so (w.heap.size+1+1) 2 zo _).so (w.heap.size+1+1) 3 zo _),((((Hr.out.set 0 _).set 1 _).set 2 _).set 3 _),((((Hv.out.so (w.heap.size+1+1) 0 zo _).so (w.heap.size+1+1) 1 zo _).so (w.heap.size+1+1) 2 zo _).so (w.heap.size+1+1) 3 zo _),by first|exact((((Hb.out.sc (w.heap.size+1+1) 0 ZS _).sc (w.heap.size+1+1) 1 ZS _).sc (w.heap.size+1+1) 2 ZS _).sc (w.heap.size+1+1) 3 ZS _) |exact Below.drew ((((Hb.out.sc (w.heap.size+1+1) 0 ZS _).sc (w.heap.size+1+1) 1 ZS _).sc (w.heap.size+1+1) 2 ZS _).sc (w.heap.size+1+1) 3 ZS _)⟩ ?_;rintro w5 ⟨qx,qy,qr,qv,ae⟩;replace Hx:=ah qx;clear qx;replace Hy:=ah qy;clear qy;replace Hr:=ah qr;clear qr;replace Hv:=ah qv;clear qv;obtain⟨x0,x1,x2,x3⟩:=Hx.out.c4;obtain⟨y0,y1,y2,y3⟩:=Hy.out.c4;obtain⟨r0,aj,r1,ar,r2,aG,r3,cF⟩:=Hr.out.g4;obtain⟨v0,v1,v2,v3,v4,v5⟩:=Hv.out.c6;replace Hb:=ah ae;clear ae;simp only[aU];go_wp2;refine bodyPost_ret (v:=.agg #[.string (bs l),.bool (au (dN S)),.string (bs (nt (dN S).natAbs)),.int .i64 (dE S)]) (by simp[results,Tryz.results101,go_sem,r0,r1,r2,r3]) rfl ⟨rfl,?_⟩;(repeat first|exact Hb.out| (refine Below.setCell ?_ (by have:=Hb.out.size;first| (dsimp only;omega) | (show _<=_;omega) | (simp<;>omega)) _) | (refine Below.alloc ?_ zt _) |refine Below.drew ?_)
theorem acA (l:List UInt8)(s:Bool)(m:List UInt8)(e:Int)(w:World)(hx:Ok (s,m,e)):
 Calls Tryz.prog 138 #[.agg #[.string (bs l),.bool s,.string (bs m),.int .i64 e]] w λex w'=>ex=.returned (.bool (!gp (l,s,m,e)))/\Bw w w':=by
 obtain⟨g,hg⟩:=aC (bW (aB (s,m,e)));have hs:=λW=>mL s m e g hg W hx;have hz:(!gp (l,s,m,e))=decide (g=0):=by unfold gp;rw[hg];by_cases h:g=0<;>simp[h]
 rw[hz];have Hs:=ah hs;clear hs hz hg hx;obtain⟨W,cO,Hb,Hx⟩:=iF w 107 [.string (bs l),.bool s,.string (bs m),.int .i64 e];obtain⟨x0,x1,x2,x3⟩:=Hx.out.c4;go_enter Tryz.func138,Tryz.ntmps138;go_wp2_with fail;refine(Hs.out _).mono ?_;rintro e w1 ⟨rfl,ae⟩;clear x0 x1 x2 x3;replace Hx:=kB Hx ae;obtain⟨x0,x1,x2,x3⟩:=Hx.out.c4;replace Hb:=az Hb ae;clear ae;go_wp2;refine bodyPost_ret (results_tmp rfl _ _ _) rfl ⟨?_,Hb.out⟩;by_cases h:g=0<;>simp[h]
theorem agW (l:List UInt8)(s:Bool)(m:List UInt8)(e:Int)(V:Int)(bv:Nat)(w:World)(hv:w.cell? ⟨bv,0,none⟩=some (.int .i64 V))(hl:l.length<=9223372036854775807):
 Calls Tryz.prog 135 #[.agg #[.string (bs l),.bool s,.string (bs m),.int .i64 e],.pointer (some ⟨bv,0,none⟩)] w λex w'=>ex=.returned (.bool (!fK l V))/\Bw w w':=by
 have hm:=λW=>MQ l V W hl;obtain⟨t,ht⟩:=aC (fK l V);rw[ht]at hm⊢;obtain⟨Hm,Hv⟩:=aM hm hv;clear hm ht hv;obtain⟨W,cO,Hb,Hx⟩:=iF w 107 [.string (bs l),.bool s,.string (bs m),.int .i64 e];obtain⟨x0,x1,x2,x3⟩:=Hx.out.c4;have hv2:=cell_later Hb.out Hv.out;go_enter Tryz.func135,Tryz.ntmps135;go_wp2_with fail;refine(Hm.out _).mono ?_;rintro e w1 ⟨rfl,ae⟩;clear x0 x1 x2 x3;replace Hx:=kB Hx ae;obtain⟨x0,x1,x2,x3⟩:=Hx.out.c4;replace Hb:=az Hb ae;clear ae hv2;go_wp2;refine bodyPost_ret (results_tmp rfl _ _ _) rfl ⟨rfl,Hb.out⟩
def kF {α:Type}(p:α->Bool):List α->Nat->Int
 |[],_=>-1
 |v::l,k=>if p v then(k:Int)else kF p l (k+1)
theorem Vh {α:Type}(p:α->Bool)(l:List α)(k n:Nat)(h:n<l.length):kF p (l.drop n) k=if p l[n]then(k:Int)else kF p (l.drop (n+1)) (k+1):=by rw[List.drop_eq_getElem_cons h];rfl
theorem Vg {α:Type}(p:α->Bool)(l:List α)(k:Nat):decide (0<=kF p l k)=l.any p:=by
 induction l generalizing k with
 |nil=>rfl
 | cons v l ih=>
   unfold kF;rw[List.any_cons];by_cases h:p v=true
   . rw[if_pos h,h,Bool.true_or];simp
   . rw[if_neg h,ih];simp[h]
theorem Vi {α:Type}(p:α->Bool)(l:List α)(k:Nat):(kF p l k= -1/\∀x∈l,p x=false)\/∃i,∃h:i<l.length,kF p l k=((k+i:Nat):Int)/\p l[i]=true/\∀j (hj:j<i),p (l[j]'zo)=false:=by
 induction l generalizing k with
 |nil=>exact .inl ⟨rfl,λx hx=>by cases hx⟩
 | cons v l ih=>
   unfold kF;by_cases h:p v=true
   . rw[if_pos h];exact .inr ⟨0,by simp,rfl,h,λj hj=>by omega⟩
   . rw[if_neg h];rcases ih (k+1)with⟨h1,h2⟩ |⟨i,h1,h2,h3,h4⟩
     . exact .inl ⟨h1,λx hx=>by rcases List.mem_cons.1 hx with rfl|hx;simpa using h;exact h2 x hx⟩
     . refine .inr ⟨i+1,by simpa using h1,by rw[h2];congr 1;omega,by simpa using h3,λj hj=>?_⟩;cases j with
       |zero=>simpa using h
       |succ j=>simpa using h4 j zo
structure Pv where
 V:Int
 a:Option Addr
 n:Nat
 c:Nat
def kK (p:Pv):List Value:=[.int .i64 p.V,.slice p.a p.n p.c]
theorem At.an9 {w:World}{a:Option Addr}{ps:List Pv}(h:At w a (ps.flatMap kK))(k:Nat)(hk:k<ps.length){V:Int}{a':Option Addr}{n c:Nat}(hx:ps[k]=⟨V,a',n,c⟩):
 ∃b o,a=some ⟨b,o,none⟩/\aZ w b (o+k*2) [.int .i64 V,.slice a' n c]:=by
 obtain⟨b,o,hab,hcs⟩:=h.elem (f:=kK) (sz:=2) (λ_=>rfl) zd k hk;refine⟨b,o,hab,λj hj=>?_⟩;have:=hcs j hj;rw[hx]at this;rw[this];unfold kK;rw[List.getElem?_eq_getElem (by simpa using hj)]
theorem Mx (a:Option Addr)(n cap:Nat)(vals:List aL)(gf:Nat)(lb:Array Value)(p:aL->Bool)(w:World)(hn:vals.length=n)(hl:n<=1099511627776)(ha:At w a (vals.flatMap aN))
 (eg:∀args w,(callFunc gf args).run Tryz.prog w=.ok (.enter gf args) w)
 (hcl:∀x∈vals,∀W,Bw w W->Calls Tryz.prog gf (#[.agg #[.string (bs x.1),.bool x.2.1,.string (bs x.2.2.1),.int .i64 x.2.2.2]]++lb) W λe w'=>e=.returned (.bool (p x))/\Bw W w'):
 Calls Tryz.prog 163 #[.slice a n cap,.func (.func gf) #[] lb] w λe w'=>e=.returned (.int .i64 (kF p vals 0))/\Bw w w':=by
 obtain⟨Hn,Ha,gN,oK⟩:=dO hn ha hcl eg;clear hn ha hcl eg;have Hb:Hid (Bw w w):=Below.refl _ _;go_enter Tryz.func163,Tryz.ntmps163;go_wp2_with fail;go_loopw[5,8] (λ_ i wr=>∃k:Nat,k<=n/\i=.int .i64 (k:Int)/\kF p vals 0=kF p (vals.drop k) k/\Bw w wr) (λ_ i _=>n-(intOf i).toNat);case atStart=>exact⟨0,Nat.zero_le _,rfl,rfl,Hb.out⟩
 case round=>
  clear Hb;obtain⟨k,hk,rfl,gh,pb⟩:=hrel;obtain⟨lN,Hb⟩:=aM gh pb;clear gh pb;by_cases hlt:k<n
  . have bo:k<vals.length:=by rw[Hn.out];exact hlt
    obtain⟨l,s,m,e,hx⟩:∃l s m e,vals[k]=(l,s,m,e):=⟨_,_,_,_,rfl⟩;obtain⟨b,o,hab,cw⟩:=(Ha.out.below Hb.out).term k bo hx;obtain⟨q0,q1,q2,q3⟩:=cw.w4;have bA:=jl n cap k (k:Int) hab hlt rfl;have hcall:=gN.out _ (List.getElem_mem bo) wr Hb.out;have hstep:=Vh p vals k k bo;rw[<-lN.out]at hstep;rw[hx]at hcall hstep;obtain⟨fA,kj⟩:=aM hstep hcall;have rF:=oK.out;clear cw hab hx hstep hcall;go_wp2_with fail;refine kj.out.mono ?_;rintro e9 w1 ⟨rfl,hb1⟩;replace Hb:=ah (aK Hb.out hb1);clear hb1 q0 q1 q2 q3 bA rF;obtain⟨t,ht⟩:=aC (p (l,s,m,e));rw[ht]at fA⊢;clear ht;cases t with
    |true=>go_wp2;refine bodyPost_ret (results_tmp rfl _ _ _) rfl ⟨?_,Hb.out⟩;have h:=fA.out;rw[if_pos (by trivial)]at h;rw[h];rfl
    | false=>
      go_wp2;go_roundw;case rel=>exact⟨k+1,by omega,by go_num,by have h:=fA.out;rw[if_neg zd]at h;exact h,Hb.out⟩
      case measure=>simp[intOf];omega
  . obtain rfl:k=n:=by omega
    go_wp2;refine bodyPost_ret (results_tmp rfl _ _ _) rfl ⟨?_,Hb.out⟩;have h:=lN.out;rw[List.drop_of_length_le (by rw[Hn.out];exact Nat.le_refl _)]at h;rw[h];rfl
theorem acT (a:Option Addr)(n cap:Nat)(vals:List aL)(gf:Nat)(lb:Array Value)(p:aL->Bool)(w:World)(hn:vals.length=n)(hl:n<=1099511627776)(ha:At w a (vals.flatMap aN))
 (eg:∀args w,(callFunc gf args).run Tryz.prog w=.ok (.enter gf args) w)
 (hcl:∀x∈vals,∀W,Bw w W->Calls Tryz.prog gf (#[.agg #[.string (bs x.1),.bool x.2.1,.string (bs x.2.2.1),.int .i64 x.2.2.2]]++lb) W λe w'=>e=.returned (.bool (p x))/\Bw W w'):
 Calls Tryz.prog 134 #[.slice a n cap,.func (.func gf) #[] lb] w λe w'=>e=.returned (.bool (vals.any p))/\Bw w w':=by
 have h1:=Mx a n cap vals gf lb p w hn hl ha eg hcl;rw[<-Vg p vals 0];generalize kF p vals 0=i at*;have H1:=ah h1;clear h1 hcl eg ha hn;have Hb:Hid (Bw w w):=Below.refl _ _;go_enter Tryz.func134,Tryz.ntmps134;go_wp2_with fail;refine(H1.out).mono ?_;rintro e w1 ⟨rfl,ae⟩;replace Hb:=az Hb ae;clear ae;go_wp2;refine bodyPost_ret (v:=.bool (decide (0<=i))) (by simp[results,Tryz.results134,go_sem]) rfl ⟨rfl,?_⟩;(repeat first|exact Hb.out| (refine Below.setCell ?_ (by have:=Hb.out.size;first| (dsimp only;omega) | (show _<=_;omega) | (simp<;>omega)) _) | (refine Below.alloc ?_ zt _) |refine Below.drew ?_)
theorem afN (a:Option Addr)(n cap:Nat)(vals:List Pv)(gf:Nat)(lb:Array Value)(p:Pv->Bool)(w:World)(hn:vals.length=n)(hl:n<=1099511627776)(ha:At w a (vals.flatMap kK))
 (eg:∀args w,(callFunc gf args).run Tryz.prog w=.ok (.enter gf args) w)
 (hcl:∀x∈vals,∀W,Bw w W->Calls Tryz.prog gf (#[.agg #[.int .i64 x.V,.slice x.a x.n x.c]]++lb) W λe w'=>e=.returned (.bool (p x))/\Bw W w'):
 Calls Tryz.prog 164 #[.slice a n cap,.func (.func gf) #[] lb] w λe w'=>e=.returned (.int .i64 (kF p vals 0))/\Bw w w':=by
 obtain⟨Hn,Ha,gN,oK⟩:=dO hn ha hcl eg;clear hn ha hcl eg;have Hb:Hid (Bw w w):=Below.refl _ _;go_enter Tryz.func164,Tryz.ntmps164;go_wp2_with fail;go_loopw[5,8] (λ_ i wr=>∃k:Nat,k<=n/\i=.int .i64 (k:Int)/\kF p vals 0=kF p (vals.drop k) k/\Bw w wr) (λ_ i _=>n-(intOf i).toNat);case atStart=>exact⟨0,Nat.zero_le _,rfl,rfl,Hb.out⟩
 case round=>
  clear Hb;obtain⟨k,hk,rfl,gh,pb⟩:=hrel;obtain⟨lN,Hb⟩:=aM gh pb;clear gh pb;by_cases hlt:k<n
  . have bo:k<vals.length:=by rw[Hn.out];exact hlt
    obtain⟨V,a1,n1,c1,hx⟩:∃V a1 n1 c1,vals[k]=⟨V,a1,n1,c1⟩:=⟨_,_,_,_,rfl⟩;obtain⟨b,o,hab,cw⟩:=(Ha.out.below Hb.out).an9 k bo hx;obtain⟨q0,q1⟩:=cw.w2;have bA:=wN n cap k (k:Int) hab hlt rfl;have hcall:=gN.out _ (List.getElem_mem bo) wr Hb.out;have hstep:=Vh p vals k k bo;rw[<-lN.out]at hstep;rw[hx]at hcall hstep;obtain⟨fA,kj⟩:=aM hstep hcall;have rF:=oK.out;clear cw hab hx hstep hcall;go_wp2_with fail;refine kj.out.mono ?_;rintro e9 w1 ⟨rfl,hb1⟩;replace Hb:=ah (aK Hb.out hb1);clear hb1 q0 q1 bA rF;obtain⟨t,ht⟩:=aC (p ⟨V,a1,n1,c1⟩);rw[ht]at fA⊢;clear ht;cases t with
    |true=>go_wp2;refine bodyPost_ret (results_tmp rfl _ _ _) rfl ⟨?_,Hb.out⟩;have h:=fA.out;rw[if_pos (by trivial)]at h;rw[h];rfl
    | false=>
      go_wp2;go_roundw;case rel=>exact⟨k+1,by omega,by go_num,by have h:=fA.out;rw[if_neg zd]at h;exact h,Hb.out⟩
      case measure=>simp[intOf];omega
  . obtain rfl:k=n:=by omega
    go_wp2;refine bodyPost_ret (results_tmp rfl _ _ _) rfl ⟨?_,Hb.out⟩;have h:=lN.out;rw[List.drop_of_length_le (by rw[Hn.out];exact Nat.le_refl _)]at h;rw[h];rfl
theorem acU (a:Option Addr)(n cap:Nat)(vals:List Pv)(gf:Nat)(lb:Array Value)(p:Pv->Bool)(w:World)(hn:vals.length=n)(hl:n<=1099511627776)(ha:At w a (vals.flatMap kK))
 (eg:∀args w,(callFunc gf args).run Tryz.prog w=.ok (.enter gf args) w)
 (hcl:∀x∈vals,∀W,Bw w W->Calls Tryz.prog gf (#[.agg #[.int .i64 x.V,.slice x.a x.n x.c]]++lb) W λe w'=>e=.returned (.bool (p x))/\Bw W w'):
 Calls Tryz.prog 139 #[.slice a n cap,.func (.func gf) #[] lb] w λe w'=>e=.returned (.bool (vals.any p))/\Bw w w':=by
 have h1:=afN a n cap vals gf lb p w hn hl ha eg hcl;rw[<-Vg p vals 0];generalize kF p vals 0=i at*;have H1:=ah h1;clear h1 hcl eg ha hn;have Hb:Hid (Bw w w):=Below.refl _ _;go_enter Tryz.func139,Tryz.ntmps139;go_wp2_with fail;refine(H1.out).mono ?_;rintro e w1 ⟨rfl,ae⟩;replace Hb:=az Hb ae;clear ae;go_wp2;refine bodyPost_ret (v:=.bool (decide (0<=i))) (by simp[results,Tryz.results139,go_sem]) rfl ⟨rfl,?_⟩;(repeat first|exact Hb.out| (refine Below.setCell ?_ (by have:=Hb.out.size;first| (dsimp only;omega) | (show _<=_;omega) | (simp<;>omega)) _) | (refine Below.alloc ?_ zt _) |refine Below.drew ?_)
end Go.Proofs.YtdaadlblknpipaaGreatDoor
