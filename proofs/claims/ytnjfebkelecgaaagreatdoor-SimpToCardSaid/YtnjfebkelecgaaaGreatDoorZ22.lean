/- The statement's examples: ogeelaw17.num,of. -/
import Derived.Test.YtnjfebkelecgaaaGreatDoorZ17
import Derived.Test.YtnjfebkelecgaaaGreatDoorZ21
import Derived.Test.YtnjfebkelecgaaaGreatDoorZ11
import Derived.Test.YtnjfebkelecgaaaGreatDoorZ12
import Derived.Test.YtnjfebkelecgaaaGreatDoorZ13
set_option linter.all false
set_option maxRecDepth 100000
set_option maxHeartbeats 16000000
namespace Go.Proofs.YtnjfebkelecgaaaGreatDoor
open Go.RowKit
attribute [local go_sem ↓] Go.wp_at_zero Go.wp_at_succ
def dI (n:Nat):Dyadic:=Dyadic.ofIntWithPrec (n:Int) 0
end Go.Proofs.YtnjfebkelecgaaaGreatDoor
namespace Go.Proofs.YtnjfebkelecgaaaGreatDoor
def Dp (n:Nat)(h:n<4096):Sm 12 (dI n):=by
 refine⟨(n:Int) *2^12,?_,?_⟩
 . unfold dI;rw[<-xL (n:Int) 12 0];rfl
 . have:((n:Int) *2^12).natAbs=n*4096:=by rw[Int.natAbs_mul];rfl
   rw[this];have:(2:Nat)^(2*12)=16777216:=by rfl
   omega
end Go.Proofs.YtnjfebkelecgaaaGreatDoor
namespace Go.Proofs.YtnjfebkelecgaaaGreatDoor
open Go.RowKit
def aoR {B:Nat}{c:Dyadic}(h:Sm B c)(r x:List Nat):Sm B (c*delta r x):=by
 unfold delta;split
 . rw[Dyadic.mul_one];exact h
 . rw[Dyadic.mul_zero];exact Sm.zero B
def aoo {B:Nat}(r:List Nat)(ps:ja)(h:∀p∈ps,Sm B p.2):Sm (B+ps.length) (tO ps r):=by
 unfold tO;induction ps with
 |nil=>exact Sm.zero _
 |cons p ps ih=>have h1:=ih (λq hq=>h q (by simp[hq]));have h2:=aoR (h p zm) r p.1;have h3:=Sm.add (h2.mono (show B<=B+ps.length by omega)) h1;rw[List.length_cons,<-Nat.add_assoc];exact h3
def aoq {B C:Nat}(R:List (List Nat))(ps:ja)(h:∀p∈ps,Sm B p.2)(hC:B+ps.length<=C):∀d∈pY R ps,Sm C d:=by intro d hd;unfold pY at hd;rw[List.mem_map]at hd;obtain⟨r,_,rfl⟩:=hd;exact(aoo r ps h).mono hC
def aif {B:Nat}{cs ds:List Dyadic}(h:∀c∈cs,Sm B c)(h':∀c∈ds,Sm B c):∀c∈List.zipWith (·+·) cs ds,Sm (B+1) c:=by intro c hc;rw[List.mem_iff_getElem]at hc;obtain⟨k,hk,rfl⟩:=hc;rw[List.length_zipWith]at hk;rw[List.getElem_zipWith];exact Sm.add (h _ (List.getElem_mem zo)) (h' _ (List.getElem_mem zo))
end Go.Proofs.YtnjfebkelecgaaaGreatDoor
namespace Go.Proofs.YtnjfebkelecgaaaGreatDoor
def sP (V D:Nat)(cs l:List Dyadic):List Dyadic:=pY (bZ (V+1) (D+1)) (Cy (bZ (V+1) D) cs λk=>l.getD k 0)
def Xi (V D:Nat)(cs l:List Dyadic):(sP V D cs l).length=cnt V (D+1):=by unfold sP;rw[aop,lv]
def axE (x:List Nat)(c:Dyadic)(l:Nat->Dyadic):(uG x c l).length=x.length:=by simp[uG]
def axD {A B V D:Nat}{cs l:List Dyadic}(h:∀c∈cs,Sm A c)(h':∀c∈l,Sm B c)(hV:V<=8)(hc:cnt V D<=512):∀d∈sP V D cs l,Sm (A+B+4608) d:=by
 have iw:(bZ (V+1) D).length=cnt V D:=lv V D;have hm:∀x∈bZ (V+1) D,x.length=V+1:=λx hx=>((qP V D x).1 hx).1;unfold sP;generalize bZ (V+1) D=R at*;have e:Cy R cs (λk=>l.getD k 0)=uC (λk=>uG (R.getD k []) (cs.getD k 0) λk=>l.getD k 0) R.length:=rfl;have hs:∀k,k<R.length->(R.getD k []).length=V+1:=λk hk=>by
  have:R.getD k []=R[k]:=by simp[hk]
  rw[this];exact hm _ (List.getElem_mem hk)
 have hl:=agy (λk=>uG (R.getD k []) (cs.getD k 0) λk=>l.getD k 0) 9 R.length R.length (Nat.le_refl _) (λk hk=>by rw[axE,hs k hk];omega)
 refine aoq (B:=A+B) _ _ ?_ ?_
 . rw[e];refine agx _ R.length R.length (Nat.le_refl _) (λk hk p hp=>?_);unfold uG at hp;rw[List.mem_map]at hp;obtain⟨t,_,rfl⟩:=hp;exact Sm.mul (sA h k) (sA h' t)
 . rw[e];omega
def fW (V:Nat):Nat->List Dyadic->List (List Dyadic)->List Dyadic
 |_,cs,[]=>cs
 |D,cs,l::ls=>fW V (D+1) (sP V D cs l) ls
def ap8 (V D:Nat)(cs:List Dyadic)(ls ms:List (List Dyadic)):fW V D cs (ls++ms)=fW V (D+ls.length) (fW V D cs ls) ms:=by
 induction ls generalizing D cs with
 |nil=>rfl
 |cons l ls ih=>rw[List.cons_append,fW,fW,ih,List.length_cons];rw[show D+1+ls.length=D+(ls.length+1)by omega]
def abO (V D:Nat)(cs:List Dyadic)(ls:List (List Dyadic))(l:List Dyadic):fW V D cs (ls++[l])=sP V (D+ls.length) (fW V D cs ls) l:=by rw[ap8];rfl
def abM (V D:Nat)(cs:List Dyadic)(ls:List (List Dyadic))(h:cs.length=cnt V D):(fW V D cs ls).length=cnt V (D+ls.length):=by
 induction ls generalizing D cs with
 |nil=>exact h
 |cons l ls ih=>rw[fW,ih _ _ (Xi V D cs l),List.length_cons];rw[show D+1+ls.length=D+(ls.length+1)by omega]
def abN {A B V D:Nat}{cs:List Dyadic}(ls:List (List Dyadic))(h:∀c∈cs,Sm A c)(h':∀l∈ls,∀c∈l,Sm B c)(hV:V<=8)(hc:∀d,d<D+ls.length->cnt V d<=512):∀d∈fW V D cs ls,Sm (A+ls.length* (B+4608)) d:=by
 induction ls generalizing D cs A with
 |nil=>simpa[fW]using h
 |cons l ls ih=>have h1:=axD (V:=V) (D:=D) h (h' l zm) hV (hc D zm);have h2:=ih (D:=D+1) h1 (λm hm=>h' m (by simp[hm])) (λd hd=>hc d (by rw[List.length_cons];omega));intro d hd;refine(h2 d hd).mono ?_;rw[List.length_cons,Nat.succ_mul];omega
def av1 (V:Nat):bZ (V+1) 0=[List.replicate (V+1) 0]:=by
 have h1:(bZ (V+1) 0).length=1:=by rw[lv,ry]
 obtain⟨x,hx⟩:∃x,bZ (V+1) 0=[x]:=List.length_eq_one_iff.1 h1;have hm:=(qP V 0 x).1 (by rw[hx];simp);rw[hx];congr 1;refine List.eq_replicate_iff.2 ⟨hm.1,λa ha=>?_⟩;have:=JO ha;omega
def lQ (S:List (List Dyadic))(k:Nat):List Dyadic:=S.map λr=>r.getD k 0
def jO (S:List (List Dyadic))(es:List Nat)(n:Nat):List (List Dyadic):=(List.range n).flatMap λk=>List.replicate (es.getD k 0) (lQ S k)
def nJ (V:Nat):List Dyadic:=List.replicate (V+1) 1
def kz (V D:Nat)(S:List (List Dyadic))(c:Dyadic)(es:List Nat):List Dyadic:=fW V 0 [c] (jO S es es.length++List.replicate (D-es.sum) (nJ V))
def fD (V D:Nat)(S:List (List Dyadic))(ts:List (Dyadic×List Nat)):List Dyadic:=ts.foldl (λs t=>List.zipWith (·+·) s (kz V D S t.1 t.2)) (List.replicate (cnt V D) 0)
def WS (S:List (List Dyadic))(es:List Nat)(n:Nat):jO S es (n+1)=jO S es n++List.replicate (es.getD n 0) (lQ S n):=by unfold jO;rw[List.range_succ,List.flatMap_append];simp
def OP (S:List (List Dyadic))(es:List Nat)(n:Nat)(h:n<=es.length):(jO S es n).length=(es.take n).sum:=by
 induction n with
 |zero=>rfl
 | succ n ih=>
   rw[WS,List.length_append,ih zo,List.take_succ_eq_append_getElem zo,List.sum_append,List.length_replicate];have:es.getD n 0=es[n]:=by simp[show n<es.length by omega]
   rw[this];simp
def WT (V D:Nat)(S:List (List Dyadic))(es:List Nat)(h:es.sum<=D):(jO S es es.length++List.replicate (D-es.sum) (nJ V)).length=D:=by rw[List.length_append,OP _ _ _ (Nat.le_refl _),List.take_length,List.length_replicate];omega
def awN {P:List Dyadic->Prop}(V D:Nat)(S:List (List Dyadic))(es:List Nat)(h1:∀k,k<es.length->P (lQ S k))(h2:P (nJ V)):∀l∈jO S es es.length++List.replicate (D-es.sum) (nJ V),P l:=by
 intro l hl;rw[List.mem_append]at hl;rcases hl with hl|hl
 . unfold jO at hl;rw[List.mem_flatMap]at hl;obtain⟨k,hk,hl⟩:=hl;rw[List.mem_range]at hk;rw[(List.mem_replicate.1 hl).2];exact h1 k hk
 . rw[(List.mem_replicate.1 hl).2];exact h2
def SN (V D:Nat)(S:List (List Dyadic))(c:Dyadic)(es:List Nat)(h:es.sum<=D):(kz V D S c es).length=cnt V D:=by unfold kz;rw[abM _ _ _ _ (by rw[ry];rfl),WT _ _ _ _ h,Nat.zero_add]
def abF {A B V D:Nat}{S:List (List Dyadic)}{c:Dyadic}{es:List Nat}(hc:Sm A c)(hS:∀r∈S,∀d∈r,Sm B d)(hB:1<=B)(hV:V<=8)(h:es.sum<=D)(h5:∀d,d<D->cnt V d<=512):∀d∈kz V D S c es,Sm (A+D* (B+4608)) d:=by
 have hg:=abN (A:=A) (B:=B) (V:=V) (D:=0) (cs:=[c]) (jO S es es.length++List.replicate (D-es.sum) (nJ V)) (by simpa using hc) (awN (P:=λl=>∀c∈l,Sm B c) V D S es (λk _=>by
  intro c hc;unfold lQ at hc;obtain⟨r,hr,rfl⟩:=List.mem_map.1 hc
  exact sA (hS r hr) k) (by
  intro c hc;rw[(List.mem_replicate.1 hc).2]
  exact Sm.mono (A:=1) ⟨2,by decide,by decide⟩ hB)) hV (by rw[WT _ _ _ _ h,Nat.zero_add];exact h5)
 rw[WT _ _ _ _ h]at hg;exact hg
def xH (X:Nat->Dyadic)(x:List Nat):Nat->Dyadic
 |0=>1
 |k+1=>xH X x k*zZ (X k) (x.getD k 0)
def Mb (X:Nat->Dyadic)(V D:Nat)(cs:List Dyadic):Dyadic:=Ah (λx=>xH X x (V+1)) (bZ (V+1) D) cs
def ar8 {V D:Nat}{x:List Nat}(h:x∈bZ (V+1) D)(k:Nat)(hk:k<V+1):gm x k∈bZ (V+1) (D+1):=by obtain⟨h1,h2⟩:=(qP V D x).1 h;exact(qP V (D+1) _).2 ⟨by unfold gm;rw[List.length_set,h1],by rw[afk x k zo,h2]⟩
def OW {α:Type}(f:α->Dyadic):List α->Dyadic
 |[]=>0
 |x::l=>f x+OW f l
def apP {h:List Dyadic->Dyadic}(V D N:Nat)(S:List (List Dyadic))(hN:cnt V D=N)(h0:h (List.replicate N 0)=0)(hadd:∀a b:List Dyadic,a.length=N->b.length=N->h (List.zipWith (·+·) a b)=h a+h b)(ts:List (Dyadic×List Nat))(ht:∀t∈ts,t.2.sum<=D):h (fD V D S ts)=OW (λt=>h (kz V D S t.1 t.2)) ts/\(fD V D S ts).length=N:=by
 have gen:∀(ts:List (Dyadic×List Nat)) (acc:List Dyadic),(∀t∈ts,t.2.sum<=D)->acc.length=N->h (ts.foldl (λs t=>List.zipWith (·+·) s (kz V D S t.1 t.2)) acc)=h acc+OW (λt=>h (kz V D S t.1 t.2)) ts/\(ts.foldl (λs t=>List.zipWith (·+·) s (kz V D S t.1 t.2)) acc).length=N:=by
  intro ts;induction ts with
  |nil=>intro acc _ ha;exact⟨by show h acc=h acc+0;grind,ha⟩
  | cons t ts ih=>
    intro acc ht ha;have hl:(kz V D S t.1 t.2).length=N:=by rw[SN V D S t.1 t.2 (ht t zm),hN]
    obtain⟨h1,h2⟩:=ih (List.zipWith (·+·) acc (kz V D S t.1 t.2)) (λu hu=>ht u (by simp[hu])) (by rw[List.length_zipWith,ha,hl,Nat.min_self]);refine⟨?_,h2⟩;rw[List.foldl_cons,h1,hadd _ _ ha hl,OW];grind
 unfold fD;rw[hN];obtain⟨h1,h2⟩:=gen ts (List.replicate N 0) ht zm;exact⟨by rw[h1,h0];grind,h2⟩
end Go.Proofs.YtnjfebkelecgaaaGreatDoor
