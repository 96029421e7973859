/- Plain: a form brought back to a polynomial. -/
import Derived.Test.YtpfgffadgkkedaaGreatDoorZ13
import Derived.Test.YtpfgffadgkkedaaGreatDoorZ23
import Derived.Test.YtpfgffadgkkedaaGreatDoorZ20
set_option linter.all false
set_option maxRecDepth 100000
set_option maxHeartbeats 16000000
namespace Go.Proofs.YtpfgffadgkkedaaGreatDoor
def wn (b:Nat):List UInt8->Nat
 |[]=>0
 |c::l=>c.toNat*b^l.length+wn b l
def Zi (b:Nat)(l:List UInt8)(h:∀c∈l,c.toNat<b):wn b l<b^l.length:=by
 induction l with
 |nil=>simp[wn]
 |cons c l ih=>have h1:=ih (λx hx=>h x (by simp[hx]));have h2:=h c zm;have h3:(c.toNat+1) *b^l.length<=b*b^l.length:=Nat.mul_le_mul_right _ h2;rw[wn,List.length_cons,Nat.pow_succ,Nat.mul_comm _ b];rw[Nat.succ_mul]at h3;omega
def al9 (b:Nat)(x y:List UInt8)(hl:x.length=y.length)(hx:∀c∈x,c.toNat<b)(h:Op.bytesLess x y=true):wn b x<wn b y:=by
 induction x generalizing y with
 | nil=>cases y with
   |nil=>simp[Op.bytesLess]at h
   |cons d y=>simp at hl
 | cons c x ih=>cases y with
   |nil=>simp at hl
   | cons d y=>
     have hl2:x.length=y.length:=by simpa using hl
     simp only[Op.bytesLess,Bool.or_eq_true,Bool.and_eq_true,decide_eq_true_eq,beq_iff_eq]at h;rw[wn,wn];rcases h with h|⟨rfl,h⟩
     . have h1:=Zi b x (λz hz=>hx z (by simp[hz]));have h2:(c.toNat+1) *b^y.length<=d.toNat*b^y.length:=Nat.mul_le_mul_right _ (by have:=UInt8.lt_iff_toNat_lt.1 h;omega);rw[Nat.succ_mul]at h2;rw[hl2]at h1⊢;omega
     . have:=ih y hl2 (λz hz=>hx z (by simp[hz])) h;rw[hl2];omega
def aqE (N:Nat)(l:List Nat)(s:Nat)(h:l.Pairwise (·<·))(h1:∀x∈l,s<=x/\x<N)(hs:s<=N):l.length<=N-s:=by
 induction l generalizing s with
 |nil=>simp
 |cons x l ih=>obtain⟨h2,h3⟩:=List.pairwise_cons.1 h;have h4:=h1 x zm;have:=ih (x+1) h3 (λy hy=>⟨h2 y hy,(h1 y (by simp[hy])).2⟩) zo;rw[List.length_cons];omega
def LH {V D:Nat}{l:List Trm}(hg:Good l)(hd:DegT V D l):l.length<=(D+1)^V:=by
 have hb:∀t∈l,∀c∈t.1,c.toNat<D+1:=λt ht c hc=>by obtain⟨i,hi,e⟩:=List.mem_iff_getElem.1 hc;have h1:=zr t.1 i;rw[show t.1.getD i 0=c by rw[<-e];simp[hi]]at h1;have:=(hd t ht).2;omega
 have h:=aqE ((D+1)^V) (l.map λt=>wn (D+1) t.1) 0 (by
  rw[List.pairwise_map];refine hg.1.imp_of_mem (λ{x y} hx hy h=>al9 (D+1) x.1 y.1 ?_ (hb x hx) h)
  rw[(xe (hd x hx).1).1,(xe (hd y hy).1).1]) (λx hx=>by
   obtain⟨t,ht,rfl⟩:=List.mem_map.1 hx;refine⟨Nat.zero_le _,?_⟩;have:=Zi (D+1) t.1 (hb t ht)
   rwa [(xe (hd t ht).1).1]at this) (Nat.zero_le _)
 rwa [List.length_map]at h
def afV (n:Nat):gB (lF n)=0:=by unfold gB lF;rw[List.map_replicate,List.sum_replicate_nat];simp
def afU (n k:Nat):gB (cB n k)<=1:=by
 unfold gB cB;by_cases h:k<n
 . have e:((List.replicate n (0:UInt8)).set k 1).map UInt8.toNat=(List.replicate n 0).set k 1:=by rw[List.map_set,List.map_replicate];rfl
   have h1:=avr (List.replicate n 0) k 1 (by simpa using h);rw[e];rw[List.sum_replicate_nat]at h1;omega
 . rw[List.set_eq_of_length_le zi,List.map_replicate,List.sum_replicate_nat];simp
def aeb (n:Nat)(c:Dyadic)(l:Nat->Dyadic)(k:Nat):DegT n 1 (cZ n c l k):=DegT.clean (ts:=fw n c l k) λt ht=>by
 refine⟨aea n c l k t ht,?_⟩;unfold fw at ht;rcases List.mem_cons.1 ht with rfl|ht
 . have:=afV n;show gB (lF n)<=1;omega
 . obtain⟨j,_,rfl⟩:=List.mem_map.1 ht;exact afU n j
def an7 (n:Nat)(P:Nat->Nat->Dyadic)(i j:Nat):DegT n 1 (jL n P i j):=by
 unfold jL;split
 . exact aeb n _ _ n
 . exact aeb n _ _ n
def aaa (f:List UInt8->Dyadic)(c:Dyadic)(l:List Trm):bG f (cz c l)=c*bG f l:=by
 induction l with
 |nil=>show(0:Dyadic)=c*0;grind
 |cons t l ih=>have e:cz c (t::l)=(t.1,canon (dval t.2*c))::cz c l:=rfl;rw[e,bG,ih,bu,bG];grind
end Go.Proofs.YtpfgffadgkkedaaGreatDoor
