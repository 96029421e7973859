/- Plain: a form brought back to a polynomial. -/
import Derived.Test.YtpfgffadgkkedaaGreatDoorZ13
import Derived.Test.YtpfgffadgkkedaaGreatDoorZ22
import Derived.Test.YtpfgffadgkkedaaGreatDoorZ16
set_option linter.all false
set_option maxRecDepth 100000
set_option maxHeartbeats 16000000
namespace Go.Proofs.YtpfgffadgkkedaaGreatDoor
def vV (b:Nat):List UInt8->Nat
 |[]=>0
 |c::l=>c.toNat*b^l.length+vV b l
def Zm (b:Nat)(l:List UInt8)(h:∀c∈l,c.toNat<b):vV b l<b^l.length:=by
 induction l with
 |nil=>simp[vV]
 |cons c l ih=>have h1:=ih (λx hx=>h x (by simp[hx]));have h2:=h c zm;have h3:(c.toNat+1) *b^l.length<=b*b^l.length:=Nat.mul_le_mul_right _ h2;rw[vV,List.length_cons,Nat.pow_succ,Nat.mul_comm _ b];rw[Nat.succ_mul]at h3;omega
def am3 (b:Nat)(x y:List UInt8)(hl:x.length=y.length)(hx:∀c∈x,c.toNat<b)(h:Op.bytesLess x y=true):vV b x<vV b y:=by
 induction x generalizing y with
 | nil=>cases y with
   |nil=>simp[Op.bytesLess]at h
   |cons d y=>simp at hl
 | cons c x ih=>cases y with
   |nil=>simp at hl
   | cons d y=>
     have hl2:x.length=y.length:=by simpa using hl
     simp only[Op.bytesLess,Bool.or_eq_true,Bool.and_eq_true,decide_eq_true_eq,beq_iff_eq]at h;rw[vV,vV];rcases h with h|⟨rfl,h⟩
     . have h1:=Zm b x (λz hz=>hx z (by simp[hz]));have h2:(c.toNat+1) *b^y.length<=d.toNat*b^y.length:=Nat.mul_le_mul_right _ (by have:=UInt8.lt_iff_toNat_lt.1 h;omega);rw[Nat.succ_mul]at h2;rw[hl2]at h1⊢;omega
     . have:=ih y hl2 (λz hz=>hx z (by simp[hz])) h;rw[hl2];omega
def arG (N:Nat)(l:List Nat)(s:Nat)(h:l.Pairwise (·<·))(h1:∀x∈l,s<=x/\x<N)(hs:s<=N):l.length<=N-s:=by
 induction l generalizing s with
 |nil=>simp
 |cons x l ih=>obtain⟨h2,h3⟩:=List.pairwise_cons.1 h;have h4:=h1 x zm;have:=ih (x+1) h3 (λy hy=>⟨h2 y hy,(h1 y (by simp[hy])).2⟩) zo;rw[List.length_cons];omega
def Lz {V D:Nat}{l:List Trm}(hg:Good l)(hd:DegT V D l):l.length<=(D+1)^V:=by
 have hb:∀t∈l,∀c∈t.1,c.toNat<D+1:=λt ht c hc=>by obtain⟨i,hi,e⟩:=List.mem_iff_getElem.1 hc;have h1:=zn t.1 i;rw[show t.1.getD i 0=c by rw[<-e];simp[hi]]at h1;have:=(hd t ht).2;omega
 have h:=arG ((D+1)^V) (l.map λt=>vV (D+1) t.1) 0 (by
  rw[List.pairwise_map];refine hg.1.imp_of_mem (λ{x y} hx hy h=>am3 (D+1) x.1 y.1 ?_ (hb x hx) h)
  rw[(wU (hd x hx).1).1,(wU (hd y hy).1).1]) (λx hx=>by
   obtain⟨t,ht,rfl⟩:=List.mem_map.1 hx;refine⟨Nat.zero_le _,?_⟩;have:=Zm (D+1) t.1 (hb t ht)
   rwa [(wU (hd t ht).1).1]at this) (Nat.zero_le _)
 rwa [List.length_map]at h
def agq (n:Nat):gA (lJ n)=0:=by unfold gA lJ;rw[List.map_replicate,List.sum_replicate_nat];simp
def agp (n k:Nat):gA (cF n k)<=1:=by
 unfold gA cF;by_cases h:k<n
 . have e:((List.replicate n (0:UInt8)).set k 1).map UInt8.toNat=(List.replicate n 0).set k 1:=by rw[List.map_set,List.map_replicate];rfl
   have h1:=awr (List.replicate n 0) k 1 (by simpa using h);rw[e];rw[List.sum_replicate_nat]at h1;omega
 . rw[List.set_eq_of_length_le zi,List.map_replicate,List.sum_replicate_nat];simp
def aez (n:Nat)(c:Dyadic)(l:Nat->Dyadic)(k:Nat):DegT n 1 (cW n c l k):=DegT.clean (ts:=fw n c l k) λt ht=>by
 refine⟨aey n c l k t ht,?_⟩;unfold fw at ht;rcases List.mem_cons.1 ht with rfl|ht
 . have:=agq n;show gA (lJ n)<=1;omega
 . obtain⟨j,_,rfl⟩:=List.mem_map.1 ht;exact agp n j
def ao5 (n:Nat)(P:Nat->Nat->Dyadic)(i j:Nat):DegT n 1 (jL n P i j):=by
 unfold jL;split
 . exact aez n _ _ n
 . exact aez n _ _ n
def aac (f:List UInt8->Dyadic)(c:Dyadic)(l:List Trm):bG f (cC c l)=c*bG f l:=by
 induction l with
 |nil=>show(0:Dyadic)=c*0;grind
 |cons t l ih=>have e:cC c (t::l)=(t.1,canon (dval t.2*c))::cC c l:=rfl;rw[e,bG,ih,bA,bG];grind
end Go.Proofs.YtpfgffadgkkedaaGreatDoor
