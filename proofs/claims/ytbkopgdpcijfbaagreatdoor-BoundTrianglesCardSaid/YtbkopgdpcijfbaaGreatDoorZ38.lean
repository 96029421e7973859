/- Plain: a form brought back to a polynomial. -/
import Derived.Test.YtbkopgdpcijfbaaGreatDoorZ14
import Derived.Test.YtbkopgdpcijfbaaGreatDoorZ24
import Derived.Test.YtbkopgdpcijfbaaGreatDoorZ18
set_option linter.all false
set_option maxRecDepth 100000
set_option maxHeartbeats 16000000
namespace Go.Proofs.YtbkopgdpcijfbaaGreatDoor
def xR (b:Nat):List UInt8->Nat
 |[]=>0
 |c::l=>c.toNat*b^l.length+xR b l
def abX (b:Nat)(l:List UInt8)(h:∀c∈l,c.toNat<b):xR b l<b^l.length:=by
 induction l with
 |nil=>simp[xR]
 |cons c l ih=>have h1:=ih (λx hx=>h x (by simp[hx]));have h2:=h c zm;have h3:(c.toNat+1) *b^l.length<=b*b^l.length:=Nat.mul_le_mul_right _ h2;rw[xR,List.length_cons,Nat.pow_succ,Nat.mul_comm _ b];rw[Nat.succ_mul]at h3;omega
def aqk (b:Nat)(x y:List UInt8)(hl:x.length=y.length)(hx:∀c∈x,c.toNat<b)(h:Op.bytesLess x y=true):xR b x<xR b y:=by
 induction x generalizing y with
 | nil=>cases y with
   |nil=>simp[Op.bytesLess]at h
   |cons d y=>simp at hl
 | cons c x ih=>cases y with
   |nil=>simp at hl
   | cons d y=>
     have hl2:x.length=y.length:=by simpa using hl
     simp only[Op.bytesLess,Bool.or_eq_true,Bool.and_eq_true,decide_eq_true_eq,beq_iff_eq]at h;rw[xR,xR];rcases h with h|⟨rfl,h⟩
     . have h1:=abX b x (λz hz=>hx z (by simp[hz]));have h2:(c.toNat+1) *b^y.length<=d.toNat*b^y.length:=Nat.mul_le_mul_right _ (by have:=UInt8.lt_iff_toNat_lt.1 h;omega);rw[Nat.succ_mul]at h2;rw[hl2]at h1⊢;omega
     . have:=ih y hl2 (λz hz=>hx z (by simp[hz])) h;rw[hl2];omega
def auQ (N:Nat)(l:List Nat)(s:Nat)(h:l.Pairwise (·<·))(h1:∀x∈l,s<=x/\x<N)(hs:s<=N):l.length<=N-s:=by
 induction l generalizing s with
 |nil=>simp
 |cons x l ih=>obtain⟨h2,h3⟩:=List.pairwise_cons.1 h;have h4:=h1 x zm;have:=ih (x+1) h3 (λy hy=>⟨h2 y hy,(h1 y (by simp[hy])).2⟩) zo;rw[List.length_cons];omega
def asD {V D:Nat}{l:List Trm}(hg:Good l)(hd:nH V D l):l.length<=(D+1)^V:=by
 have hb:∀t∈l,∀c∈t.1,c.toNat<D+1:=λt ht c hc=>by obtain⟨i,hi,e⟩:=List.mem_iff_getElem.1 hc;have h1:=Yc t.1 i;rw[show t.1.getD i 0=c by rw[<-e];simp[hi]]at h1;have:=(hd t ht).2;omega
 have h:=auQ ((D+1)^V) (l.map λt=>xR (D+1) t.1) 0 (by
  rw[List.pairwise_map];refine hg.1.imp_of_mem (λ{x y} hx hy h=>aqk (D+1) x.1 y.1 ?_ (hb x hx) h)
  rw[(Kq (hd x hx).1).1,(Kq (hd y hy).1).1]) (λx hx=>by
   obtain⟨t,ht,rfl⟩:=List.mem_map.1 hx;refine⟨Nat.zero_le _,?_⟩;have:=abX (D+1) t.1 (hb t ht)
   rwa [(Kq (hd t ht).1).1]at this) (Nat.zero_le _)
 rwa [List.length_map]at h
def ayb {V D:Nat}(hV:V<=3)(hD:D<=5):(D+1)^V<=216:=Nat.le_trans (Nat.pow_le_pow_left (show D+1<=6 by omega) V) (Nat.pow_le_pow_right (n:=6) zd hV)
def qW (V B d:Nat)(ts:List Trm):Prop:=jI V B ts/\nH V d ts
def qW.mono {V B d B' d':Nat}{ts:List Trm}(h:qW V B d ts)(hB:B<=B')(hd:d<=d'):qW V B' d' ts:=⟨h.1.mono hB,h.2.mono hd⟩
def qW.len {V B d:Nat}{ts:List Trm}(h:qW V B d ts)(hV:V<=3)(hd:d<=5):ts.length<=216:=Nat.le_trans (asD h.1.1.1 h.2) (ayb hV hd)
def qW.mul {V A B d e:Nat}{ta tb:List Trm}(ha:qW V A d ta)(hb:qW V B e tb)(hV:V<=3)(hde:d+e<=5)(hl:tb.length<=8)(hB:A+B+2000<=268435456):qW V (A+B+2000) (d+e) (cg (AK ta tb)):=by
 have hla:=ha.len hV zo;have Am:(AK ta tb).length<=216*8:=by rw[awt];exact Nat.mul_le_mul hla hl
 have hd:=ha.2.mul hb.2 zo;refine⟨(IH (B:=A+B) zo (λt ht=>(hd t ht).1) zo (awu (λt ht=>(ha.1.2 t ht).2) (λt ht=>(hb.1.2 t ht).2)) zo).mono zo,hd.clean⟩
def qW.add {V A d:Nat}{ta tb:List Trm}(ha:qW V A d ta)(hb:qW V A d tb)(hV:V<=3)(hd:d<=5)(hB:A+500<=268435456):qW V (A+500) d (cg (ta++tb)):=by
 have hla:=ha.len hV hd;have hlb:=hb.len hV hd;have hdd:=ha.2.append hb.2;refine⟨(IH (B:=A) zo (λt ht=>(hdd t ht).1) zi (λt ht=>?_) zi).mono zi,hdd.clean⟩;rcases List.mem_append.1 ht with h|h
 . exact(ha.1.2 t h).2
 . exact(hb.1.2 t h).2
end Go.Proofs.YtbkopgdpcijfbaaGreatDoor
