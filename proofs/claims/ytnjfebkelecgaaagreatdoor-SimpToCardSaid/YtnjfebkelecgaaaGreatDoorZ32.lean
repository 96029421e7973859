/- Plain: a form brought back to a polynomial. -/
import Derived.Test.YtnjfebkelecgaaaGreatDoorZ13
import Derived.Test.YtnjfebkelecgaaaGreatDoorZ22
import Derived.Test.YtnjfebkelecgaaaGreatDoorZ30
set_option linter.all false
set_option maxRecDepth 100000
set_option maxHeartbeats 16000000
namespace Go.Proofs.YtnjfebkelecgaaaGreatDoor
def wN (b:Nat):List UInt8->Nat
 |[]=>0
 |c::l=>c.toNat*b^l.length+wN b l
def aaV (b:Nat)(l:List UInt8)(h:∀c∈l,c.toNat<b):wN b l<b^l.length:=by
 induction l with
 |nil=>simp[wN]
 |cons c l ih=>have h1:=ih (λx hx=>h x (by simp[hx]));have h2:=h c zm;have h3:(c.toNat+1) *b^l.length<=b*b^l.length:=Nat.mul_le_mul_right _ h2;rw[wN,List.length_cons,Nat.pow_succ,Nat.mul_comm _ b];rw[Nat.succ_mul]at h3;omega
def aog (b:Nat)(x y:List UInt8)(hl:x.length=y.length)(hx:∀c∈x,c.toNat<b)(h:Op.bytesLess x y=true):wN b x<wN b y:=by
 induction x generalizing y with
 | nil=>cases y with
   |nil=>simp[Op.bytesLess]at h
   |cons d y=>simp at hl
 | cons c x ih=>cases y with
   |nil=>simp at hl
   | cons d y=>
     have hl2:x.length=y.length:=by simpa using hl
     simp only[Op.bytesLess,Bool.or_eq_true,Bool.and_eq_true,decide_eq_true_eq,beq_iff_eq]at h;rw[wN,wN];rcases h with h|⟨rfl,h⟩
     . have h1:=aaV b x (λz hz=>hx z (by simp[hz]));have h2:(c.toNat+1) *b^y.length<=d.toNat*b^y.length:=Nat.mul_le_mul_right _ (by have:=UInt8.lt_iff_toNat_lt.1 h;omega);rw[Nat.succ_mul]at h2;rw[hl2]at h1⊢;omega
     . have:=ih y hl2 (λz hz=>hx z (by simp[hz])) h;rw[hl2];omega
def ar9 (N:Nat)(l:List Nat)(s:Nat)(h:l.Pairwise (·<·))(h1:∀x∈l,s<=x/\x<N)(hs:s<=N):l.length<=N-s:=by
 induction l generalizing s with
 |nil=>simp
 |cons x l ih=>obtain⟨h2,h3⟩:=List.pairwise_cons.1 h;have h4:=h1 x zm;have:=ih (x+1) h3 (λy hy=>⟨h2 y hy,(h1 y (by simp[hy])).2⟩) zo;rw[List.length_cons];omega
def ap6 {V D:Nat}{l:List aM}(hg:Good l)(hd:gB V D l):l.length<=(D+1)^V:=by
 have hb:∀t∈l,∀c∈t.1,c.toNat<D+1:=λt ht c hc=>by obtain⟨i,hi,e⟩:=List.mem_iff_getElem.1 hc;have h1:=Cz t.1 i;rw[show t.1.getD i 0=c by rw[<-e];simp[hi]]at h1;have:=(hd t ht).2;omega
 have h:=ar9 ((D+1)^V) (l.map λt=>wN (D+1) t.1) 0 (by
  rw[List.pairwise_map];refine hg.1.imp_of_mem (λ{x y} hx hy h=>aog (D+1) x.1 y.1 ?_ (hb x hx) h)
  rw[(xE (hd x hx).1).1,(xE (hd y hy).1).1]) (λx hx=>by
   obtain⟨t,ht,rfl⟩:=List.mem_map.1 hx;refine⟨Nat.zero_le _,?_⟩;have:=aaV (D+1) t.1 (hb t ht)
   rwa [(xE (hd t ht).1).1]at this) (Nat.zero_le _)
 rwa [List.length_map]at h
def auU {V D:Nat}(hV:V<=3)(hD:D<=5):(D+1)^V<=216:=Nat.le_trans (Nat.pow_le_pow_left (show D+1<=6 by omega) V) (Nat.pow_le_pow_right (n:=6) zd hV)
def ahE (n:Nat):iH (lC n)=0:=by unfold iH lC;rw[List.map_replicate,List.sum_replicate_nat];simp
def Xj (n k:Nat):iH (dV n k)<=1:=by
 unfold iH dV;by_cases h:k<n
 . have e:((List.replicate n (0:UInt8)).set k 1).map UInt8.toNat=(List.replicate n 0).set k 1:=by rw[List.map_set,List.map_replicate];rfl
   have h1:=ahp (List.replicate n 0) k 1 (by simpa using h);rw[e];rw[List.sum_replicate_nat]at h1;omega
 . rw[List.set_eq_of_length_le zi,List.map_replicate,List.sum_replicate_nat];simp
def afy (n:Nat)(c:Dyadic)(l:Nat->Dyadic)(k:Nat):gB n 1 (dL n c l k):=gB.clean (ts:=gS n c l k) λt ht=>by
 refine⟨VE n c l k t ht,?_⟩;unfold gS at ht;rcases List.mem_cons.1 ht with rfl|ht
 . have:=ahE n;show iH (lC n)<=1;omega
 . obtain⟨j,_,rfl⟩:=List.mem_map.1 ht;exact Xj n j
def asH (n:Nat)(c:Dyadic)(l:Nat->Dyadic):gB n 0 (dL n c l 0):=gB.clean (ts:=gS n c l 0) λt ht=>by refine⟨VE n c l 0 t ht,?_⟩;unfold gS at ht;rw[show List.range 0=[]from rfl,List.map_nil,List.mem_singleton]at ht;subst ht;have:=ahE n;show iH (lC n)<=0;omega
def apJ (n:Nat)(P:Nat->Nat->Dyadic)(i j:Nat):gB n 1 (jz n P i j):=by
 unfold jz;split
 . exact afy n _ _ n
 . exact afy n _ _ n
def oI :Nat->Dyadic:=λ_=>0
def OI (F part:List aM):Nat->List aM
 |0=>part
 |k+1=>bW (iE (OI F part k) F)
def zY (Fs:Nat->List aM)(part:List aM)(x:List Nat):Nat->List aM
 |0=>part
 |j+1=>OI (Fs j) (zY Fs part x j) (x.getD j 0)
def wK (V:Nat)(Fs:Nat->List aM)(R:List (List Nat))(cs:List Dyadic):Nat->List aM
 |0=>dL V 0 oI 0
 |k+1=>bW (wK V Fs R cs k++zY Fs (dL V (cs.getD k 0) oI 0) (R.getD k []) (V+1))
def dW (V B d:Nat)(ts:List aM):Prop:=ir V B ts/\gB V d ts
def dW.mono {V B d B' d':Nat}{ts:List aM}(h:dW V B d ts)(hB:B<=B')(hd:d<=d'):dW V B' d' ts:=⟨h.1.mono hB,h.2.mono hd⟩
def dW.len {V B d:Nat}{ts:List aM}(h:dW V B d ts)(hV:V<=3)(hd:d<=5):ts.length<=216:=Nat.le_trans (ap6 h.1.1.1 h.2) (auU hV hd)
def dW.mul {V A B d e:Nat}{ta tb:List aM}(ha:dW V A d ta)(hb:dW V B e tb)(hV:V<=3)(Nl:d+e<=5)(hl:tb.length<=8)(hB:A+B+2000<=268435456):dW V (A+B+2000) (d+e) (bW (iE ta tb)):=by
 have jG:=ha.len hV zo;have xf:(iE ta tb).length<=216*8:=by rw[VS];exact Nat.mul_le_mul jG hl
 have hd:=ha.2.mul hb.2 zo;refine⟨(GJ (B:=A+B) zo (λt ht=>(hd t ht).1) zo (VT (λt ht=>(ha.1.2 t ht).2) (λt ht=>(hb.1.2 t ht).2)) zo).mono zo,hd.clean⟩
def dW.add {V A d:Nat}{ta tb:List aM}(ha:dW V A d ta)(hb:dW V A d tb)(hV:V<=3)(hd:d<=5)(hB:A+500<=268435456):dW V (A+500) d (bW (ta++tb)):=by
 have jG:=ha.len hV hd;have hlb:=hb.len hV hd;have hdd:=ha.2.append hb.2;refine⟨(GJ (B:=A) zo (λt ht=>(hdd t ht).1) zi (λt ht=>?_) zi).mono zi,hdd.clean⟩;rcases List.mem_append.1 ht with h|h
 . exact(ha.1.2 t h).2
 . exact(hb.1.2 t h).2
def agD {V A B d:Nat}{F part:List aM}(hF:dW V B 1 F)(hl:F.length<=8)(hp:dW V A d part)(hV:V<=3)(k:Nat)(hk:d+k<=5)(hB:A+5* (B+2000)<=268435456):dW V (A+k* (B+2000)) (d+k) (OI F part k):=by
 induction k with
 |zero=>exact hp.mono zo zo
 |succ k ih=>have h9:k* (B+2000)<=4* (B+2000):=Nat.mul_le_mul_right _ zo;exact((ih zo).mul hF hV zo hl zo).mono (by rw[Nat.succ_mul];omega) zo
def ahq (x:List Nat)(j:Nat):(x.take (j+1)).sum=(x.take j).sum+x.getD j 0:=by
 by_cases h:j<x.length
 . rw[List.take_succ_eq_append_getElem h,List.sum_append];simp[h]
 . rw[List.take_of_length_le zo,List.take_of_length_le zo,List.getD_eq_getElem?_getD,List.getElem?_eq_none zo];rfl
def Xc (x:List Nat)(j:Nat):(x.take j).sum<=x.sum:=by have:=congrArg List.sum (List.take_append_drop j x);rw[List.sum_append]at this;omega
def agv {V A B D:Nat}{Fs:Nat->List aM}{part:List aM}{x:List Nat}(hF:∀j,j<=V->dW V B 1 (Fs j)/\(Fs j).length<=8)(hp:dW V A 0 part)(hV:V<=3)(hx:x.sum<=D)(hD:D<=5)(hB:A+10* (B+2000)<=268435456)(j:Nat)(hj:j<=V+1):dW V (A+(x.take j).sum* (B+2000)) (x.take j).sum (zY Fs part x j):=by
 induction j with
 |zero=>exact hp.mono zm zm
 |succ j ih=>have h1:=ahq x j;have h2:=Xc x (j+1);have h9:(x.take j).sum* (B+2000)<=5* (B+2000):=Nat.mul_le_mul_right _ zo;obtain⟨h3,h4⟩:=hF j zo;exact(agD h3 h4 (ih zo) hV (x.getD j 0) zo zo).mono (by rw[h1,Nat.add_mul];omega) zo
def Mk {V B:Nat}{c:Dyadic}(hV:V<=3)(hc:Sm B c)(hB:B+13<=268435456):dW V (B+13) 0 (dL V c oI 0):=⟨Oh (k:=0) zo zo hc (λj hj=>by omega) hB,asH _ _ _⟩
def ans {V A B D:Nat}{Fs:Nat->List aM}{R:List (List Nat)}{cs:List Dyadic}(hF:∀j,j<=V->dW V B 1 (Fs j)/\(Fs j).length<=8)(hc:∀c∈cs,Sm A c)(hV:V<=3)(hR:∀k,k<R.length->(R.getD k []).sum<=D)(hD:D<=5)(hB:A+10* (B+2000)+300013<=268435456)(k:Nat)(hk:k<=R.length)(hk6:k<=600):dW V (A+13+5* (B+2000)+k*500) D (wK V Fs R cs k):=by
 induction k with
 | zero=>
   show dW V _ D (dL V 0 oI 0)
   refine dW.mono (B:=A+13) (d:=0) (Mk hV (Sm.zero A) zo) ?_ ?_<;>omega
 | succ k ih=>
   have h1:=hR k zo;have h2:=agv (x:=R.getD k []) hF (Mk hV (sA hc k) zo) hV h1 hD zo (V+1) (Nat.le_refl _);have h3:=Xc (R.getD k []) (V+1);have h9:((R.getD k []).take (V+1)).sum* (B+2000)<=5* (B+2000):=Nat.mul_le_mul_right _ zo;have h4:dW V (A+13+5* (B+2000)+k*500) D (zY Fs (dL V (cs.getD k 0) oI 0) (R.getD k []) (V+1)):=dW.mono h2 zo zo;have h5:=(ih zo zo).add h4 hV hD zo;show dW V _ D (bW (wK V Fs R cs k++zY Fs (dL V (cs.getD k 0) oI 0) (R.getD k []) (V+1)))
   generalize bW (wK V Fs R cs k++zY Fs (dL V (cs.getD k 0) oI 0) (R.getD k []) (V+1))=Y at*;refine dW.mono h5 ?_ (Nat.le_refl _);clear h1 h2 h3 h4 h5 h9 ih hF hc hR hB hk hk6;rw[Nat.succ_mul k 500];exact Nat.le_of_eq (Nat.add_assoc _ _ _)
end Go.Proofs.YtnjfebkelecgaaaGreatDoor
