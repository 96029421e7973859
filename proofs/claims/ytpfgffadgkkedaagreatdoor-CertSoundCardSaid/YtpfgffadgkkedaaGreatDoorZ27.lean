/- Plain: polynomials put into one,by Horner's rule,block by block: the value,the degree,how great the numbers are. -/
import Derived.Test.YtpfgffadgkkedaaGreatDoorZ16
import Derived.Test.YtpfgffadgkkedaaGreatDoorZ13
import Derived.Test.YtpfgffadgkkedaaGreatDoorZ26
import Derived.Test.YtpfgffadgkkedaaGreatDoorZ24
import Derived.Test.YtpfgffadgkkedaaGreatDoorZ7
import Derived.Test.YtpfgffadgkkedaaGreatDoorZ14
import Derived.Test.YtpfgffadgkkedaaGreatDoorZ23
set_option linter.all false
set_option maxRecDepth 100000
set_option maxHeartbeats 16000000
namespace Go.Proofs.YtpfgffadgkkedaaGreatDoor
def fD (k:Nat)(t:Trm):Nat:=(t.1.getD k 0).toNat
def dQ (k n:Nat)(p:List Trm):List Trm:=p.filter λt=>fD k t==n
def eN (la:List Trm)(f:Nat->List Trm):Nat->List Trm
 |0=>[]
 |m+1=>aS (aS (fQ (eN la f m) la)++f (127-m))
def dP (V:Nat)(l:Nat->List Trm)(L:Nat):Nat->List Trm->List Trm
 |0,[]=>[]
 |0,t::_=>cW V (dval t.2) (λ_=>0) 0
 |r+1,p=>eN (l (L-(r+1))) (λn=>dP V l L r (dQ (L-(r+1)) n p)) 128
def clean_nil :aS []=[]:=rfl
def Nf (b:List Trm):fQ [] b=[]:=rfl
def Bb {la:List Trm}{f:Nat->List Trm}(m:Nat)(h:∀n,128-m<=n->n<=127->f n=[]):eN la f m=[]:=by
 induction m with
 |zero=>rfl
 | succ m ih=>
   by_cases hm:m<=127
   . rw[eN,ih (λn h1 h2=>h n zo h2),Nf,clean_nil,h (127-m) zo zo];rfl
   . rw[eN,ih (λn h1 h2=>h n zo h2),Nf,clean_nil,show 127-m=0 by omega,h 0 zo zo];rfl
def al5 (k n:Nat):dQ k n []=[]:=rfl
def za (V:Nat)(l:Nat->List Trm)(L r:Nat):dP V l L r []=[]:=by
 induction r with
 |zero=>rfl
 |succ r ih=>exact Bb 128 (λn _ _=>by show dP V l L r (dQ _ n [])=[];rw[al5,ih])
def Good.nil :Good []:=⟨List.Pairwise.nil,λx hx=>by cases hx⟩
def MB {la:List Trm}{f:Nat->List Trm}(m:Nat):Good (eN la f m):=by
 cases m with
 |zero=>exact Good.nil
 |succ m=>exact jJ _
def Tj {V D:Nat}{la:List Trm}{f:Nat->List Trm}(hl:DegT V 1 la)(kj:∀n,D<n->f n=[])(hf:∀n,n<=D->DegT V (D-n) (f n))(hD:D<=127)(m:Nat)(hm:m<=128):
 DegT V (D-(128-m)) (eN la f m)/\(D<128-m->eN la f m=[]):=by
 induction m with
 |zero=>exact⟨λt ht=>(by cases ht),λ_=>rfl⟩
 | succ m ih=>
   obtain⟨h1,h2⟩:=ih zo;by_cases hd:D<128-(m+1)
   . have e:eN la f (m+1)=[]:=Bb _ (λn h3 _=>kj n zo);rw[e];exact⟨λt ht=>(by cases ht),λ_=>rfl⟩
   . refine⟨?_,λh=>absurd h hd⟩;rw[eN];refine DegT.clean (DegT.append (DegT.clean ?_) ((hf (127-m) zo).mono zo));by_cases he:D<128-m
     . rw[h2 he];intro t ht;cases ht
     . exact(DegT.mul h1 hl zo).mono zo
def anb {B:Nat}{l:List Trm}(h:∀x∈l,Sm B (dval x.2))(m:List UInt8):∃a:Int,bU l m=Dyadic.ofIntWithPrec a B/\a.natAbs<=l.length* (2^(2*B)-1):=by
 induction l with
 |nil=>exact⟨0,(xf _).symm,by simp⟩
 | cons x l ih=>
   obtain⟨a,h1,h2⟩:=ih (λy hy=>h y (by simp[hy]));obtain⟨b,h3,h4⟩:=h x zm;simp only[bU];rw[List.length_cons,Nat.succ_mul];split
   . exact⟨b+a,by rw[h1,h3,ve],by have:=Int.natAbs_add_le b a;omega⟩
   . refine⟨a,?_,by omega⟩;rw[h1];grind
def sS {B k:Nat}{l:List Trm}(h:∀x∈l,Sm B (dval x.2))(hk:l.length<=2^k):∀t∈aS l,Sm (B+k) (dval t.2):=by
 intro t ht;rw[(jJ l).coef t ht,rq];obtain⟨a,h1,h2⟩:=anb h t.1;refine⟨a*2^k,?_,?_⟩
 . rw[h1];have:=qK a k B;rw[<-this];congr 1
 . have hp:0<2^(2*B):=Nat.pow_pos zd;have h3:l.length* (2^(2*B)-1)<=2^k* (2^(2*B)-1):=Nat.mul_le_mul_right _ hk;have h4:2^k* (2^(2*B)-1)<2^k*2^(2*B):=Nat.mul_lt_mul_of_pos_left zo (Nat.pow_pos zd);have e:(a*2^k).natAbs=a.natAbs*2^k:=by rw[Int.natAbs_mul,Int.natAbs_pow];rfl
   rw[e,show 2* (B+k)=k+2*B+k by omega,Nat.pow_add,Nat.pow_add];exact Nat.mul_lt_mul_of_pos_right zo (Nat.pow_pos zd)
def ada {A K C D:Nat}{la:List Trm}{f:Nat->List Trm}(kj:∀n,D<n->f n=[])(hf:∀n,n<=D->∀t∈f n,Sm (A+(D-n) *K) (dval t.2))(fq:∀t∈la,Sm C (dval t.2))(hK:C+25<=K)
 (hN:∀m,m<=127->(eN la f m).length*la.length<=4096) (hF:∀n,(f n).length<=4096) (hD:D<=127) (m:Nat) (hm:m<=128):
 ∀t∈eN la f m,Sm (A+13+(D-(128-m)) *K) (dval t.2):=by
 induction m with
 |zero=>intro t ht;cases ht
 | succ m ih=>
   by_cases hd:D<128-(m+1)
   . rw[Bb (m+1) (λn h3 _=>kj n zo)];intro t ht;cases ht
   . have h1:=ih zo;rw[eN];have h2:∀t∈aS (fQ (eN la f m) la),Sm (A+(D-(127-m)) *K) (dval t.2):=by
      by_cases he:D<128-m
      . rw[Bb m (λn h3 _=>kj n zo),Nf,clean_nil];intro t ht;cases ht
      . intro t ht;have h3:=sS (k:=12) (Uu h1 fq) (by rw[Nc];exact hN m zo) t ht;refine h3.mono ?_;have e:D-(127-m)=D-(128-m)+1:=by omega
        rw[e,Nat.succ_mul];omega
     intro t ht;rw[show 128-(m+1)=127-m by omega];refine(sS (B:=A+(D-(127-m)) *K) (k:=13) ?_ ?_ t ht).mono zo
     . intro x hx;rcases List.mem_append.1 hx with hx|hx
       . exact h2 x hx
       . exact hf _ zo x hx
     . rw[List.length_append];have h5:=kQ (fQ (eN la f m) la);rw[Nc]at h5;have:=hN m zo;have:=hF (127-m);show _<=8192;omega
def xk (y:Nat->Dyadic)(L:Nat)(t:List UInt8):Nat->Dyadic
 |0=>1
 |r+1=>fc (y (L-(r+1))) (t.getD (L-(r+1)) 0).toNat*xk y L t r
def Rf {f g:List UInt8->Dyadic}{l:List Trm}(h:∀t∈l,f t.1=g t.1):bG f l=bG g l:=by
 induction l with
 |nil=>rfl
 |cons x l ih=>rw[bG,bG,h x zm,ih (λt ht=>h t (by simp[ht]))]
def aoC (f g:List UInt8->Dyadic)(y:Dyadic)(l:List Trm):bG (λm=>f m*y+g m) l=bG f l*y+bG g l:=by
 induction l with
 |nil=>show(0:Dyadic)=0*y+0;grind
 |cons x l ih=>simp only[bG,ih];grind
def aoD (f:List UInt8->Dyadic)(k n:Nat)(l:List Trm):bG f (dQ k n l)=bG (λm=>if(m.getD k 0).toNat=n then f m else 0) l:=by
 induction l with
 |nil=>rfl
 | cons x l ih=>
   unfold dQ at ih⊢;rw[List.filter_cons];by_cases h:fD k x=n
   . have h':(x.1.getD k 0).toNat=n:=h;rw[if_pos (by simpa using h),bG,bG,ih,if_pos h']
   . have h':¬(x.1.getD k 0).toNat=n:=h;rw[if_neg (by simpa using h),bG,ih,if_neg h'];grind
def aqZ {V D:Nat}(X:Nat->Dyadic){la:List Trm}{f:Nat->List Trm}(hl:DegT V 1 la)(kj:∀n,D<n->f n=[])(hf:∀n,n<=D->DegT V (D-n) (f n))(hD:D<=126)(g:List UInt8->Dyadic)(k:Nat)(p:List Trm)
 (hp:∀t∈p,(t.1.getD k 0).toNat<=127) (hg:∀n,n<=127->bG (fp X V) (f n)=bG g (dQ k n p)) (m:Nat) (hm:m<=128):
 bG (fp X V) (eN la f m)=bG (λt=>if 128-m<=(t.getD k 0).toNat then fc (bG (fp X V) la) ((t.getD k 0).toNat-(128-m)) *g t else 0) p:=by
 induction m with
 | zero=>
   show(0:Dyadic)=_
   have e:bG (λt=>if 128-0<=(t.getD k 0).toNat then fc (bG (fp X V) la) ((t.getD k 0).toNat-(128-0)) *g t else 0) p=bG (λ_=>0) p:=Rf (λt ht=>by
    have:=hp t ht
    rw[if_neg zo])
   rw[e];clear e hg hp;induction p with
   |nil=>rfl
   |cons x p ih=>rw[bG,<-ih];grind
 | succ m ih=>
   have hd:=(Tj hl kj hf zo m zo).1;rw[eN,xU,Ar,xU,aoF X V _ 1 _ _ hd hl zo,ih zo,hg (127-m) zo,aoD,<-aoC];refine Rf (λt ht=>?_);have h1:=hp t ht;generalize (t.1.getD k 0).toNat=e at*;generalize bG (fp X V) la=y;have e1:128-(m+1)=127-m:=by omega
   rw[e1];by_cases c1:128-m<=e
   . rw[if_pos c1,if_neg (show ¬e=127-m by omega),if_pos (show 127-m<=e by omega),show e-(127-m)=e-(128-m)+1 by omega,fc];grind
   . rw[if_neg c1];by_cases c2:e=127-m
     . rw[if_pos c2,if_pos (show 127-m<=e by omega),c2,Nat.sub_self];show 0*y+g t.1=1*g t.1
       grind
     . rw[if_neg c2,if_neg (show ¬127-m<=e by omega)];grind
def remS (L:Nat):Nat->List UInt8->Nat
 |0,_=>0
 |r+1,t=>(t.getD (L-(r+1)) 0).toNat+remS L r t
def jI {k n:Nat}{p:List Trm}{t:Trm}(h:t∈dQ k n p):t∈p/\(t.1.getD k 0).toNat=n:=by have:=List.mem_filter.1 h;exact⟨this.1,by simpa[fD]using this.2⟩
def xP {k n:Nat}{p:List Trm}(h:∀t∈p,(t.1.getD k 0).toNat≠n):dQ k n p=[]:=by unfold dQ;rw[List.filter_eq_nil_iff];intro t ht hc;exact h t ht (by simpa[fD]using hc)
def afS (V:Nat)(l:Nat->List Trm)(L r:Nat)(p:List Trm):Good (dP V l L r p):=by
 cases r with
 | zero=>
   cases p with
   |nil=>exact Good.nil
   |cons t p=>exact jJ _
 |succ r=>exact MB _
def Ld (V:Nat)(c:Dyadic)(l:Nat->Dyadic):DegT V 0 (cW V c l 0):=by refine DegT.clean (λt ht=>?_);have:t∈fw V c l 0:=ht;simp only[fw,List.range_zero,List.map_nil,List.mem_singleton]at this;subst this;exact⟨VV V,by rw[agq];exact Nat.le_refl _⟩
def Nq {V L D:Nat}{l:Nat->List Trm}(hl:∀k,k<L->DegT V 1 (l k))(hD:D<=127)(r:Nat):∀(D':Nat) (p:List Trm),D'<=D->r<=L->(∀t∈p,remS L r t.1<=D')->DegT V D' (dP V l L r p):=by
 induction r with
 | zero=>
   intro D' p _ _ _;cases p with
   |nil=>intro t ht;cases ht
   |cons t p=>exact(Ld V _ _).mono (Nat.zero_le _)
 | succ r ih=>
   intro D' p hD' hr hp
   have h:=(Tj (V:=V) (D:=D') (la:=l (L-(r+1))) (f:=λn=>dP V l L r (dQ (L-(r+1)) n p)) (hl _ zo) (λn hn=>by
    show dP V l L r (dQ _ n p)=[]
    rw[xP (λt ht e=>by have:=hp t ht;rw[remS]at this;omega),za]) (λn hn=>ih (D'-n) _ zo zo (λt ht=>by
    obtain⟨h1,h2⟩:=jI ht
    have:=hp t h1;rw[remS]at this;omega)) zo 128 zo).1
   exact h
def Nr {V L D:Nat}{l:Nat->List Trm}(hl:∀k,k<L->DegT V 1 (l k))(hD:D<=127){r:Nat}{p:List Trm}(hr:r<=L)(hp:∀t∈p,remS L r t.1<=D):(dP V l L r p).length<=(D+1)^V:=
 Lz (afS V l L r p) (Nq hl (Nat.le_refl D|>λ_=>hD) r D p zo hr hp)
def Ns {V L D:Nat}{l:Nat->List Trm}(hl:∀k,k<L->DegT V 1 (l k))(hD:D<=127){r:Nat}{p:List Trm}(hr:r+1<=L)(hp:∀t∈p,remS L (r+1) t.1<=D)(m:Nat)(hm:m<=128):
 DegT V (D-(128-m)) (eN (l (L-(r+1))) (λn=>dP V l L r (dQ (L-(r+1)) n p)) m):=
 (Tj (V:=V) (D:=D) (hl _ zo) (λn hn=>by
  show dP V l L r (dQ _ n p)=[]
  rw[xP (λt ht e=>by have:=hp t ht;rw[remS]at this;omega),za]) (λn hn=>Nq hl hD r (D-n) _ zo zo (λt ht=>by
  obtain⟨h1,h2⟩:=jI ht
  have:=hp t h1;rw[remS]at this;omega)) hD m hm).1
structure SubOk (V L D C K M:Nat)(l:Nat->List Trm):Prop where
 deg:∀k,k<L->DegT V 1 (l k)
 sm:∀k,k<L->∀t∈l k,Sm C (dval t.2)
 kc:C+25<=K
 dl:D<=126
 len:∀k,k<L->(l k).length<=M
 few:D^V*M<=4096
 few2:(D+1)^V<=2048
def SubOk.aBj {V L D C K M:Nat}{l:Nat->List Trm}(h:SubOk V L D C K M l){r:Nat}{p:List Trm}(hr:r+1<=L)(hp:∀t∈p,remS L (r+1) t.1<=D)(m:Nat)(hm:m<=127):
 (eN (l (L-(r+1))) (λn=>dP V l L r (dQ (L-(r+1)) n p)) m).length* (l (L-(r+1))).length<=4096:=by
 have h1:=Ns h.deg (by have:=h.dl;omega) hr hp m zo;have h2:=Lz (MB m) h1;by_cases hd:D<128-m
 . have e:eN (l (L-(r+1))) (fun n=>dP V l L r (dQ (L-(r+1)) n p)) m=[]:=Bb m (fun n h3 _=>by
    show dP V l L r (dQ _ n p)=[]
    rw[xP (λt ht e=>by have:=hp t ht;rw[remS]at this;omega),za])
   rw[e];simp
 . have h3:(D-(128-m)+1)^V<=D^V:=Nat.pow_le_pow_left zo V;exact Nat.le_trans (Nat.mul_le_mul (Nat.le_trans h2 h3) (h.len _ zo)) h.few
def afT {V L D C K M A:Nat}{l:Nat->List Trm}(h:SubOk V L D C K M l)(r:Nat):∀(D':Nat) (p:List Trm),D'<=D->r<=L->(∀t∈p,remS L r t.1<=D')->(∀t∈p,Sm A (dval t.2))->
 ∀t∈dP V l L r p,Sm (A+13* (r+1)+D'*K) (dval t.2):=by
 induction r with
 | zero=>
   intro D' p _ _ _ hs;cases p with
   |nil=>intro t ht;cases ht
   | cons x p=>
     intro t ht
     have h1:=sS (B:=A) (k:=0) (l:=fw V (dval x.2) (λ_=>0) 0) (λy hy=>by
      simp only[fw,List.range_zero,List.map_nil,List.mem_singleton]at hy;subst hy;show Sm A (dval (canon (dval x.2)))
      rw[bA];exact hs x zm) (by simp[fw]) t ht
     exact h1.mono zo
 | succ r ih=>
   intro D' p hD' hr hp hs t ht;have hd:=h.dl
   have h1:=ada (A:=A+13* (r+1)) (K:=K) (C:=C) (D:=D') (la:=l (L-(r+1))) (f:=λn=>dP V l L r (dQ (L-(r+1)) n p)) (λn hn=>by
    show dP V l L r (dQ _ n p)=[]
    rw[xP (λt ht e=>by have:=hp t ht;rw[remS]at this;omega),za]) (λn hn=>ih (D'-n) _ zo zo (λt ht=>by
    obtain⟨h1,h2⟩:=jI ht
    have:=hp t h1;rw[remS]at this;omega) (λt ht=>hs t (jI ht).1)) (h.sm _ zo) h.kc (λm hm=>h.aBj zo (λt ht=>by have:=hp t ht;omega) m hm) (λn=>by
    have h2:=Nr h.deg zo (r:=r) (p:=dQ (L-(r+1)) n p) (D:=D) zo (λt ht=>by
     obtain⟨h1,h2⟩:=jI ht
     have:=hp t h1;rw[remS]at this;omega)
    have:=h.few2
    show(dP V l L r (dQ (L-(r+1)) n p)).length<=4096;omega) zo 128 zo t ht
   rw[show D'-(128-128)=D' by omega]at h1;exact h1.mono zo
def axa {p:List Trm}(hu:Up p){x:Trm}(h:∀t∈x::p,t.1=x.1)(hu2:Up (x::p)):p=[]:=by
 cases p with
 |nil=>rfl
 |cons y p=>have:=(List.pairwise_cons.1 hu2).1 y zm;rw[h y zm,CN]at this;cases this
def avP {V L D C K M:Nat}{l:Nat->List Trm}(X:Nat->Dyadic)(h:SubOk V L D C K M l)(r:Nat):∀(D':Nat) (p:List Trm),D'<=D->r<=L->(∀t∈p,remS L r t.1<=D')->Up p->(∀t∈p,t.1.length=L/\∀c∈t.1,c.toNat<=127)->
 (∀t∈p,∀u∈p,∀k,k<L-r->t.1.getD k 0=u.1.getD k 0)->bG (fp X V) (dP V l L r p)=bG (λm=>xk (λk=>bG (fp X V) (l k)) L m r) p:=by
 induction r with
 | zero=>
   intro D' p _ _ _ hu hL hs;cases p with
   |nil=>rfl
   | cons x p=>
     have e:p=[]:=axa hu.tail (λt ht=>by
      have h1:=hL t ht;have h2:=hL x zm;refine List.ext_getElem zo (λk hk1 hk2=>?_);have:=hs t ht x zm k zo;rw[List.getD_eq_getElem?_getD,List.getD_eq_getElem?_getD,List.getElem?_eq_getElem hk1,List.getElem?_eq_getElem hk2]at this
      exact this) hu
     subst e;show bG (fp X V) (cW V (dval x.2) (λ_=>0) 0)=dval x.2*1+0
     rw[Au X V _ _ 0 (Nat.zero_le _)];show dval x.2+0=_
     grind
 | succ r ih=>
   intro D' p hD' hr hp hu hL hs;have hd:=h.dl;have hk:L-(r+1)<L:=by omega
   have hby:∀t∈p,(t.1.getD (L-(r+1)) 0).toNat<=127:=λt ht=>by have h1:=hL t ht;rw[List.getD_eq_getElem?_getD,List.getElem?_eq_getElem zo];exact h1.2 _ (List.getElem_mem _)
   have h1:=aqZ (V:=V) (D:=D') X (la:=l (L-(r+1))) (f:=λn=>dP V l L r (dQ (L-(r+1)) n p)) (h.deg _ hk) (λn hn=>by
    show dP V l L r (dQ _ n p)=[]
    rw[xP (λt ht e=>by have:=hp t ht;rw[remS]at this;omega),za]) (λn hn=>Nq (D:=D) h.deg zo r (D'-n) _ zo zo (λt ht=>by
    obtain⟨h1,h2⟩:=jI ht
    have:=hp t h1;rw[remS]at this;omega)) zo (λm=>xk (λk=>bG (fp X V) (l k)) L m r) (L-(r+1)) p hby (λn _=>ih D' _ hD' zo (λt ht=>by
    have:=hp t (jI ht).1;rw[remS]at this;omega) (hu.filter _) (λt ht=>hL t (jI ht).1) (λt ht u hu' k hk=>by
    obtain⟨h1,h2⟩:=jI ht;obtain⟨h3,h4⟩:=jI hu';by_cases hkk:k<L-(r+1)
    . exact hs t h1 u h3 k hkk
    . obtain rfl:k=L-(r+1):=by omega
      exact UInt8.toNat_inj.1 (by rw[h2,h4]))) 128 zo
   refine h1.trans (Rf (λt ht=>?_));rw[Nat.sub_self,if_pos (Nat.zero_le _),Nat.sub_zero,xk]
def CW {x y:Dyadic}(hx:0<=x)(hy:0<=y):0<=x*y:=by rw[<-Dyadic.toRat_le_toRat_iff,Dyadic.toRat_zero]at hx hy⊢;rw[Dyadic.toRat_mul];exact Rat.mul_nonneg hx hy
def afj :(0:Dyadic)<=1:=by decide+kernel
def au1 {x:Dyadic}(h:0<=x)(n:Nat):0<=fc x n:=by
 induction n with
 |zero=>exact afj
 |succ n ih=>exact CW ih h
def awJ {y:Nat->Dyadic}{L:Nat}(hy:∀k,k<L->0<=y k)(t:List UInt8)(r:Nat)(hr:r<=L):0<=xk y L t r:=by
 induction r with
 |zero=>exact afj
 |succ r ih=>exact CW (au1 (hy _ zo) _) (ih zo)
def awK (y:Nat->Dyadic){L:Nat}{t:List UInt8}(h:∀k,k<L->(t.getD k 0).toNat=0)(r:Nat)(hr:r<=L):xk y L t r=1:=by
 induction r with
 |zero=>rfl
 |succ r ih=>rw[xk,ih zo,h _ zo];show(1:Dyadic) *1=1;grind
def aoG {f:List UInt8->Dyadic}(hf:∀t,0<=f t){p:List Trm}(hp:∀t∈p,0<=dval t.2):0<=bG f p:=by
 induction p with
 |nil=>show(0:Dyadic)<=0;decide+kernel
 |cons x p ih=>have h1:=CW (hp x zm) (hf x.1);have h2:=ih (λt ht=>hp t (by simp[ht]));rw[bG];grind
def aoU {y:Nat->Dyadic}{L:Nat}(hy:∀k,k<L->0<=y k){x:Trm}{p:List Trm}(h0:∀k,k<L->(x.1.getD k 0).toNat=0)(hx:0<dval x.2)(hp:∀t∈p,0<=dval t.2):0<bG (λm=>xk y L m L) (x::p):=by have h2:=aoG (f:=λm=>xk y L m L) (λt=>awJ hy t L (Nat.le_refl _)) hp;rw[bG,awK y h0 L (Nat.le_refl _)];grind
def tj {V B d:Nat}{l:List Trm}(hg:Good l)(hd:DegT V d l)(hl:l.length<=4096)(hV:V<=12)(hs:∀t∈l,Sm B (dval t.2))(hB:B<=268435456):dL V B l:=
 ⟨⟨hg,λt ht=>(hd t ht).1,hl,hV⟩,λt ht=>by rw[(hg.2 t ht).2];exact(hs t ht).fit hB⟩
def ug (V i:Nat)(lo:Dyadic):List Trm:=aS (aS [(cF V i,canon 1)]++cW V (-lo) (λ_=>0) 0)
def tN (V i:Nat)(hi:Dyadic):List Trm:=aS (cW V hi (λ_=>0) 0++aS (cC (-1) (aS [(cF V i,canon 1)])))
def agC (X:Nat->Dyadic)(V i:Nat)(h:i<V):bG (fp X V) (aS [(cF V i,canon 1)])=X i:=by
 rw[xU];show dval (canon 1) *fU X 1 (cF V i) V+0=X i
 rw[bA,ae0 X V i V (Nat.le_refl _) h,if_pos h];grind
def asr (X:Nat->Dyadic)(V i:Nat)(lo:Dyadic)(h:i<V):bG (fp X V) (ug V i lo)=X i-lo:=by
 unfold ug;rw[xU,Ar,agC X V i h,Au X V _ _ 0 (Nat.zero_le _)];show X i+(-lo+0)=_
 grind
def aqB (X:Nat->Dyadic)(V i:Nat)(hi:Dyadic)(h:i<V):bG (fp X V) (tN V i hi)=hi-X i:=by
 unfold tN;rw[xU,Ar,xU,aac,agC X V i h,Au X V _ _ 0 (Nat.zero_le _)];show hi+0+ -1*X i=_
 grind
def NH (V i:Nat):DegT V 1 (aS [(cF V i,canon 1)]):=DegT.clean λt ht=>by simp only[List.mem_singleton]at ht;subst ht;exact⟨NG V i,agp V i⟩
def afW {V d:Nat}{l:List Trm}(c:Dyadic)(h:DegT V d l):DegT V d (cC c l):=λt ht=>by unfold cC at ht;obtain⟨x,hx,rfl⟩:=List.mem_map.1 ht;exact h x hx
def aeG (V i:Nat)(lo:Dyadic):DegT V 1 (ug V i lo):=DegT.clean (DegT.append (NH V i) ((Ld V _ _).mono zo))
def acA (V i:Nat)(hi:Dyadic):DegT V 1 (tN V i hi):=DegT.clean (DegT.append ((Ld V _ _).mono zo) (DegT.clean (afW _ (NH V i))))
def Ak (V:Nat)(c:Dyadic)(l:Nat->Dyadic):(cW V c l 0).length<=1:=by have:=kQ (fw V c l 0);rw[Eg]at this;exact this
def xo (V i:Nat):(aS [(cF V i,canon 1)]).length<=1:=kQ _
def aeH (V i:Nat)(lo:Dyadic):(ug V i lo).length<=2:=by have h1:=kQ (aS [(cF V i,canon 1)]++cW V (-lo) (λ_=>0) 0);rw[List.length_append]at h1;have:=xo V i;have:=Ak V (-lo) (λ_=>0);unfold ug;omega
def acB (V i:Nat)(hi:Dyadic):(tN V i hi).length<=2:=by have h1:=kQ (cW V hi (λ_=>0) 0++aS (cC (-1) (aS [(cF V i,canon 1)])));have h2:=kQ (cC (-1) (aS [(cF V i,canon 1)]));rw[List.length_append]at h1;unfold cC at h1 h2;rw[List.length_map]at h2;have:=xo V i;have:=Ak V hi (λ_=>0);unfold tN cC;omega
def VF (V i:Nat):∀t∈aS [(cF V i,canon 1)],Sm 1 (dval t.2):=sS (k:=0) (B:=1) (by intro t ht;simp only[List.mem_singleton]at ht;subst ht;show Sm 1 (dval (canon 1));rw[bA];exact Sm.one) zm
def QL {B:Nat}(V:Nat){c:Dyadic}(h:Sm B c)(l:Nat->Dyadic):∀t∈cW V c l 0,Sm B (dval t.2):=sS (k:=0) (by
 intro t ht;simp only[fw,List.range_zero,List.map_nil,List.mem_singleton]at ht
 subst ht;show Sm B (dval (canon c));rw[bA];exact h) (by simp[fw])
def ass {B:Nat}(V i:Nat){lo:Dyadic}(h:Sm B lo)(hB:1<=B):∀t∈ug V i lo,Sm (B+1) (dval t.2):=sS (k:=1) (by
 intro t ht;rcases List.mem_append.1 ht with ht|ht
 . exact(VF V i t ht).mono hB
 . exact QL V (Sm.neg h) _ t ht) (by
 rw[List.length_append];have:=xo V i;have:=Ak V (-lo) (λ_=>0);omega)
def ae6 (V i:Nat):∀t∈aS (cC (-1) (aS [(cF V i,canon 1)])),Sm 3 (dval t.2):=sS (k:=0) (by
 intro t ht;unfold cC at ht;obtain⟨x,hx,rfl⟩:=List.mem_map.1 ht;show Sm 3 (dval (canon (dval x.2* -1)))
 rw[bA]
 exact(Sm.mul (VF V i x hx) (Sm.neg Sm.one)).mono zo) (by
 unfold cC;rw[List.length_map];exact xo V i)
def aqC {B:Nat}(V i:Nat){hi:Dyadic}(h:Sm B hi)(hB:3<=B):∀t∈tN V i hi,Sm (B+1) (dval t.2):=sS (k:=1) (by
 intro t ht;rcases List.mem_append.1 ht with ht|ht
 . exact QL V h _ t ht
 . exact(ae6 V i t ht).mono hB) (by
 have h2:=kQ (cC (-1) (aS [(cF V i,canon 1)]));unfold cC at h2;rw[List.length_map]at h2
 rw[List.length_append];have:=xo V i;have:=Ak V hi (λ_=>0);unfold cC;omega)
def awb (lo hi t:Dyadic)(h:lo<=hi)(h0:0<=t)(h1:t<=1):0<=lo+t* (hi-lo)-lo/\0<=hi-(lo+t* (hi-lo)):=by
 have a:0<=hi-lo:=by grind
 have b:0<=1-t:=by grind
 have c:=CW h0 a;have d:=CW b a;have e:(1-t) * (hi-lo)=hi-lo-t* (hi-lo):=by grind
 rw[e]at d;constructor<;>grind
def agQ (n:Nat)(hn:1<=n)(aZ:n<=4)(p:Nat->Nat->Dyadic)(j:Nat)(hj:j<=n):∃(c:Dyadic) (l:Nat->Dyadic),∀X,ig n p X j=c+dI (λb=>l b*X b) n:=by
 by_cases h:j=0
 . refine⟨wZ n p (λ_=>0) n,λb=>lZ n p b n,λX=>?_⟩;rw[<-Ro n hn aZ p X j hj,Lu X n _ _ (Nat.le_refl _),List.take_length];unfold jL mn;rw[if_pos h,Au X n _ _ n (Nat.le_refl _)]
 . refine⟨wC n p (j-1),λk=>jH n p k (j-1),λX=>?_⟩;rw[<-Ro n hn aZ p X j hj,Lu X n _ _ (Nat.le_refl _),List.take_length];unfold jL pI;rw[if_neg h,Au X n _ _ n (Nat.le_refl _)]
def awo (l x y:Nat->Dyadic)(h:Dyadic)(n:Nat):dI (λb=>l b* ((x b+y b) *h)) n=(dI (λb=>l b*x b) n+dI (λb=>l b*y b) n) *h:=by
 induction n with
 |zero=>show(0:Dyadic)=(0+0) *h;grind
 |succ n ih=>simp only[dI,ih];grind
def arD {n:Nat}(hn:1<=n)(aZ:n<=4)(p:Nat->Nat->Dyadic){x y:Nat->Dyadic}{h:Dyadic}(hh:h+h=1)(hx:gq n p x)(hy:gq n p y):gq n p (λk=>(x k+y k) *h):=by
 intro k hk hlt;obtain⟨c,l,e⟩:=agQ n hn aZ p k hk;have h1:=hx k hk;have h2:=hy k hk;rw[e]at h1 h2 hlt;rw[awo]at hlt;generalize dI (λb=>l b*x b) n=a at*;generalize dI (λb=>l b*y b) n=b at*;have e2:c+(a+b) *h=((c+a)+(c+b)) *h:=by
  have:c*h+c*h=c:=by
   have:c*h+c*h=c* (h+h):=by grind
   rw[this,hh];grind
  grind
 rw[e2]at hlt;have h3:((c+a)+(c+b)) *h+((c+a)+(c+b)) *h=(c+a)+(c+b):=by
  have:((c+a)+(c+b)) *h+((c+a)+(c+b)) *h=((c+a)+(c+b)) * (h+h):=by grind
  rw[this,hh];grind
 generalize ((c+a)+(c+b)) *h=z at*;grind
def ael {n:Nat}(hn:1<=n)(aZ:n<=4)(p:Nat->Nat->Dyadic)(j:Nat)(hj:j<=n):gq n p (p j):=by
 intro k hk;rw[axO n hn aZ p k j hk hj];split
 . rw[afY];split<;>grind
 . decide+kernel
def Uc {n:Nat}(hn:1<=n)(aZ:n<=4)(p:Nat->Nat->Dyadic){x y:Nat->Dyadic}(h:∀k,k<n->x k=y k)(hx:gq n p x):gq n p y:=by
 intro k hk;have h1:=hx k hk;obtain⟨c,l,e⟩:=agQ n hn aZ p k hk;rw[e]at h1⊢;have:dI (λb=>l b*x b) n=dI (λb=>l b*y b) n:=by
  have:∀m,m<=n->dI (λb=>l b*x b) m=dI (λb=>l b*y b) m:=λm=>by
   induction m with
   |zero=>intro _;rfl
   |succ m ih=>intro hm;simp only[dI];rw[ih zo,h m zo]
  exact this n (Nat.le_refl _)
 rwa [<-this]
end Go.Proofs.YtpfgffadgkkedaaGreatDoor
namespace Go.Proofs.YtpfgffadgkkedaaGreatDoor
open Go.RowKit
attribute [local go_sem ↓] Go.wp_at_zero Go.wp_at_succ
def pW (V:Nat)(b:List Pr)(k:Nat):List Trm:=if k%2=0 then ug V (k/2) (eQ (b.getD (k/2) (0,0))).1 else tN V (k/2) (eQ (b.getD (k/2) (0,0))).2
def agB {V:Nat}(hV:V<=12)(i B:Nat)(h1:1<=B)(hB:B<=268435456):dL V B (aS [(cF V i,canon 1)]):=
 tj (jJ _) (NH V i) (by have:=xo V i;omega) hV (λt ht=>(VF V i t ht).mono h1) hB
def aty {V:Nat}(hV:V<=12)(i B:Nat)(h1:3<=B)(hB:B<=268435456):dL V B (aS (cC (-1) (aS [(cF V i,canon 1)]))):=
 tj (jJ _) (DegT.clean (afW _ (NH V i))) (by
  have h2:=kQ (cC (-1) (aS [(cF V i,canon 1)]));have:=xo V i
  unfold cC at h2;rw[List.length_map]at h2;unfold cC;omega) hV (λt ht=>(ae6 V i t ht).mono h1) hB
def Zt {V B:Nat}(hV:V<=12){c:Dyadic}(h:Sm B c)(l:Nat->Dyadic)(hB:B<=268435456):dL V B (cW V c l 0):=
 tj (jJ _) (Ld V c l) (by have:=Ak V c l;omega) hV (QL V h l) hB
def asq {V B:Nat}(hV:V<=12)(i:Nat){c:Dyadic}(h:Sm B c)(h1:1<=B)(hB:B<=268435455):dL V (B+1) (ug V i c):=
 tj (jJ _) (aeG V i c) (by have:=aeH V i c;omega) hV (ass V i h h1) zo
def aqz {V B:Nat}(hV:V<=12)(i:Nat){c:Dyadic}(h:Sm B c)(h1:3<=B)(hB:B<=268435455):dL V (B+1) (tN V i c):=
 tj (jJ _) (acA V i c) (by have:=acB V i c;omega) hV (aqC V i h h1) zo
def avZ (a:Option Addr)(n cap B:Nat)(bx:List (Raw×Raw))(w:World)(hn:bx.length=n)(h1:1<=n)(h6:n<=6)(hf:lK B bx)(xX:3<=B)(hB:B<=1000000)(ha:At w a (bx.flatMap spC))(hT:aB w):
 Cl 82 #[.slice a n cap] w λe w'=>∃(a':Option Addr) (c':Nat) (ps:List Pv),e=.returned (.slice a' (2*n) c')/\2*n<=c'/\ps.length=2*n/\At w' a' (ps.flatMap ic)/\fC w' n (B+1) ps (pW n (bx.map bH))/\Bw w w':=by
 obtain⟨j0,hj,hy0,hy1,hy2⟩:=info_parts Tryz.aBq;have yl:=λW (hW:Bw w W)=>Qy a n cap B bx W hn zo hf (ha.below hW) (hT.below hW);have qG:=λk (hk:k<n) W (hW:Bw w W)=>agG n k W zo hk (hT.below hW);have hof:=λW (hW:Bw w W)=>Ao (-1) (-1) rfl W zd (hT.below hW);have hsc:=λk (W:World) a' c' (hW:Bw w W) (h:aW W a' c' (aS [(cF n k,canon 1)]))=>Vm n a' c' (aS [(cF n k,canon 1)]) _ _ _ (-1) 1 W (agB zo k 1 (Nat.le_refl _) zo) h ((Sm.neg Sm.one).fit zo) zo (hT.below hW) (bA (-1));have DR:=λ(y:Dyadic) (hy:Sm B y) W (hW:Bw w W)=>Le (au (dN y)) (nt (dN y).natAbs) (dE y) (-y) (by show-dval (canon y)=_;rw[bA]) W (hy.fit zo).1 (hT.below hW);have hcn:=λ(y:Dyadic) (hy:Sm B y) W (hW:Bw w W)=>CU n (au (dN y)) (nt (dN y).natAbs) (dE y) y B (λ_=>0) W zo (hy.fit zo) zo (hT.below hW) (bA y);have abE:=λk (y:Dyadic) (hy:Sm B y) aA cA aD cD (W:World) (hW:Bw w W) b hb hA hD=>FL n B (aS [(cF n k,canon 1)]) (cW n (-y) (λ_=>0) 0) (ug n k y) aA aD cA cD W b hb hA hD (agB zo k B zo zo) (Zt zo (Sm.neg hy) _ zo) (by have:=xo n k;have:=Ak n (-y) (λ_=>0);omega) zo (hT.below hW) rfl
 have abD:=λk (y:Dyadic) (hy:Sm B y) aA cA aD cD (W:World) (hW:Bw w W) b hb hA hD=>FL n B (cW n y (λ_=>0) 0) (aS (cC (-1) (aS [(cF n k,canon 1)]))) (tN n k y) aA aD cA cD W b hb hA hD (Zt zo hy _ zo) (aty zo k B zo zo) (by
  have h2:=kQ (cC (-1) (aS [(cF n k,canon 1)]));have:=xo n k;have:=Ak n y (λ_=>0)
  unfold cC at h2;rw[List.length_map]at h2;unfold cC;omega) zo (hT.below hW) rfl
 have tW:∀k (h:k<bx.length),∃y1 y2,(bx.map jk)[k]'(by simpa using h)=(canon y1,canon y2)/\Sm B y1/\Sm B y2/\pW n (bx.map bH) (2*k)=ug n k y1/\pW n (bx.map bH) (2*k+1)=tN n k y2:=λk h=>by
  have hs:=hf _ (List.getElem_mem h);have ho:=rN (p:=bH bx[k]) ⟨hs.1.2,hs.2.2⟩;refine⟨(eQ (bH bx[k])).1,(eQ (bH bx[k])).2,by simp[jk,kA],ho.1,ho.2,?_,?_⟩
  . unfold pW;rw[if_pos zo,show 2*k/2=k by omega];simp[h]
  . unfold pW;rw[if_neg zo,show(2*k+1)/2=k by omega];simp[h]
 have AU:=λk (y:Dyadic) (hy:Sm B y)=>asq (V:=n) zo k hy zo zo;have hhf:=λk (y:Dyadic) (hy:Sm B y)=>aqz (V:=n) zo k hy xX zo;have mG:(bx.map jk).length=n:=by simpa using hn
 obtain⟨Hj,kM,kN,kO,EX,PV,nX,lT,Hng,jC,ah7,ah6⟩:=gL hj hy0 hy1 hy2 yl qG hof hsc DR hcn abE abD;obtain⟨Po,OZ,Hhf,Fa,Hn⟩:=dY tW AU hhf mG hn;clear hj hy0 hy1 hy2 yl qG hof hsc DR hcn abE abD tW AU hhf mG hn ha hT hf;have Hb:=hbz w;go_enter Tryz.func82,Tryz.ntmps82;go_wp2_with fail;refine(EX.out _ Hb.out).mono ?_;rintro e w1 ⟨a1,c1,rfl,iZ,ak⟩;have eu:=aj iZ;replace Hb:=bg Hb ak;clear ak iZ;have bJ:=Hb;go_wp2_with fail;go_loopw[3,21] (λs3 x wr=>∃(k:Nat) (v:Value) (ps:List Pv),k<=n/\x=af (k:Int)/\v=s3/\ps.length=2*k/\wr.ownsRow w1.heap.size 41 2 v (2*k) (ps.flatMap ic)/\fC wr n (B+1) ps (pW n (bx.map bH))/\Bw w1 wr) (λ_ x _=>n-(intOf x).toNat);case atStart=>exact⟨0,_,[],Nat.zero_le _,rfl,rfl,rfl,World.ownsRow_nil _ _ _ _,λk hk=>by simp at hk,Below.refl _ _⟩
 case round=>
  clear Hb;obtain⟨k,v,ps,hk,rfl,rfl,hpl,ho,hpo,pb⟩:=hrel;by_cases hlt:k<n
  . have eY:k<bx.length:=by rw[Hn.out];exact hlt
    have mF:k<(bx.map jk).length:=by rw[Fa.out];exact hlt
    obtain⟨y1,y2,hx,hs1,hs2,Sa,iL⟩:=Po.out k eY;obtain⟨b,o,hab,hp⟩:=(eu.out.below pb).spn k mF hx;have aU:=wP n c1 k (k:Int) hab hlt rfl;obtain⟨U,hU⟩:=az (aS [(cF n k,canon 1)]);obtain⟨M,hM⟩:=az (aS (cC (-1) U));have qG:=PV.out k hlt;have hsc:=lT.out k;have DR:=Hng.out y1 hs1;have hcl:=jC.out (-y1) (Sm.neg hs1);have hch:=jC.out y2 hs2;have hal:=ah7.out k y1 hs1;have Dp:=ah6.out k y2 hs2;have hfl:=OZ.out k y1 hs1;have SF:=Hhf.out k y2 hs2;obtain⟨CL,hCL⟩:∃C,cW n (-y1) (λ_=>0) 0=C:=⟨_,rfl⟩;obtain⟨CH,hCH⟩:∃C,cW n y2 (λ_=>0) 0=C:=⟨_,rfl⟩;obtain⟨LO,RI⟩:∃C,ug n k y1=C:=⟨_,rfl⟩;obtain⟨HI,RG⟩:∃C,tN n k y2=C:=⟨_,rfl⟩;simp only[hU]at qG hsc hal Dp;simp only[hM]at hsc Dp;simp only[hCL]at hcl hal;simp only[hCH]at hch Dp;rw[RI]at hfl Sa;simp only[RI]at hal;rw[RG]at SF iL;simp only[RG]at Dp;obtain⟨yn,yI⟩:=az (-y1);rw[yI]at DR hcl;obtain⟨Ho,aP,xG,lR,akO,aks,ajM,ait,ais,ah9,ah8,Hfl⟩:=gL ho pb hpo hpl qG hsc DR hcl hch hal Dp hfl;obtain⟨Hfh,dJ,xt⟩:=bL SF Sa iL;have Hp:Hid (aQ wr b (o+k*6) [ag (au (dN y1)),ah (nt (dN y1).natAbs),af (dE y1),ag (au (dN y2)),ah (nt (dN y2).natAbs),af (dE y2)]):=hp;have mX:=aj (aC bJ.out pb);have ie:=pb.size;clear ho pb hpo hpl qG hsc DR hcl hch hal Dp hfl SF Sa iL hp hx hab hU hM hCL hCH RI RG yI hs1 hs2;have Hb:=hbz wr;obtain⟨ae,ai⟩:=qZ (Hp.an trivial);have aG:=qL (Hb.an ae);go_wp2_with fail;refine cX wr (Hb.an ae) 88 [ag (au (dN y1)),ah (nt (dN y1).natAbs),af (dE y1),ag (au (dN y2)),ah (nt (dN y2).natAbs),af (dE y2)] λW4 aG ae ai=>?_;go_wp2_with fail;refine(akO.out _ (aC mX.out ae.2.1.out)).mono ?_;rintro e w5 ⟨a5,c5,rfl,Ik,ak⟩;obtain⟨ae,ai⟩:=qX ak ae;have HX:Hid (aW w5 a5 c5 U):=Ik;clear Ik;have aG:=qL (HX.an ae);go_wp2_with fail;refine cX w5 (HX.an ae) 41 [af (n:Int),.slice a5 U.length c5] λW6 aG ae ai=>?_;have Yc:=ae.2.2.1;have Yi:=ae.1;have NY:=ae.2.1;have uv:=ae.2.2.2.1;go_upto_region 6 with fail
    go_cut[8] (λs8 wx=>∃(g:Nat) (a:Option Addr) (d:Nat),s8=.pointer (some ⟨g,0,none⟩)/\W6.heap.size<=g/\ar wx g 41 [af (n:Int),.slice a M.length d]/\aW wx a d M/\Bw W6 wx);case first=>
     have Hb:=hbz W6;have Ht:=ae.1;have Hs:=ae.2.2.1;have HX:=ae.2.1;obtain⟨ae,ai⟩:=qZ (Ht.an trivial);have HX:Hid (aW W6 a5 c5 U):=NY.out;have HX0:=HX;obtain⟨Ht,_⟩:=ae;obtain⟨t0,t1⟩:=Ht.out.c2;have oJ:∀w',gF W6 w'->aJ w' (w5.heap.size) 0 (af (n:Int))/\aJ w' (w5.heap.size) 1 (.slice a5 U.length c5):=λw' h=>⟨cell_later h t0,cell_later h t1⟩;refine Jt (λw'=>gF W6 w') (λi=>Nat.blt i 8) 6 41 [af 0,.slice none 0 0] [(0,true),(1,false),(2,false),(3,true),(4,true),(5,true)] [(7,false),(8,false)] zk zk rfl rfl rfl zk zk zc zc (λK a w h=>IQ rfl rfl (λK' hK=>by go_simp;exact hK _ _ h)) ?_;clear t0 t1 Ht HX;intro W6f ak;replace Hb:=aj (aC Hb.out ak);refine⟨Hb.out,?_⟩;refine vk rfl rfl (v:=?_) (λw' hw'=>?_) ?_;rotate_left;(focus have hw':=oJ w' hw';obtain⟨q0,q1⟩:=hw';go_simp;try with_reducible rfl);try simp only[UU]
     refine yV rfl rfl (λK hK=>?_);go_simp;with_reducible refine(nX.out _ (aC (aC mX.out uv.out) Hb.out)).mono ?_
     rintro e w9 ⟨rfl,hq⟩;refine hK _ _ hq (λw7 ak hb2=>?_);replace Hb:=aj (aC Hb.out ak);refine⟨Hb.out,?_⟩;clear ak hb2 hq hK K;try simp only[UU]
     refine yV rfl rfl (λK hK=>?_);go_simp;with_reducible refine(aks.out _ a5 c5 (aC (aC mX.out uv.out) Hb.out) (HX0.out.below Hb.out)).mono ?_
     rintro e w9 ⟨a8,d8,rfl,jw,hq⟩;refine hK _ _ hq (λw8 ak hb2=>?_);have qZ:=aj (jw.below hb2);clear jw;replace Hb:=aj (aC Hb.out ak);refine⟨Hb.out,?_⟩;clear ak hb2 hq hK K;have HZ:=qZ;clear qZ;try simp only[UU]
     iterate 3 (refine vk rfl rfl (v:=?_) (λw' hw'=>?_) ?_;rotate_left;(focus go_simp;try with_reducible rfl);try simp only[UU])
     intro Jw hb0 qx;have Hz:=aj qx;clear qx;obtain⟨z0,Da,z1,xV⟩:=Hz.out.g2;try simp only[U1]
     try simp only[Act.put,U2,U3]
     refine aN rfl rfl (λK hK=>?_);go_simp;refine hK _ _ (λ_=>by first|exact((Hb.out.setCell zp _).setCell zp _) |exact(((Hb.out.setCell zp _).setCell zp _).setCell zp _)) ?_;try simp only[UU]
     refine aN rfl rfl (λK hK=>?_);go_simp;refine hK _ _ (λh=>absurd h zd) ?_;try simp only[UU]
     simp only[bE];go_wp2_with fail;go_meet;exact⟨Jw,_,_,rfl,hb0,(Hz.out.set 0 _).set 1 _,HZ.out.store Hz.out zd _ _,(Hb.out.setCell zp _).setCell zp _⟩
    case rest=>
     obtain⟨g8,a8,d8,rfl,bj,gg,jw,hbc⟩:=hcut;obtain⟨Hs,Ht⟩:=aI (Yc.out.below hbc) (Yi.out.below hbc);have Hm:Hid (ar wc g8 41 [af (n:Int),.slice a8 M.length d8]):=gg;obtain⟨Ki,WO,Hb⟩:=bL jw (NY.out.below hbc) (aC uv.out hbc);clear gg jw hbc NY Yc Yi uv;obtain⟨ae,ai⟩:=qZ (Hs.an<|Ht.an<|Hm.an trivial);have HX:Hid (aW wc a5 c5 U):=WO.out;have HV:Hid (aW wc a8 d8 M):=Ki.out;clear WO Ki;go_wp2_with fail;refine aK (Hb.an<|HX.an<|HV.an ae) (ajM.out _ (aC mX.out Hb.out)) λjl ae ai=>?_;go_wp2_with fail;refine(ait.out _ (aC mX.out ae.1.out)).mono ?_;rintro e mV ⟨vS,c11,rfl,Ig,ak⟩;obtain⟨ae,ai⟩:=qX ak ae;have HL:Hid (aW mV vS c11 CL):=Ig;clear Ig;have aG:=qL (HL.an ae);go_wp2_with fail;refine cX mV (HL.an ae) 41 [af (n:Int),.slice vS CL.length c11] λQn aG ae ai=>?_;go_wp2_with fail;refine(ais.out _ (aC mX.out ae.2.2.1.out)).mono ?_;rintro e rT ⟨KI,c13,rfl,adh,ak⟩;obtain⟨ae,ai⟩:=qX ak ae;have HF:Hid (aW rT KI c13 CH):=adh;clear adh;have aG:=qL (HF.an ae);go_wp2_with fail;refine gQ rT (HF.an ae) 41 [af (n:Int),.slice KI CH.length c13] 41 [af (n:Int),.slice a5 U.length c5,af (n:Int),.slice vS CL.length c11] λW14 aG ae ai=>?_;go_wp2_with fail;refine(ah9.out a5 c5 vS c11 _ (aC mX.out ae.2.2.2.2.2.1.out) _ ae.2.1.out ae.2.2.2.2.2.2.1.out ae.2.2.2.2.1.out).mono ?_;rintro e VJ ⟨uC,c16,rfl,Ii,ak⟩;obtain⟨ae,ai⟩:=qX ak ae;have HA:Hid (aW VJ uC c16 LO):=Ii;clear Ii;have aG:=qL (HA.an ae);go_wp2_with fail;refine gQ VJ (HA.an ae) 41 [af (n:Int),.slice uC LO.length c16] 41 [af (n:Int),.slice KI CH.length c13,af (n:Int),.slice a8 M.length d8] λW17 aG ae ai=>?_;go_wp2_with fail;refine(ah8.out KI c13 a8 d8 _ (aC mX.out ae.2.2.2.2.2.2.2.2.1.out) _ ae.2.1.out ae.2.2.2.2.2.1.out ae.2.2.2.2.2.2.2.2.2.2.1.out).mono ?_;rintro e rU ⟨CI,c19,rfl,adj,ak⟩;obtain⟨ae,ai⟩:=qX ak ae;have HZ:Hid (aW rU CI c19 HI):=adj;clear adj;obtain⟨W20,azg,aG,ae,ai⟩:=UW rU (HZ.an ae) 41 [af (n:Int),.slice CI HI.length c19] 41 [af (n:Int),.slice uC LO.length c16,af (n:Int),.slice CI HI.length c19];have lw:=ownsRow_below Ho.out ae.2.2.2.2.2.2.2.2.2.2.2.1.out;have hs9:=ae.2.2.2.2.2.2.2.2.2.2.2.1.out.size;go_wp2_with (at_builtin;refine wpList_append_own_at _ rfl _ _ 51 rfl w1.heap.size 41 j0 _ 2 32 Tryz.underlying51 Hj.out kM.out kN.out kO.out rfl zd v (2*k) (ps.flatMap ic) rfl lw ⟨rU.heap.size+1,0,none⟩ 2 2 [af (n:Int),.slice uC LO.length c16,af (n:Int),.slice CI HI.length c19] rfl rfl (fN ae.2.1.out) zy zx zo zo ?_;intro v' w22 Mz GH _ fI;obtain⟨g',ry,rfl⟩:=ownsRow_succ Mz);have yE:∀g,v.ownBlock=some g->∃cur t,W20.heap[g]?=some (.cells cur t)/\t≠111:=λg e=>by obtain⟨cur,t,h1,h2⟩:=vd lw g e;exact⟨cur,t,h1,by rw[h2];decide⟩
     have hq0:=(xG.out.below ae.2.2.2.2.2.2.2.2.2.2.2.1.out).grown GH yE;have hq1:=UQ hq0 (show pW n (bx.map bH) ps.length=LO by rw[lR.out];exact dJ.out) (ae.2.2.2.2.2.1.out.grown GH yE) Hfl.out;have hq2:=UQ hq1 (C:=HI) (by rw[List.length_append,lR.out];exact xt.out) (ae.2.2.1.out.grown GH yE) Hfh.out;have abK:=(aC aP.out ae.2.2.2.2.2.2.2.2.2.2.2.1.out).grown GH zo (λj e=>cK lw j e);have ZV:ps.flatMap ic++[af (n:Int),.slice uC LO.length c16,af (n:Int),.slice CI HI.length c19]=(ps++[(⟨(n:Int),uC,LO.length,c16⟩:Pv)]++[(⟨(n:Int),CI,HI.length,c19⟩:Pv)]).flatMap ic:=by rw[List.flatMap_append,List.flatMap_append,List.append_assoc];rfl
     rw[ZV]at Mz;obtain⟨ajP,Hq2,aig⟩:=bL Mz hq2 abK;clear Mz hq0 hq1 hq2 abK ZV yE GH fI lw;go_wp2;go_roundw;case rel=>exact⟨k+1,_,_,by omega,by go_num,rfl,by rw[List.length_append,List.length_append,lR.out];rfl,ajP.out,Hq2.out,aig.out⟩
     case measure=>exact bf
  . obtain rfl:k=n:=by omega
    obtain⟨Tp,ho',Tn,aP⟩:=cE hpo ho hpl (aC bJ.out pb);clear ho pb hpo hpl;go_wp2;obtain⟨a',c',e1,h1,h2⟩:=cz ho'.out;subst e1;have hcc:2*k<=c':=by
     rcases ho'.out.2 with⟨h,h0⟩ |⟨g9,amz,anj,h,_,_,h6,_⟩
     . omega
     . simp only[Value.slice.injEq,true_and]at h;omega
    exact bodyPost_ret (results_tmp rfl _ _ _) rfl ⟨a',c',ps,rfl,hcc,Tn.out,h1,Tp.out,aP.out⟩
def cO (n m:Nat):Nat:=if 0<m then m-1 else n
def gu (n m:Nat):Nat:=if 0<m then m else 2*n
def jf (bx:List (Raw×Raw))(rows:List (List Raw)):Nat->List Trm:=if 0<rows.length then jL (rows.length-1) (dA rows) (rows.length-1)else pW bx.length (bx.map bH)
def Qf (c:Int)(bx:List (Raw×Raw))(rows:List (List Raw))(B:Nat)(w:World)(e:Ending)(w':World):Prop:=
 ∃(la:Option Addr) (k lc:Nat),e=.returned (.tuple #[.slice la k lc,af c])/\(c≠0->k=0)/\(c=0->∃ps,k=gu bx.length rows.length/\k<=lc/\ps.length=k/\At w' la (ps.flatMap ic)/\fC w' (cO bx.length rows.length) (5*B+33) ps (jf bx rows))/\Bw w w'
def QQ {n m:Nat}{cb ct:Int}(h:rz n m cb ct=0):(n=0/\0<m/\ct=0)\/(m=0/\1<=n/\n<=6/\cb=0):=by
 unfold rz at h;by_cases h1:(0<n↔0<m)
 . rw[if_pos h1]at h;cases h
 . rw[if_neg h1]at h;by_cases h2:0<m
   . rw[if_pos h2]at h;exact .inl ⟨by omega,h2,h⟩
   . rw[if_neg h2]at h;by_cases h3:6<n
     . rw[if_pos h3]at h;cases h
     . rw[if_neg h3]at h;exact .inr ⟨by omega,by omega,by omega,h⟩
def fC.more {w:World}{V B C:Nat}{ps:List Pv}{Ts:Nat->List Trm}(h:fC w V B ps Ts)(hB:B<=C):fC w V C ps Ts:=λk hk=>by obtain⟨a,c,h1,h2,h3⟩:=h k hk;exact⟨a,c,h1,h2,h3.mono hB⟩
def aeC (bx:List (Raw×Raw))(rows:List (List Raw))(n m B:Nat)(a a':Option Addr)(cap cap':Nat)(c:Int)(w:World)(hn:bx.length=n)(hm:rows.length=m)(hb:At w a (bx.flatMap spC))(ha:Tbl w a' rows)(gX:lK B bx)(iF:∀r∈rows,∀c∈r,Fit B c)(xX:3<=B)(hB:B<=200000)(dV:n<=1000)(jc:m<=5)(hcap:m<=cap')(hT:aB w)
 (hc:rz n m (iV (bx.map bH)) (jA rows)=c):
 Cl 24 #[.agg #[.slice a n cap,.slice a' m cap']] w (Qf c bx rows B w):=by
 have cH:=λW (hW:Bw w W)=>ZC bx rows n m B a a' cap cap' c W hn hm (hb.below hW) (ha.below hW) gX iF zo dV jc hcap (hT.below hW) hc;have fA:=aj cH;by_cases h0:c=0
 rotate_left
 . have Db:(c==0)=false:=by simpa using h0
   have vW:(c !=0)=true:=by simpa using h0
   clear cH hb ha gX iF hT hn hm hc;have Hb:=hbz w;go_enter Tryz.func24,Tryz.ntmps24;go_wp2_with fail;refine cX w (Hb.an trivial) 27 [.slice a n cap,.slice a' m cap'] λW aG ae ai=>?_;go_wp2_with fail;refine aK ae (fA.out _ ae.2.1.out) λw1 ae ai=>?_;go_wp2;exact bodyPost_ret (v:=.tuple #[.slice none 0 0,af c]) (by simp[results,Tryz.results24,go_sem]) rfl ⟨none,0,0,rfl,λ_=>rfl,λh=>absurd h h0,ae.2.1.out⟩
 subst h0;rcases QQ hc with⟨hn0,hm0,hct⟩ |⟨hm0,dV,DK,hcb⟩
 . obtain⟨q,Tx,yx⟩:=agl (B:=B) zo iF hct;have SY:m=q+1+1:=by rw[<-hm];exact yx.1
   subst SY hn0;have hfo:=λW (hW:Bw w W)=>ao9 a' cap' q rows B W Tx yx hcap (ha.below hW) hB (hT.below hW) hct;have hV:cO bx.length rows.length=q+1:=by unfold cO;rw[hm,if_pos hm0];omega
   have hL:gu bx.length rows.length=q+1+1:=by unfold gu;rw[hm,if_pos hm0]
   have hTe:jf bx rows=jL (q+1) (dA rows) (q+1):=by unfold jf;rw[hm,if_pos hm0];rfl
   have tP:=λW=>IH 0 (q+1+1) a a' cap cap' false true zm zm W;obtain⟨OJ,zP,HV,HL,NV⟩:=dY hfo tP hV hL hTe;clear cH hb ha gX iF hT hn hm hc hfo tP yx hct hV hL hTe;have Hb:=hbz w;go_enter Tryz.func24,Tryz.ntmps24;go_wp2_with fail;refine cX w (Hb.an trivial) 27 [.slice a 0 cap,.slice a' (q+1+1) cap'] λW aG ae ai=>?_;go_wp2_with fail;refine aK ae (fA.out _ ae.2.1.out) λw1 ae ai=>?_;go_wp2_with fail;refine aK ae (zP.out _) λw2 ae ai=>?_;go_wp2_with fail;refine(OJ.out _ ae.2.1.out).mono ?_;rintro e w3 ⟨la,lc,ps,rfl,hlc,hpl,hat,hps,ak⟩;obtain⟨ae,ai⟩:=qX ak ae;go_wp2;exact bodyPost_ret (v:=.tuple #[.slice la (q+1+1) lc,af 0]) (by simp[results,Tryz.results24,go_sem]) rfl ⟨la,_,lc,rfl,λh=>absurd rfl h,λ_=>⟨ps,HL.out.symm,hlc,hpl,hat,by rw[HV.out,NV.out];exact hps⟩,ae.2.1.out⟩
 . subst hm0;have DX:=λW (hW:Bw w W)=>avZ a n cap B bx W hn dV DK gX xX zo (hb.below hW) (hT.below hW);have hV:cO bx.length rows.length=n:=by unfold cO;rw[hm,hn];rfl
   have hL:gu bx.length rows.length=2*n:=by unfold gu;rw[hm,hn];rfl
   have hTe:jf bx rows=pW n (bx.map bH):=by unfold jf;rw[hm,hn];rfl
   have tP:=λW=>IH n 0 a a' cap cap' true false zi zm W;obtain⟨Kl,zP,HV,HL,NV⟩:=dY DX tP hV hL hTe;clear cH hb ha gX iF hT hn hm hc DX tP hcb hV hL hTe;have Hb:=hbz w;go_enter Tryz.func24,Tryz.ntmps24;go_wp2_with fail;refine cX w (Hb.an trivial) 27 [.slice a n cap,.slice a' 0 cap'] λW aG ae ai=>?_;go_wp2_with fail;refine aK ae (fA.out _ ae.2.1.out) λw1 ae ai=>?_;go_wp2_with fail;refine aK ae (zP.out _) λw2 ae ai=>?_;go_wp2_with fail;refine(Kl.out _ ae.2.1.out).mono ?_;rintro e w3 ⟨la,lc,ps,rfl,hlc,hpl,hat,hps,ak⟩;obtain⟨ae,ai⟩:=qX ak ae;go_wp2;exact bodyPost_ret (v:=.tuple #[.slice la (2*n) lc,af 0]) (by simp[results,Tryz.results24,go_sem]) rfl ⟨la,_,lc,rfl,λh=>absurd rfl h,λ_=>⟨ps,HL.out.symm,hlc,hpl,hat,by rw[HV.out,NV.out];exact hps.more zo⟩,ae.2.1.out⟩
end Go.Proofs.YtpfgffadgkkedaaGreatDoor
namespace Go.Proofs.YtpfgffadgkkedaaGreatDoor
def below (f:Trm->Nat)(c:Nat)(p:List Trm):Nat:=(p.filter λt=>decide (f t<c)).length
def below_le (f:Trm->Nat)(c:Nat)(p:List Trm):below f c p<=p.length:=List.length_filter_le _ _
def alV {f:Trm->Nat}{p:List Trm}(h:p.Pairwise λx y=>f x<=f y)(c i:Nat)(hi:i<p.length):f p[i]<c↔i<below f c p:=by
 induction p generalizing i with
 |nil=>simp at hi
 | cons x p ih=>
   obtain⟨h1,h2⟩:=List.pairwise_cons.1 h;unfold below;by_cases hx:f x<c
   . rw[List.filter_cons_of_pos (by simpa using hx),List.length_cons];cases i with
     |zero=>simpa using hx
     | succ i=>
       have hi2:i<p.length:=by simpa using hi
       have:=ih h2 i hi2;rw[List.getElem_cons_succ,this];unfold below;omega
   . have e:p.filter (λt=>decide (f t<c))=[]:=by rw[List.filter_eq_nil_iff];intro t ht;have:=h1 t ht;simp;omega
     rw[List.filter_cons_of_neg (by simpa using hx),e];cases i with
     |zero=>simpa using hx
     | succ i=>
       have hi2:i<p.length:=by simpa using hi
       have:=h1 _ (List.getElem_mem hi2);rw[List.getElem_cons_succ];simp;omega
def alW (f:Trm->Nat){c d:Nat}(p:List Trm)(h:c<=d):below f c p<=below f d p:=by
 induction p with
 |nil=>exact Nat.le_refl _
 | cons x p ih=>
   unfold below at ih⊢;rw[List.filter_cons,List.filter_cons];by_cases h1:f x<c
   . rw[if_pos (by simpa using h1),if_pos zi];simp only[List.length_cons];omega
   . rw[if_neg (by simpa using h1)];split
     . simp only[List.length_cons];omega
     . exact ih
def alU {k:Nat}{p:List Trm}(h:p.Pairwise λx y=>fD k x<=fD k y)(c:Nat):dQ k c p=(p.drop (below (fD k) c p)).take (below (fD k) (c+1) p-below (fD k) c p):=by
 induction p with
 |nil=>simp[dQ]
 | cons x p ih=>
   obtain⟨h1,h2⟩:=List.pairwise_cons.1 h;have ih:=ih h2;unfold dQ below at ih⊢;rcases Nat.lt_trichotomy (fD k x) c with hx|hx|hx
   . have e1:(x::p).filter (λt=>fD k t==c)=p.filter (λt=>fD k t==c):=List.filter_cons_of_neg zi;have e2:(x::p).filter (λt=>decide (fD k t<c))=x::p.filter (λt=>decide (fD k t<c)):=List.filter_cons_of_pos (by simpa using hx);have e3:(x::p).filter (λt=>decide (fD k t<c+1))=x::p.filter (λt=>decide (fD k t<c+1)):=List.filter_cons_of_pos zi;rw[e1,e2,e3,ih];simp only[List.length_cons,List.drop_succ_cons,Nat.add_sub_add_right]
   . have e:p.filter (λt=>decide (fD k t<c))=[]:=by rw[List.filter_eq_nil_iff];intro t ht;have:=h1 t ht;simp;omega
     have e1:(x::p).filter (λt=>fD k t==c)=x::p.filter (λt=>fD k t==c):=List.filter_cons_of_pos (by simpa using hx);have e2:(x::p).filter (λt=>decide (fD k t<c))=p.filter (λt=>decide (fD k t<c)):=List.filter_cons_of_neg zi;have e3:(x::p).filter (λt=>decide (fD k t<c+1))=x::p.filter (λt=>decide (fD k t<c+1)):=List.filter_cons_of_pos zi;rw[e1,e2,e3,ih,e];simp only[List.length_cons,List.length_nil,List.drop_zero,Nat.sub_zero,List.take_succ_cons]
   . have e:∀d,d<=c+1->(x::p).filter (fun t=>decide (fD k t<d))=[]:=fun d hd=>by
      rw[List.filter_eq_nil_iff];intro t ht;rcases List.mem_cons.1 ht with rfl|ht
      . simp;omega
      . have:=h1 t ht;simp;omega
     rw[e c zo,e (c+1) zo];simp only[List.length_nil,Nat.sub_zero,List.drop_zero,List.take_zero];rw[List.filter_eq_nil_iff];intro t ht;rcases List.mem_cons.1 ht with rfl|ht
     . simp;omega
     . have:=h1 t ht;simp;omega
def al1 {a b:List UInt8}(h:Op.bytesLess a b=true)(k:Nat)(hs:∀j,j<k->a.getD j 0=b.getD j 0)(hl:a.length=b.length):(a.getD k 0).toNat<=(b.getD k 0).toNat:=by
 induction a generalizing b k with
 | nil=>
   cases b with
   |nil=>exact Nat.le_refl _
   |cons y b=>simp at hl
 | cons x a ih=>
   cases b with
   |nil=>simp at hl
   | cons y b=>
     have h':=h;simp only[Op.bytesLess,Bool.or_eq_true,Bool.and_eq_true,decide_eq_true_eq,beq_iff_eq]at h';cases k with
     | zero=>
       rcases h' with h1|⟨h1,_⟩
       . have:=UInt8.lt_iff_toNat_lt.1 h1;simp;omega
       . simp[h1]
     | succ k=>
       have h0:=hs 0 zo;simp only[List.getD_cons_zero]at h0;subst h0;rcases h' with h1|⟨_,h1⟩
       . exact absurd (UInt8.lt_iff_toNat_lt.1 h1) zo
       . have:=ih h1 k (λj hj=>by have:=hs (j+1) zo;simpa using this) (by simpa using hl);simpa using this
def aoP {p:List Trm}{k L:Nat}(hu:Up p)(hl:∀t∈p,t.1.length=L)(hs:∀t∈p,∀u∈p,∀j,j<k->t.1.getD j 0=u.1.getD j 0):p.Pairwise λx y=>fD k x<=fD k y:=
 List.Pairwise.imp_of_mem (λ{x y} hx hy h=>al1 h k (hs x hx y hy) (by rw[hl x hx,hl y hy])) hu
end Go.Proofs.YtpfgffadgkkedaaGreatDoor
