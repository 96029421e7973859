/- Plain: polynomials put into one,by Horner's rule,block by block: the value,the degree,how great the numbers are. -/
import Derived.Test.YtpfgffadgkkedaaGreatDoorZ20
import Derived.Test.YtpfgffadgkkedaaGreatDoorZ13
import Derived.Test.YtpfgffadgkkedaaGreatDoorZ27
import Derived.Test.YtpfgffadgkkedaaGreatDoorZ24
import Derived.Test.YtpfgffadgkkedaaGreatDoorZ7
import Derived.Test.YtpfgffadgkkedaaGreatDoorZ14
set_option linter.all false
set_option maxRecDepth 100000
set_option maxHeartbeats 16000000
namespace Go.Proofs.YtpfgffadgkkedaaGreatDoor
def fF (k:Nat)(t:Trm):Nat:=(t.1.getD k 0).toNat
def dR (k n:Nat)(p:List Trm):List Trm:=p.filter λt=>fF k t==n
def eQ (la:List Trm)(f:Nat->List Trm):Nat->List Trm
 |0=>[]
 |m+1=>aU (aU (fO (eQ la f m) la)++f (127-m))
def dP (V:Nat)(l:Nat->List Trm)(L:Nat):Nat->List Trm->List Trm
 |0,[]=>[]
 |0,t::_=>cZ V (dval t.2) (λ_=>0) 0
 |r+1,p=>eQ (l (L-(r+1))) (λn=>dP V l L r (dR (L-(r+1)) n p)) 128
def clean_nil :aU []=[]:=rfl
def Nc (b:List Trm):fO [] b=[]:=rfl
def Bb {la:List Trm}{f:Nat->List Trm}(m:Nat)(h:∀n,128-m<=n->n<=127->f n=[]):eQ la f m=[]:=by
 induction m with
 |zero=>rfl
 | succ m ih=>
   by_cases hm:m<=127
   . rw[eQ,ih (λn h1 h2=>h n zo h2),Nc,clean_nil,h (127-m) zo zo];rfl
   . rw[eQ,ih (λn h1 h2=>h n zo h2),Nc,clean_nil,show 127-m=0 by omega,h 0 zo zo];rfl
def ak7 (k n:Nat):dR k n []=[]:=rfl
def zh (V:Nat)(l:Nat->List Trm)(L r:Nat):dP V l L r []=[]:=by
 induction r with
 |zero=>rfl
 |succ r ih=>exact Bb 128 (λn _ _=>by show dP V l L r (dR _ n [])=[];rw[ak7,ih])
def Good.nil :Good []:=⟨List.Pairwise.nil,λx hx=>by cases hx⟩
def MB {la:List Trm}{f:Nat->List Trm}(m:Nat):Good (eQ la f m):=by
 cases m with
 |zero=>exact Good.nil
 |succ m=>exact jJ _
def Tm {V D:Nat}{la:List Trm}{f:Nat->List Trm}(hl:DegT V 1 la)(ko:∀n,D<n->f n=[])(hf:∀n,n<=D->DegT V (D-n) (f n))(hD:D<=127)(m:Nat)(hm:m<=128):
 DegT V (D-(128-m)) (eQ la f m)/\(D<128-m->eQ la f m=[]):=by
 induction m with
 |zero=>exact⟨λt ht=>(by cases ht),λ_=>rfl⟩
 | succ m ih=>
   obtain⟨h1,h2⟩:=ih zo;by_cases hd:D<128-(m+1)
   . have e:eQ la f (m+1)=[]:=Bb _ (λn h3 _=>ko n zo);rw[e];exact⟨λt ht=>(by cases ht),λ_=>rfl⟩
   . refine⟨?_,λh=>absurd h hd⟩;rw[eQ];refine DegT.clean (DegT.append (DegT.clean ?_) ((hf (127-m) zo).mono zo));by_cases he:D<128-m
     . rw[h2 he];intro t ht;cases ht
     . exact(DegT.mul h1 hl zo).mono zo
def amh {B:Nat}{l:List Trm}(h:∀x∈l,Sm B (dval x.2))(m:List UInt8):∃a:Int,bR l m=Dyadic.ofIntWithPrec a B/\a.natAbs<=l.length* (2^(2*B)-1):=by
 induction l with
 |nil=>exact⟨0,(xq _).symm,by simp⟩
 | cons x l ih=>
   obtain⟨a,h1,h2⟩:=ih (λy hy=>h y (by simp[hy]));obtain⟨b,h3,h4⟩:=h x zm;simp only[bR];rw[List.length_cons,Nat.succ_mul];split
   . exact⟨b+a,by rw[h1,h3,vv],by have:=Int.natAbs_add_le b a;omega⟩
   . refine⟨a,?_,by omega⟩;rw[h1];grind
def sU {B k:Nat}{l:List Trm}(h:∀x∈l,Sm B (dval x.2))(hk:l.length<=2^k):∀t∈aU l,Sm (B+k) (dval t.2):=by
 intro t ht;rw[(jJ l).coef t ht,rA];obtain⟨a,h1,h2⟩:=amh h t.1;refine⟨a*2^k,?_,?_⟩
 . rw[h1];have:=rT a k B;rw[<-this];congr 1
 . have hp:0<2^(2*B):=Nat.pow_pos zd;have h3:l.length* (2^(2*B)-1)<=2^k* (2^(2*B)-1):=Nat.mul_le_mul_right _ hk;have h4:2^k* (2^(2*B)-1)<2^k*2^(2*B):=Nat.mul_lt_mul_of_pos_left zo (Nat.pow_pos zd);have e:(a*2^k).natAbs=a.natAbs*2^k:=by rw[Int.natAbs_mul,Int.natAbs_pow];rfl
   rw[e,show 2* (B+k)=k+2*B+k by omega,Nat.pow_add,Nat.pow_add];exact Nat.mul_lt_mul_of_pos_right zo (Nat.pow_pos zd)
def acR {A K C D:Nat}{la:List Trm}{f:Nat->List Trm}(ko:∀n,D<n->f n=[])(hf:∀n,n<=D->∀t∈f n,Sm (A+(D-n) *K) (dval t.2))(fq:∀t∈la,Sm C (dval t.2))(hK:C+25<=K)
 (hN:∀m,m<=127->(eQ la f m).length*la.length<=4096) (hF:∀n,(f n).length<=4096) (hD:D<=127) (m:Nat) (hm:m<=128):
 ∀t∈eQ la f m,Sm (A+13+(D-(128-m)) *K) (dval t.2):=by
 induction m with
 |zero=>intro t ht;cases ht
 | succ m ih=>
   by_cases hd:D<128-(m+1)
   . rw[Bb (m+1) (λn h3 _=>ko n zo)];intro t ht;cases ht
   . have h1:=ih zo;rw[eQ];have h2:∀t∈aU (fO (eQ la f m) la),Sm (A+(D-(127-m)) *K) (dval t.2):=by
      by_cases he:D<128-m
      . rw[Bb m (λn h3 _=>ko n zo),Nc,clean_nil];intro t ht;cases ht
      . intro t ht;have h3:=sU (k:=12) (Ut h1 fq) (by rw[Nb];exact hN m zo) t ht;refine h3.mono ?_;have e:D-(127-m)=D-(128-m)+1:=by omega
        rw[e,Nat.succ_mul];omega
     intro t ht;rw[show 128-(m+1)=127-m by omega];refine(sU (B:=A+(D-(127-m)) *K) (k:=13) ?_ ?_ t ht).mono zo
     . intro x hx;rcases List.mem_append.1 hx with hx|hx
       . exact h2 x hx
       . exact hf _ zo x hx
     . rw[List.length_append];have h5:=kV (fO (eQ la f m) la);rw[Nb]at h5;have:=hN m zo;have:=hF (127-m);show _<=8192;omega
def xx (y:Nat->Dyadic)(L:Nat)(t:List UInt8):Nat->Dyadic
 |0=>1
 |r+1=>ow (y (L-(r+1))) (t.getD (L-(r+1)) 0).toNat*xx y L t r
def Ri {f g:List UInt8->Dyadic}{l:List Trm}(h:∀t∈l,f t.1=g t.1):bG f l=bG g l:=by
 induction l with
 |nil=>rfl
 |cons x l ih=>rw[bG,bG,h x zm,ih (λt ht=>h t (by simp[ht]))]
def anF (f g:List UInt8->Dyadic)(y:Dyadic)(l:List Trm):bG (λm=>f m*y+g m) l=bG f l*y+bG g l:=by
 induction l with
 |nil=>show(0:Dyadic)=0*y+0;grind
 |cons x l ih=>simp only[bG,ih];grind
def anG (f:List UInt8->Dyadic)(k n:Nat)(l:List Trm):bG f (dR k n l)=bG (λm=>if(m.getD k 0).toNat=n then f m else 0) l:=by
 induction l with
 |nil=>rfl
 | cons x l ih=>
   unfold dR at ih⊢;rw[List.filter_cons];by_cases h:fF k x=n
   . have h':(x.1.getD k 0).toNat=n:=h;rw[if_pos (by simpa using h),bG,bG,ih,if_pos h']
   . have h':¬(x.1.getD k 0).toNat=n:=h;rw[if_neg (by simpa using h),bG,ih,if_neg h'];grind
def ap5 {V D:Nat}(X:Nat->Dyadic){la:List Trm}{f:Nat->List Trm}(hl:DegT V 1 la)(ko:∀n,D<n->f n=[])(hf:∀n,n<=D->DegT V (D-n) (f n))(hD:D<=126)(g:List UInt8->Dyadic)(k:Nat)(p:List Trm)
 (hp:∀t∈p,(t.1.getD k 0).toNat<=127) (hg:∀n,n<=127->bG (fh X V) (f n)=bG g (dR k n p)) (m:Nat) (hm:m<=128):
 bG (fh X V) (eQ la f m)=bG (λt=>if 128-m<=(t.getD k 0).toNat then ow (bG (fh X V) la) ((t.getD k 0).toNat-(128-m)) *g t else 0) p:=by
 induction m with
 | zero=>
   show(0:Dyadic)=_
   have e:bG (λt=>if 128-0<=(t.getD k 0).toNat then ow (bG (fh X V) la) ((t.getD k 0).toNat-(128-0)) *g t else 0) p=bG (λ_=>0) p:=Ri (λt ht=>by
    have:=hp t ht
    rw[if_neg zo])
   rw[e];clear e hg hp;induction p with
   |nil=>rfl
   |cons x p ih=>rw[bG,<-ih];grind
 | succ m ih=>
   have hd:=(Tm hl ko hf zo m zo).1;rw[eQ,yf,Ar,yf,anI X V _ 1 _ _ hd hl zo,ih zo,hg (127-m) zo,anG,<-anF];refine Ri (λt ht=>?_);have h1:=hp t ht;generalize (t.1.getD k 0).toNat=e at*;generalize bG (fh X V) la=y;have e1:128-(m+1)=127-m:=by omega
   rw[e1];by_cases c1:128-m<=e
   . rw[if_pos c1,if_neg (show ¬e=127-m by omega),if_pos (show 127-m<=e by omega),show e-(127-m)=e-(128-m)+1 by omega,ow];grind
   . rw[if_neg c1];by_cases c2:e=127-m
     . rw[if_pos c2,if_pos (show 127-m<=e by omega),c2,Nat.sub_self];show 0*y+g t.1=1*g t.1
       grind
     . rw[if_neg c2,if_neg (show ¬127-m<=e by omega)];grind
def remS (L:Nat):Nat->List UInt8->Nat
 |0,_=>0
 |r+1,t=>(t.getD (L-(r+1)) 0).toNat+remS L r t
def jI {k n:Nat}{p:List Trm}{t:Trm}(h:t∈dR k n p):t∈p/\(t.1.getD k 0).toNat=n:=by have:=List.mem_filter.1 h;exact⟨this.1,by simpa[fF]using this.2⟩
def ya {k n:Nat}{p:List Trm}(h:∀t∈p,(t.1.getD k 0).toNat≠n):dR k n p=[]:=by unfold dR;rw[List.filter_eq_nil_iff];intro t ht hc;exact h t ht (by simpa[fF]using hc)
def afq (V:Nat)(l:Nat->List Trm)(L r:Nat)(p:List Trm):Good (dP V l L r p):=by
 cases r with
 | zero=>
   cases p with
   |nil=>exact Good.nil
   |cons t p=>exact jJ _
 |succ r=>exact MB _
def Lh (V:Nat)(c:Dyadic)(l:Nat->Dyadic):DegT V 0 (cZ V c l 0):=by refine DegT.clean (λt ht=>?_);have:t∈fw V c l 0:=ht;simp only[fw,List.range_zero,List.map_nil,List.mem_singleton]at this;subst this;exact⟨Wc V,by rw[afV];exact Nat.le_refl _⟩
def Nn {V L D:Nat}{l:Nat->List Trm}(hl:∀k,k<L->DegT V 1 (l k))(hD:D<=127)(r:Nat):∀(D':Nat) (p:List Trm),D'<=D->r<=L->(∀t∈p,remS L r t.1<=D')->DegT V D' (dP V l L r p):=by
 induction r with
 | zero=>
   intro D' p _ _ _;cases p with
   |nil=>intro t ht;cases ht
   |cons t p=>exact(Lh V _ _).mono (Nat.zero_le _)
 | succ r ih=>
   intro D' p hD' hr hp
   have h:=(Tm (V:=V) (D:=D') (la:=l (L-(r+1))) (f:=λn=>dP V l L r (dR (L-(r+1)) n p)) (hl _ zo) (λn hn=>by
    show dP V l L r (dR _ n p)=[]
    rw[ya (λt ht e=>by have:=hp t ht;rw[remS]at this;omega),zh]) (λn hn=>ih (D'-n) _ zo zo (λt ht=>by
    obtain⟨h1,h2⟩:=jI ht
    have:=hp t h1;rw[remS]at this;omega)) zo 128 zo).1
   exact h
def Np {V L D:Nat}{l:Nat->List Trm}(hl:∀k,k<L->DegT V 1 (l k))(hD:D<=127){r:Nat}{p:List Trm}(hr:r<=L)(hp:∀t∈p,remS L r t.1<=D):(dP V l L r p).length<=(D+1)^V:=
 LH (afq V l L r p) (Nn hl (Nat.le_refl D|>λ_=>hD) r D p zo hr hp)
def Nq {V L D:Nat}{l:Nat->List Trm}(hl:∀k,k<L->DegT V 1 (l k))(hD:D<=127){r:Nat}{p:List Trm}(hr:r+1<=L)(hp:∀t∈p,remS L (r+1) t.1<=D)(m:Nat)(hm:m<=128):
 DegT V (D-(128-m)) (eQ (l (L-(r+1))) (λn=>dP V l L r (dR (L-(r+1)) n p)) m):=
 (Tm (V:=V) (D:=D) (hl _ zo) (λn hn=>by
  show dP V l L r (dR _ n p)=[]
  rw[ya (λt ht e=>by have:=hp t ht;rw[remS]at this;omega),zh]) (λn hn=>Nn hl hD r (D-n) _ zo zo (λt ht=>by
  obtain⟨h1,h2⟩:=jI ht
  have:=hp t h1;rw[remS]at this;omega)) hD m hm).1
structure SubOk (V L D C K M:Nat)(l:Nat->List Trm):Prop where
 deg:∀k,k<L->DegT V 1 (l k)
 sm:∀k,k<L->∀t∈l k,Sm C (dval t.2)
 kc:C+25<=K
 dl:D<=126
 len:∀k,k<L->(l k).length<=M
 few:D^V*M<=4096
 few2:(D+1)^V<=2048
def SubOk.az4 {V L D C K M:Nat}{l:Nat->List Trm}(h:SubOk V L D C K M l){r:Nat}{p:List Trm}(hr:r+1<=L)(hp:∀t∈p,remS L (r+1) t.1<=D)(m:Nat)(hm:m<=127):
 (eQ (l (L-(r+1))) (λn=>dP V l L r (dR (L-(r+1)) n p)) m).length* (l (L-(r+1))).length<=4096:=by
 have h1:=Nq h.deg (by have:=h.dl;omega) hr hp m zo;have h2:=LH (MB m) h1;by_cases hd:D<128-m
 . have e:eQ (l (L-(r+1))) (fun n=>dP V l L r (dR (L-(r+1)) n p)) m=[]:=Bb m (fun n h3 _=>by
    show dP V l L r (dR _ n p)=[]
    rw[ya (λt ht e=>by have:=hp t ht;rw[remS]at this;omega),zh])
   rw[e];simp
 . have h3:(D-(128-m)+1)^V<=D^V:=Nat.pow_le_pow_left zo V;exact Nat.le_trans (Nat.mul_le_mul (Nat.le_trans h2 h3) (h.len _ zo)) h.few
def afr {V L D C K M A:Nat}{l:Nat->List Trm}(h:SubOk V L D C K M l)(r:Nat):∀(D':Nat) (p:List Trm),D'<=D->r<=L->(∀t∈p,remS L r t.1<=D')->(∀t∈p,Sm A (dval t.2))->
 ∀t∈dP V l L r p,Sm (A+13* (r+1)+D'*K) (dval t.2):=by
 induction r with
 | zero=>
   intro D' p _ _ _ hs;cases p with
   |nil=>intro t ht;cases ht
   | cons x p=>
     intro t ht
     have h1:=sU (B:=A) (k:=0) (l:=fw V (dval x.2) (λ_=>0) 0) (λy hy=>by
      simp only[fw,List.range_zero,List.map_nil,List.mem_singleton]at hy;subst hy;show Sm A (dval (canon (dval x.2)))
      rw[bu];exact hs x zm) (by simp[fw]) t ht
     exact h1.mono zo
 | succ r ih=>
   intro D' p hD' hr hp hs t ht;have hd:=h.dl
   have h1:=acR (A:=A+13* (r+1)) (K:=K) (C:=C) (D:=D') (la:=l (L-(r+1))) (f:=λn=>dP V l L r (dR (L-(r+1)) n p)) (λn hn=>by
    show dP V l L r (dR _ n p)=[]
    rw[ya (λt ht e=>by have:=hp t ht;rw[remS]at this;omega),zh]) (λn hn=>ih (D'-n) _ zo zo (λt ht=>by
    obtain⟨h1,h2⟩:=jI ht
    have:=hp t h1;rw[remS]at this;omega) (λt ht=>hs t (jI ht).1)) (h.sm _ zo) h.kc (λm hm=>h.az4 zo (λt ht=>by have:=hp t ht;omega) m hm) (λn=>by
    have h2:=Np h.deg zo (r:=r) (p:=dR (L-(r+1)) n p) (D:=D) zo (λt ht=>by
     obtain⟨h1,h2⟩:=jI ht
     have:=hp t h1;rw[remS]at this;omega)
    have:=h.few2
    show(dP V l L r (dR (L-(r+1)) n p)).length<=4096;omega) zo 128 zo t ht
   rw[show D'-(128-128)=D' by omega]at h1;exact h1.mono zo
def av9 {p:List Trm}(hu:Up p){x:Trm}(h:∀t∈x::p,t.1=x.1)(hu2:Up (x::p)):p=[]:=by
 cases p with
 |nil=>rfl
 |cons y p=>have:=(List.pairwise_cons.1 hu2).1 y zm;rw[h y zm,CM]at this;cases this
def auN {V L D C K M:Nat}{l:Nat->List Trm}(X:Nat->Dyadic)(h:SubOk V L D C K M l)(r:Nat):∀(D':Nat) (p:List Trm),D'<=D->r<=L->(∀t∈p,remS L r t.1<=D')->Up p->(∀t∈p,t.1.length=L/\∀c∈t.1,c.toNat<=127)->
 (∀t∈p,∀u∈p,∀k,k<L-r->t.1.getD k 0=u.1.getD k 0)->bG (fh X V) (dP V l L r p)=bG (λm=>xx (λk=>bG (fh X V) (l k)) L m r) p:=by
 induction r with
 | zero=>
   intro D' p _ _ _ hu hL hs;cases p with
   |nil=>rfl
   | cons x p=>
     have e:p=[]:=av9 hu.tail (λt ht=>by
      have h1:=hL t ht;have h2:=hL x zm;refine List.ext_getElem zo (λk hk1 hk2=>?_);have:=hs t ht x zm k zo;rw[List.getD_eq_getElem?_getD,List.getD_eq_getElem?_getD,List.getElem?_eq_getElem hk1,List.getElem?_eq_getElem hk2]at this
      exact this) hu
     subst e;show bG (fh X V) (cZ V (dval x.2) (λ_=>0) 0)=dval x.2*1+0
     rw[Au X V _ _ 0 (Nat.zero_le _)];show dval x.2+0=_
     grind
 | succ r ih=>
   intro D' p hD' hr hp hu hL hs;have hd:=h.dl;have hk:L-(r+1)<L:=by omega
   have hby:∀t∈p,(t.1.getD (L-(r+1)) 0).toNat<=127:=λt ht=>by have h1:=hL t ht;rw[List.getD_eq_getElem?_getD,List.getElem?_eq_getElem zo];exact h1.2 _ (List.getElem_mem _)
   have h1:=ap5 (V:=V) (D:=D') X (la:=l (L-(r+1))) (f:=λn=>dP V l L r (dR (L-(r+1)) n p)) (h.deg _ hk) (λn hn=>by
    show dP V l L r (dR _ n p)=[]
    rw[ya (λt ht e=>by have:=hp t ht;rw[remS]at this;omega),zh]) (λn hn=>Nn (D:=D) h.deg zo r (D'-n) _ zo zo (λt ht=>by
    obtain⟨h1,h2⟩:=jI ht
    have:=hp t h1;rw[remS]at this;omega)) zo (λm=>xx (λk=>bG (fh X V) (l k)) L m r) (L-(r+1)) p hby (λn _=>ih D' _ hD' zo (λt ht=>by
    have:=hp t (jI ht).1;rw[remS]at this;omega) (hu.filter _) (λt ht=>hL t (jI ht).1) (λt ht u hu' k hk=>by
    obtain⟨h1,h2⟩:=jI ht;obtain⟨h3,h4⟩:=jI hu';by_cases hkk:k<L-(r+1)
    . exact hs t h1 u h3 k hkk
    . obtain rfl:k=L-(r+1):=by omega
      exact UInt8.toNat_inj.1 (by rw[h2,h4]))) 128 zo
   refine h1.trans (Ri (λt ht=>?_));rw[Nat.sub_self,if_pos (Nat.zero_le _),Nat.sub_zero,xx]
def CW {x y:Dyadic}(hx:0<=x)(hy:0<=y):0<=x*y:=by rw[<-Dyadic.toRat_le_toRat_iff,Dyadic.toRat_zero]at hx hy⊢;rw[Dyadic.toRat_mul];exact Rat.mul_nonneg hx hy
def aeU :(0:Dyadic)<=1:=by decide+kernel
def atW {x:Dyadic}(h:0<=x)(n:Nat):0<=ow x n:=by
 induction n with
 |zero=>exact aeU
 |succ n ih=>exact CW ih h
def avJ {y:Nat->Dyadic}{L:Nat}(hy:∀k,k<L->0<=y k)(t:List UInt8)(r:Nat)(hr:r<=L):0<=xx y L t r:=by
 induction r with
 |zero=>exact aeU
 |succ r ih=>exact CW (atW (hy _ zo) _) (ih zo)
def avK (y:Nat->Dyadic){L:Nat}{t:List UInt8}(h:∀k,k<L->(t.getD k 0).toNat=0)(r:Nat)(hr:r<=L):xx y L t r=1:=by
 induction r with
 |zero=>rfl
 |succ r ih=>rw[xx,ih zo,h _ zo];show(1:Dyadic) *1=1;grind
def anJ {f:List UInt8->Dyadic}(hf:∀t,0<=f t){p:List Trm}(hp:∀t∈p,0<=dval t.2):0<=bG f p:=by
 induction p with
 |nil=>show(0:Dyadic)<=0;decide+kernel
 |cons x p ih=>have h1:=CW (hp x zm) (hf x.1);have h2:=ih (λt ht=>hp t (by simp[ht]));rw[bG];grind
def anW {y:Nat->Dyadic}{L:Nat}(hy:∀k,k<L->0<=y k){x:Trm}{p:List Trm}(h0:∀k,k<L->(x.1.getD k 0).toNat=0)(hx:0<dval x.2)(hp:∀t∈p,0<=dval t.2):0<bG (λm=>xx y L m L) (x::p):=by have h2:=anJ (f:=λm=>xx y L m L) (λt=>avJ hy t L (Nat.le_refl _)) hp;rw[bG,avK y h0 L (Nat.le_refl _)];grind
def sZ {V B d:Nat}{l:List Trm}(hg:Good l)(hd:DegT V d l)(hl:l.length<=4096)(hV:V<=12)(hs:∀t∈l,Sm B (dval t.2))(hB:B<=268435456):dU V B l:=
 ⟨⟨hg,λt ht=>(hd t ht).1,hl,hV⟩,λt ht=>by rw[(hg.2 t ht).2];exact(hs t ht).fit hB⟩
def uh (V i:Nat)(lo:Dyadic):List Trm:=aU (aU [(cB V i,canon 1)]++cZ V (-lo) (λ_=>0) 0)
def tN (V i:Nat)(hi:Dyadic):List Trm:=aU (cZ V hi (λ_=>0) 0++aU (cz (-1) (aU [(cB V i,canon 1)])))
def af7 (X:Nat->Dyadic)(V i:Nat)(h:i<V):bG (fh X V) (aU [(cB V i,canon 1)])=X i:=by
 rw[yf];show dval (canon 1) *jB X 1 (cB V i) V+0=X i
 rw[bu,aeB X V i V (Nat.le_refl _) h,if_pos h];grind
def aro (X:Nat->Dyadic)(V i:Nat)(lo:Dyadic)(h:i<V):bG (fh X V) (uh V i lo)=X i-lo:=by
 unfold uh;rw[yf,Ar,af7 X V i h,Au X V _ _ 0 (Nat.zero_le _)];show X i+(-lo+0)=_
 grind
def apG (X:Nat->Dyadic)(V i:Nat)(hi:Dyadic)(h:i<V):bG (fh X V) (tN V i hi)=hi-X i:=by
 unfold tN;rw[yf,Ar,yf,aaa,af7 X V i h,Au X V _ _ 0 (Nat.zero_le _)];show hi+0+ -1*X i=_
 grind
def NE (V i:Nat):DegT V 1 (aU [(cB V i,canon 1)]):=DegT.clean λt ht=>by simp only[List.mem_singleton]at ht;subst ht;exact⟨ND V i,afU V i⟩
def afu {V d:Nat}{l:List Trm}(c:Dyadic)(h:DegT V d l):DegT V d (cz c l):=λt ht=>by unfold cz at ht;obtain⟨x,hx,rfl⟩:=List.mem_map.1 ht;exact h x hx
def aei (V i:Nat)(lo:Dyadic):DegT V 1 (uh V i lo):=DegT.clean (DegT.append (NE V i) ((Lh V _ _).mono zo))
def ack (V i:Nat)(hi:Dyadic):DegT V 1 (tN V i hi):=DegT.clean (DegT.append ((Lh V _ _).mono zo) (DegT.clean (afu _ (NE V i))))
def Aj (V:Nat)(c:Dyadic)(l:Nat->Dyadic):(cZ V c l 0).length<=1:=by have:=kV (fw V c l 0);rw[Ec]at this;exact this
def xy (V i:Nat):(aU [(cB V i,canon 1)]).length<=1:=kV _
def aej (V i:Nat)(lo:Dyadic):(uh V i lo).length<=2:=by have h1:=kV (aU [(cB V i,canon 1)]++cZ V (-lo) (λ_=>0) 0);rw[List.length_append]at h1;have:=xy V i;have:=Aj V (-lo) (λ_=>0);unfold uh;omega
def acl (V i:Nat)(hi:Dyadic):(tN V i hi).length<=2:=by have h1:=kV (cZ V hi (λ_=>0) 0++aU (cz (-1) (aU [(cB V i,canon 1)])));have h2:=kV (cz (-1) (aU [(cB V i,canon 1)]));rw[List.length_append]at h1;unfold cz at h1 h2;rw[List.length_map]at h2;have:=xy V i;have:=Aj V hi (λ_=>0);unfold tN cz;omega
def VK (V i:Nat):∀t∈aU [(cB V i,canon 1)],Sm 1 (dval t.2):=sU (k:=0) (B:=1) (by intro t ht;simp only[List.mem_singleton]at ht;subst ht;show Sm 1 (dval (canon 1));rw[bu];exact Sm.one) zm
def QO {B:Nat}(V:Nat){c:Dyadic}(h:Sm B c)(l:Nat->Dyadic):∀t∈cZ V c l 0,Sm B (dval t.2):=sU (k:=0) (by
 intro t ht;simp only[fw,List.range_zero,List.map_nil,List.mem_singleton]at ht
 subst ht;show Sm B (dval (canon c));rw[bu];exact h) (by simp[fw])
def arp {B:Nat}(V i:Nat){lo:Dyadic}(h:Sm B lo)(hB:1<=B):∀t∈uh V i lo,Sm (B+1) (dval t.2):=sU (k:=1) (by
 intro t ht;rcases List.mem_append.1 ht with ht|ht
 . exact(VK V i t ht).mono hB
 . exact QO V (Sm.neg h) _ t ht) (by
 rw[List.length_append];have:=xy V i;have:=Aj V (-lo) (λ_=>0);omega)
def aeH (V i:Nat):∀t∈aU (cz (-1) (aU [(cB V i,canon 1)])),Sm 3 (dval t.2):=sU (k:=0) (by
 intro t ht;unfold cz at ht;obtain⟨x,hx,rfl⟩:=List.mem_map.1 ht;show Sm 3 (dval (canon (dval x.2* -1)))
 rw[bu]
 exact(Sm.mul (VK V i x hx) (Sm.neg Sm.one)).mono zo) (by
 unfold cz;rw[List.length_map];exact xy V i)
def apH {B:Nat}(V i:Nat){hi:Dyadic}(h:Sm B hi)(hB:3<=B):∀t∈tN V i hi,Sm (B+1) (dval t.2):=sU (k:=1) (by
 intro t ht;rcases List.mem_append.1 ht with ht|ht
 . exact QO V h _ t ht
 . exact(aeH V i t ht).mono hB) (by
 have h2:=kV (cz (-1) (aU [(cB V i,canon 1)]));unfold cz at h2;rw[List.length_map]at h2
 rw[List.length_append];have:=xy V i;have:=Aj V hi (λ_=>0);unfold cz;omega)
def avb (lo hi t:Dyadic)(h:lo<=hi)(h0:0<=t)(h1:t<=1):0<=lo+t* (hi-lo)-lo/\0<=hi-(lo+t* (hi-lo)):=by
 have a:0<=hi-lo:=by grind
 have b:0<=1-t:=by grind
 have c:=CW h0 a;have d:=CW b a;have e:(1-t) * (hi-lo)=hi-lo-t* (hi-lo):=by grind
 rw[e]at d;constructor<;>grind
def agn (n:Nat)(hn:1<=n)(aS:n<=4)(p:Nat->Nat->Dyadic)(j:Nat)(hj:j<=n):∃(c:Dyadic) (l:Nat->Dyadic),∀X,fK n p X j=c+dF (λb=>l b*X b) n:=by
 by_cases h:j=0
 . refine⟨wZ n p (λ_=>0) n,λb=>lZ n p b n,λX=>?_⟩;rw[<-Ro n hn aS p X j hj,LC X n _ _ (Nat.le_refl _),List.take_length];unfold jL ma;rw[if_pos h,Au X n _ _ n (Nat.le_refl _)]
 . refine⟨wC n p (j-1),λk=>js n p k (j-1),λX=>?_⟩;rw[<-Ro n hn aS p X j hj,LC X n _ _ (Nat.le_refl _),List.take_length];unfold jL pu;rw[if_neg h,Au X n _ _ n (Nat.le_refl _)]
def avo (l x y:Nat->Dyadic)(h:Dyadic)(n:Nat):dF (λb=>l b* ((x b+y b) *h)) n=(dF (λb=>l b*x b) n+dF (λb=>l b*y b) n) *h:=by
 induction n with
 |zero=>show(0:Dyadic)=(0+0) *h;grind
 |succ n ih=>simp only[dF,ih];grind
def aqB {n:Nat}(hn:1<=n)(aS:n<=4)(p:Nat->Nat->Dyadic){x y:Nat->Dyadic}{h:Dyadic}(hh:h+h=1)(hx:fU n p x)(hy:fU n p y):fU n p (λk=>(x k+y k) *h):=by
 intro k hk hlt;obtain⟨c,l,e⟩:=agn n hn aS p k hk;have h1:=hx k hk;have h2:=hy k hk;rw[e]at h1 h2 hlt;rw[avo]at hlt;generalize dF (λb=>l b*x b) n=a at*;generalize dF (λb=>l b*y b) n=b at*;have e2:c+(a+b) *h=((c+a)+(c+b)) *h:=by
  have:c*h+c*h=c:=by
   have:c*h+c*h=c* (h+h):=by grind
   rw[this,hh];grind
  grind
 rw[e2]at hlt;have h3:((c+a)+(c+b)) *h+((c+a)+(c+b)) *h=(c+a)+(c+b):=by
  have:((c+a)+(c+b)) *h+((c+a)+(c+b)) *h=((c+a)+(c+b)) * (h+h):=by grind
  rw[this,hh];grind
 generalize ((c+a)+(c+b)) *h=z at*;grind
def adT {n:Nat}(hn:1<=n)(aS:n<=4)(p:Nat->Nat->Dyadic)(j:Nat)(hj:j<=n):fU n p (p j):=by
 intro k hk;rw[awJ n hn aS p k j hk hj];split
 . rw[afw];split<;>grind
 . decide+kernel
def TY {n:Nat}(hn:1<=n)(aS:n<=4)(p:Nat->Nat->Dyadic){x y:Nat->Dyadic}(h:∀k,k<n->x k=y k)(hx:fU n p x):fU n p y:=by
 intro k hk;have h1:=hx k hk;obtain⟨c,l,e⟩:=agn n hn aS p k hk;rw[e]at h1⊢;have:dF (λb=>l b*x b) n=dF (λb=>l b*y b) n:=by
  have:∀m,m<=n->dF (λb=>l b*x b) m=dF (λb=>l b*y b) m:=λm=>by
   induction m with
   |zero=>intro _;rfl
   |succ m ih=>intro hm;simp only[dF];rw[ih zo,h m zo]
  exact this n (Nat.le_refl _)
 rwa [<-this]
end Go.Proofs.YtpfgffadgkkedaaGreatDoor
namespace Go.Proofs.YtpfgffadgkkedaaGreatDoor
open Go.RowKit
attribute [local go_sem ↓] Go.wp_at_zero Go.wp_at_succ
def pO (V:Nat)(b:List Pr)(k:Nat):List Trm:=if k%2=0 then uh V (k/2) (eK (b.getD (k/2) (0,0))).1 else tN V (k/2) (eK (b.getD (k/2) (0,0))).2
def af6 {V:Nat}(hV:V<=12)(i B:Nat)(h1:1<=B)(hB:B<=268435456):dU V B (aU [(cB V i,canon 1)]):=
 sZ (jJ _) (NE V i) (by have:=xy V i;omega) hV (λt ht=>(VK V i t ht).mono h1) hB
def ast {V:Nat}(hV:V<=12)(i B:Nat)(h1:3<=B)(hB:B<=268435456):dU V B (aU (cz (-1) (aU [(cB V i,canon 1)]))):=
 sZ (jJ _) (DegT.clean (afu _ (NE V i))) (by
  have h2:=kV (cz (-1) (aU [(cB V i,canon 1)]));have:=xy V i
  unfold cz at h2;rw[List.length_map]at h2;unfold cz;omega) hV (λt ht=>(aeH V i t ht).mono h1) hB
def Zo {V B:Nat}(hV:V<=12){c:Dyadic}(h:Sm B c)(l:Nat->Dyadic)(hB:B<=268435456):dU V B (cZ V c l 0):=
 sZ (jJ _) (Lh V c l) (by have:=Aj V c l;omega) hV (QO V h l) hB
def arn {V B:Nat}(hV:V<=12)(i:Nat){c:Dyadic}(h:Sm B c)(h1:1<=B)(hB:B<=268435455):dU V (B+1) (uh V i c):=
 sZ (jJ _) (aei V i c) (by have:=aej V i c;omega) hV (arp V i h h1) zo
def apE {V B:Nat}(hV:V<=12)(i:Nat){c:Dyadic}(h:Sm B c)(h1:3<=B)(hB:B<=268435455):dU V (B+1) (tN V i c):=
 sZ (jJ _) (ack V i c) (by have:=acl V i c;omega) hV (apH V i h h1) zo
def auZ (a:Option Addr)(n cap B:Nat)(bx:List (Raw×Raw))(w:World)(hn:bx.length=n)(h1:1<=n)(h6:n<=6)(hf:kJ B bx)(yi:3<=B)(hB:B<=1000000)(ha:At w a (bx.flatMap spC))(hT:aB w):
 Cl 82 #[.slice a n cap] w λe w'=>∃(a':Option Addr) (c':Nat) (ps:List Pv),e=.returned (.slice a' (2*n) c')/\2*n<=c'/\ps.length=2*n/\At w' a' (ps.flatMap ib)/\fE w' n (B+1) ps (pO n (bx.map aY))/\Bw w w':=by
 obtain⟨j0,hj,hy0,hy1,hy2⟩:=info_parts Tryz.aAd;have yz:=λW (hW:Bw w W)=>QE a n cap B bx W hn zo hf (ha.below hW) (hT.below hW);have qE:=λk (hk:k<n) W (hW:Bw w W)=>agb n k W zo hk (hT.below hW);have hof:=λW (hW:Bw w W)=>CV (-1) (-1) rfl W zd (hT.below hW);have hsc:=λk (W:World) a' c' (hW:Bw w W) (h:aW W a' c' (aU [(cB n k,canon 1)]))=>Vr n a' c' (aU [(cB n k,canon 1)]) _ _ _ (-1) 1 W (af6 zo k 1 (Nat.le_refl _) zo) h ((Sm.neg Sm.one).fit zo) zo (hT.below hW) (bu (-1));have DF:=λ(y:Dyadic) (hy:Sm B y) W (hW:Bw w W)=>Li (az (dN y)) (nt (dN y).natAbs) (dE y) (-y) (by show-dval (canon y)=_;rw[bu]) W (hy.fit zo).1 (hT.below hW);have hcn:=λ(y:Dyadic) (hy:Sm B y) W (hW:Bw w W)=>CS n (az (dN y)) (nt (dN y).natAbs) (dE y) y B (λ_=>0) W zo (hy.fit zo) zo (hT.below hW) (bu y);have abx:=λk (y:Dyadic) (hy:Sm B y) aA cA aD cD (W:World) (hW:Bw w W) b hb hA hD=>FP n B (aU [(cB n k,canon 1)]) (cZ n (-y) (λ_=>0) 0) (uh n k y) aA aD cA cD W b hb hA hD (af6 zo k B zo zo) (Zo zo (Sm.neg hy) _ zo) (by have:=xy n k;have:=Aj n (-y) (λ_=>0);omega) zo (hT.below hW) rfl
 have abw:=λk (y:Dyadic) (hy:Sm B y) aA cA aD cD (W:World) (hW:Bw w W) b hb hA hD=>FP n B (cZ n y (λ_=>0) 0) (aU (cz (-1) (aU [(cB n k,canon 1)]))) (tN n k y) aA aD cA cD W b hb hA hD (Zo zo hy _ zo) (ast zo k B zo zo) (by
  have h2:=kV (cz (-1) (aU [(cB n k,canon 1)]));have:=xy n k;have:=Aj n y (λ_=>0)
  unfold cz at h2;rw[List.length_map]at h2;unfold cz;omega) zo (hT.below hW) rfl
 have tV:∀k (h:k<bx.length),∃y1 y2,(bx.map jm)[k]'(by simpa using h)=(canon y1,canon y2)/\Sm B y1/\Sm B y2/\pO n (bx.map aY) (2*k)=uh n k y1/\pO n (bx.map aY) (2*k+1)=tN n k y2:=λk h=>by
  have hs:=hf _ (List.getElem_mem h);have ho:=qK (p:=aY bx[k]) ⟨hs.1.2,hs.2.2⟩;refine⟨(eK (aY bx[k])).1,(eK (aY bx[k])).2,by simp[jm,kG],ho.1,ho.2,?_,?_⟩
  . unfold pO;rw[if_pos zo,show 2*k/2=k by omega];simp[h]
  . unfold pO;rw[if_neg zo,show(2*k+1)/2=k by omega];simp[h]
 have AU:=λk (y:Dyadic) (hy:Sm B y)=>arn (V:=n) zo k hy zo zo;have hhf:=λk (y:Dyadic) (hy:Sm B y)=>apE (V:=n) zo k hy yi zo;have mr:(bx.map jm).length=n:=by simpa using hn
 obtain⟨Hj,kR,jF,kU,Fa,PZ,nR,lO,Hng,jD,ahn,ahm⟩:=gL hj hy0 hy1 hy2 yz qE hof hsc DF hcn abx abw;obtain⟨Ps,OZ,Hhf,Fh,Hn⟩:=eD tV AU hhf mr hn;clear hj hy0 hy1 hy2 yz qE hof hsc DF hcn abx abw tV AU hhf mr hn ha hT hf;have Hb:=hbz w;go_enter Tryz.func82,Tryz.ntmps82;go_wp2_with fail;refine(Fa.out _ Hb.out).mono ?_;rintro e w1 ⟨a1,c1,rfl,jf,ak⟩;have dV:=aj jf;replace Hb:=bj Hb ak;clear ak jf;have bI:=Hb;go_wp2_with fail;go_loopw[3,21] (λs3 x wr=>∃(k:Nat) (v:Value) (ps:List Pv),k<=n/\x=af (k:Int)/\v=s3/\ps.length=2*k/\wr.ownsRow w1.heap.size 41 2 v (2*k) (ps.flatMap ib)/\fE wr n (B+1) ps (pO n (bx.map aY))/\Bw w1 wr) (λ_ x _=>n-(intOf x).toNat);case atStart=>exact⟨0,_,[],Nat.zero_le _,rfl,rfl,rfl,World.ownsRow_nil _ _ _ _,λk hk=>by simp at hk,Below.refl _ _⟩
 case round=>
  clear Hb;obtain⟨k,v,ps,hk,rfl,rfl,hpl,ho,hpo,pb⟩:=hrel;by_cases hlt:k<n
  . have ez:k<bx.length:=by rw[Hn.out];exact hlt
    have oY:k<(bx.map jm).length:=by rw[Fh.out];exact hlt
    obtain⟨y1,y2,hx,hs1,hs2,Sb,iO⟩:=Ps.out k ez;obtain⟨b,o,hab,hp⟩:=(dV.out.below pb).spn k oY hx;have aX:=vh n c1 k (k:Int) hab hlt rfl;obtain⟨U,hU⟩:=au (aU [(cB n k,canon 1)]);obtain⟨M,hM⟩:=au (aU (cz (-1) U));have qE:=PZ.out k hlt;have hsc:=lO.out k;have DF:=Hng.out y1 hs1;have hcl:=jD.out (-y1) (Sm.neg hs1);have hch:=jD.out y2 hs2;have hal:=ahn.out k y1 hs1;have Dk:=ahm.out k y2 hs2;have hfl:=OZ.out k y1 hs1;have SH:=Hhf.out k y2 hs2;obtain⟨CL,hCL⟩:∃C,cZ n (-y1) (λ_=>0) 0=C:=⟨_,rfl⟩;obtain⟨CH,hCH⟩:∃C,cZ n y2 (λ_=>0) 0=C:=⟨_,rfl⟩;obtain⟨LO,RJ⟩:∃C,uh n k y1=C:=⟨_,rfl⟩;obtain⟨HI,RH⟩:∃C,tN n k y2=C:=⟨_,rfl⟩;simp only[hU]at qE hsc hal Dk;simp only[hM]at hsc Dk;simp only[hCL]at hcl hal;simp only[hCH]at hch Dk;rw[RJ]at hfl Sb;simp only[RJ]at hal;rw[RH]at SH iO;simp only[RH]at Dk;obtain⟨yn,ub⟩:=au (-y1);rw[ub]at DF hcl;obtain⟨Ho,aP,xO,lM,ajW,ajA,aiZ,ahJ,ahI,ahp,aho,Hfl⟩:=gL ho pb hpo hpl qE hsc DF hcl hch hal Dk hfl;obtain⟨Hfh,dH,xD⟩:=bM SH Sb iO;have Hp:Hid (aQ wr b (o+k*6) [ag (az (dN y1)),ah (nt (dN y1).natAbs),af (dE y1),ag (az (dN y2)),ah (nt (dN y2).natAbs),af (dE y2)]):=hp;have mP:=aj (aF bI.out pb);have ic:=pb.size;clear ho pb hpo hpl qE hsc DF hcl hch hal Dk hfl SH Sb iO hp hx hab hU hM hCL hCH RJ RH ub hs1 hs2;have Hb:=hbz wr;obtain⟨ae,ai⟩:=qZ (Hp.an trivial);have aG:=qL (Hb.an ae);go_wp2_with fail;refine cF wr (Hb.an ae) 88 [ag (az (dN y1)),ah (nt (dN y1).natAbs),af (dE y1),ag (az (dN y2)),ah (nt (dN y2).natAbs),af (dE y2)] λW4 aG ae ai=>?_;go_wp2_with fail;refine(ajW.out _ (aF mP.out ae.2.1.out)).mono ?_;rintro e w5 ⟨a5,c5,rfl,IA,ak⟩;obtain⟨ae,ai⟩:=qX ak ae;have HX:Hid (aW w5 a5 c5 U):=IA;clear IA;have aG:=qL (HX.an ae);go_wp2_with fail;refine cF w5 (HX.an ae) 41 [af (n:Int),.slice a5 U.length c5] λW6 aG ae ai=>?_;have Ye:=ae.2.2.1;have Yj:=ae.1;have Ob:=ae.2.1;have uv:=ae.2.2.2.1;go_upto_region 6 with fail
    go_cut[8] (λs8 wx=>∃(g:Nat) (a:Option Addr) (d:Nat),s8=.pointer (some ⟨g,0,none⟩)/\W6.heap.size<=g/\ar wx g 41 [af (n:Int),.slice a M.length d]/\aW wx a d M/\Bw W6 wx);case first=>
     have Hb:=hbz W6;have Ht:=ae.1;have Hs:=ae.2.2.1;have HX:=ae.2.1;obtain⟨ae,ai⟩:=qZ (Ht.an trivial);have HX:Hid (aW W6 a5 c5 U):=Ob.out;have HX0:=HX;obtain⟨Ht,_⟩:=ae;obtain⟨t0,t1⟩:=Ht.out.c2;have qT:∀w',iK W6 w'->aJ w' (w5.heap.size) 0 (af (n:Int))/\aJ w' (w5.heap.size) 1 (.slice a5 U.length c5):=λw' h=>⟨cell_later h t0,cell_later h t1⟩;refine NL (λw'=>iK W6 w') (λi=>Nat.blt i 8) 6 41 [af 0,.slice none 0 0] [(0,true),(1,false),(2,false),(3,true),(4,true),(5,true)] [(7,false),(8,false)] zk zk rfl rfl rfl zk zk zc zc (λK a w h=>Nh rfl rfl (λK' hK=>by go_simp;exact hK _ _ h)) ?_;clear t0 t1 Ht HX;intro W6f ak;replace Hb:=aj (aF Hb.out ak);refine⟨Hb.out,?_⟩;refine yY rfl rfl (v:=?_) (λw' hw'=>?_) ?_;rotate_left;(focus have hw':=qT w' hw';obtain⟨q0,q1⟩:=hw';go_simp;try with_reducible rfl);try simp only[UU]
     refine El rfl rfl (λK hK=>?_);go_simp;with_reducible refine(nR.out _ (aF (aF mP.out uv.out) Hb.out)).mono ?_
     rintro e w9 ⟨rfl,hq⟩;refine hK _ _ hq (λw7 ak hb2=>?_);replace Hb:=aj (aF Hb.out ak);refine⟨Hb.out,?_⟩;clear ak hb2 hq hK K;try simp only[UU]
     refine El rfl rfl (λK hK=>?_);go_simp;with_reducible refine(ajA.out _ a5 c5 (aF (aF mP.out uv.out) Hb.out) (HX0.out.below Hb.out)).mono ?_
     rintro e w9 ⟨a8,d8,rfl,kv,hq⟩;refine hK _ _ hq (λw8 ak hb2=>?_);have qZ:=aj (kv.below hb2);clear kv;replace Hb:=aj (aF Hb.out ak);refine⟨Hb.out,?_⟩;clear ak hb2 hq hK K;have HZ:=qZ;clear qZ;try simp only[UU]
     iterate 3 (refine yY rfl rfl (v:=?_) (λw' hw'=>?_) ?_;rotate_left;(focus go_simp;try with_reducible rfl);try simp only[UU])
     intro Wb hb0 qx;have Hz:=aj qx;clear qx;obtain⟨z0,Da,z1,yg⟩:=Hz.out.g2;try simp only[U1]
     try simp only[Act.put,U2,U3]
     refine aO rfl rfl (λK hK=>?_);go_simp;refine hK _ _ (λ_=>by first|exact((Hb.out.setCell zp _).setCell zp _) |exact(((Hb.out.setCell zp _).setCell zp _).setCell zp _)) ?_;try simp only[UU]
     refine aO rfl rfl (λK hK=>?_);go_simp;refine hK _ _ (λh=>absurd h zd) ?_;try simp only[UU]
     simp only[bH];go_wp2_with fail;go_meet;exact⟨Wb,_,_,rfl,hb0,(Hz.out.set 0 _).set 1 _,HZ.out.store Hz.out zd _ _,(Hb.out.setCell zp _).setCell zp _⟩
    case rest=>
     obtain⟨g8,a8,d8,rfl,bA,gT,kv,hbc⟩:=hcut;obtain⟨Hs,Ht⟩:=aH (Ye.out.below hbc) (Yj.out.below hbc);have Hm:Hid (ar wc g8 41 [af (n:Int),.slice a8 M.length d8]):=gT;obtain⟨XW,WR,Hb⟩:=bM kv (Ob.out.below hbc) (aF uv.out hbc);clear gT kv hbc Ob Ye Yj uv;obtain⟨ae,ai⟩:=qZ (Hs.an<|Ht.an<|Hm.an trivial);have HX:Hid (aW wc a5 c5 U):=WR.out;have HV:Hid (aW wc a8 d8 M):=XW.out;clear WR XW;go_wp2_with fail;refine aK (Hb.an<|HX.an<|HV.an ae) (aiZ.out _ (aF mP.out Hb.out)) λjU ae ai=>?_;go_wp2_with fail;refine(ahJ.out _ (aF mP.out ae.1.out)).mono ?_;rintro e xz ⟨vZ,c11,rfl,Iw,ak⟩;obtain⟨ae,ai⟩:=qX ak ae;have HL:Hid (aW xz vZ c11 CL):=Iw;clear Iw;have aG:=qL (HL.an ae);go_wp2_with fail;refine cF xz (HL.an ae) 41 [af (n:Int),.slice vZ CL.length c11] λQr aG ae ai=>?_;go_wp2_with fail;refine(ahI.out _ (aF mP.out ae.2.2.1.out)).mono ?_;rintro e rX ⟨KM,c13,rfl,acX,ak⟩;obtain⟨ae,ai⟩:=qX ak ae;have HF:Hid (aW rX KM c13 CH):=acX;clear acX;have aG:=qL (HF.an ae);go_wp2_with fail;refine gP rX (HF.an ae) 41 [af (n:Int),.slice KM CH.length c13] 41 [af (n:Int),.slice a5 U.length c5,af (n:Int),.slice vZ CL.length c11] λW14 aG ae ai=>?_;go_wp2_with fail;refine(ahp.out a5 c5 vZ c11 _ (aF mP.out ae.2.2.2.2.2.1.out) _ ae.2.1.out ae.2.2.2.2.2.2.1.out ae.2.2.2.2.1.out).mono ?_;rintro e VN ⟨uH,c16,rfl,Iy,ak⟩;obtain⟨ae,ai⟩:=qX ak ae;have HA:Hid (aW VN uH c16 LO):=Iy;clear Iy;have aG:=qL (HA.an ae);go_wp2_with fail;refine gP VN (HA.an ae) 41 [af (n:Int),.slice uH LO.length c16] 41 [af (n:Int),.slice KM CH.length c13,af (n:Int),.slice a8 M.length d8] λW17 aG ae ai=>?_;go_wp2_with fail;refine(aho.out KM c13 a8 d8 _ (aF mP.out ae.2.2.2.2.2.2.2.2.1.out) _ ae.2.1.out ae.2.2.2.2.2.1.out ae.2.2.2.2.2.2.2.2.2.2.1.out).mono ?_;rintro e rY ⟨CG,c19,rfl,acZ,ak⟩;obtain⟨ae,ai⟩:=qX ak ae;have HZ:Hid (aW rY CG c19 HI):=acZ;clear acZ;obtain⟨W20,ayb,aG,ae,ai⟩:=UZ rY (HZ.an ae) 41 [af (n:Int),.slice CG HI.length c19] 41 [af (n:Int),.slice uH LO.length c16,af (n:Int),.slice CG HI.length c19];have jz:=ownsRow_below Ho.out ae.2.2.2.2.2.2.2.2.2.2.2.1.out;have hs9:=ae.2.2.2.2.2.2.2.2.2.2.2.1.out.size;go_wp2_with (at_builtin;refine wpList_append_own_at _ rfl _ _ 51 rfl w1.heap.size 41 j0 _ 2 32 Tryz.underlying51 Hj.out kR.out jF.out kU.out rfl zd v (2*k) (ps.flatMap ib) rfl jz ⟨rY.heap.size+1,0,none⟩ 2 2 [af (n:Int),.slice uH LO.length c16,af (n:Int),.slice CG HI.length c19] rfl rfl (fM ae.2.1.out) zy zx zo zo ?_;intro v' w22 MA GN _ fD;obtain⟨g',oL,rfl⟩:=ownsRow_succ MA);have yI:∀g,v.ownBlock=some g->∃cur t,W20.heap[g]?=some (.cells cur t)/\t≠111:=λg e=>by obtain⟨cur,t,h1,h2⟩:=vt jz g e;exact⟨cur,t,h1,by rw[h2];decide⟩
     have hq0:=(xO.out.below ae.2.2.2.2.2.2.2.2.2.2.2.1.out).grown GN yI;have hq1:=UW hq0 (show pO n (bx.map aY) ps.length=LO by rw[lM.out];exact dH.out) (ae.2.2.2.2.2.1.out.grown GN yI) Hfl.out;have hq2:=UW hq1 (C:=HI) (by rw[List.length_append,lM.out];exact xD.out) (ae.2.2.1.out.grown GN yI) Hfh.out;have abC:=(aF aP.out ae.2.2.2.2.2.2.2.2.2.2.2.1.out).grown GN zo (λj e=>cE jz j e);have ZU:ps.flatMap ib++[af (n:Int),.slice uH LO.length c16,af (n:Int),.slice CG HI.length c19]=(ps++[(⟨(n:Int),uH,LO.length,c16⟩:Pv)]++[(⟨(n:Int),CG,HI.length,c19⟩:Pv)]).flatMap ib:=by rw[List.flatMap_append,List.flatMap_append,List.append_assoc];rfl
     rw[ZU]at MA;obtain⟨ai2,Hq2,ahv⟩:=bM MA hq2 abC;clear MA hq0 hq1 hq2 abC ZU yI GN fD jz;go_wp2;go_roundw;case rel=>exact⟨k+1,_,_,by omega,by go_num,rfl,by rw[List.length_append,List.length_append,lM.out];rfl,ai2.out,Hq2.out,ahv.out⟩
     case measure=>exact bi
  . obtain rfl:k=n:=by omega
    obtain⟨Tp,ho',Tn,aP⟩:=cG hpo ho hpl (aF bI.out pb);clear ho pb hpo hpl;go_wp2;obtain⟨a',c',e1,h1,h2⟩:=cw ho'.out;subst e1;have hcc:2*k<=c':=by
     rcases ho'.out.2 with⟨h,h0⟩ |⟨g9,YX,Zq,h,_,_,h6,_⟩
     . omega
     . simp only[Value.slice.injEq,true_and]at h;omega
    exact bodyPost_ret (results_tmp rfl _ _ _) rfl ⟨a',c',ps,rfl,hcc,Tn.out,h1,Tp.out,aP.out⟩
def cH (n m:Nat):Nat:=if 0<m then m-1 else n
def gv (n m:Nat):Nat:=if 0<m then m else 2*n
def jh (bx:List (Raw×Raw))(rows:List (List Raw)):Nat->List Trm:=if 0<rows.length then jL (rows.length-1) (cO rows) (rows.length-1)else pO bx.length (bx.map aY)
def Qk (c:Int)(bx:List (Raw×Raw))(rows:List (List Raw))(B:Nat)(w:World)(e:Ending)(w':World):Prop:=
 ∃(la:Option Addr) (k lc:Nat),e=.returned (.tuple #[.slice la k lc,af c])/\(c≠0->k=0)/\(c=0->∃ps,k=gv bx.length rows.length/\k<=lc/\ps.length=k/\At w' la (ps.flatMap ib)/\fE w' (cH bx.length rows.length) (5*B+33) ps (jh bx rows))/\Bw w w'
def QT {n m:Nat}{cb ct:Int}(h:rC n m cb ct=0):(n=0/\0<m/\ct=0)\/(m=0/\1<=n/\n<=6/\cb=0):=by
 unfold rC at h;by_cases h1:(0<n↔0<m)
 . rw[if_pos h1]at h;cases h
 . rw[if_neg h1]at h;by_cases h2:0<m
   . rw[if_pos h2]at h;exact .inl ⟨by omega,h2,h⟩
   . rw[if_neg h2]at h;by_cases h3:6<n
     . rw[if_pos h3]at h;cases h
     . rw[if_neg h3]at h;exact .inr ⟨by omega,by omega,by omega,h⟩
def fE.more {w:World}{V B C:Nat}{ps:List Pv}{Ts:Nat->List Trm}(h:fE w V B ps Ts)(hB:B<=C):fE w V C ps Ts:=λk hk=>by obtain⟨a,c,h1,h2,h3⟩:=h k hk;exact⟨a,c,h1,h2,h3.mono hB⟩
def aee (bx:List (Raw×Raw))(rows:List (List Raw))(n m B:Nat)(a a':Option Addr)(cap cap':Nat)(c:Int)(w:World)(hn:bx.length=n)(hm:rows.length=m)(hb:At w a (bx.flatMap spC))(ha:Tbl w a' rows)(gU:kJ B bx)(iH:∀r∈rows,∀c∈r,Fit B c)(yi:3<=B)(hB:B<=200000)(dK:n<=1000)(kr:m<=5)(hcap:m<=cap')(hT:aB w)
 (hc:rC n m (iL (bx.map aY)) (jb rows)=c):
 Cl 24 #[.agg #[.slice a n cap,.slice a' m cap']] w (Qk c bx rows B w):=by
 have cN:=λW (hW:Bw w W)=>ZA bx rows n m B a a' cap cap' c W hn hm (hb.below hW) (ha.below hW) gU iH zo dK kr hcap (hT.below hW) hc;have fQ:=aj cN;by_cases h0:c=0
 rotate_left
 . have Db:(c==0)=false:=by simpa using h0
   have uR:(c !=0)=true:=by simpa using h0
   clear cN hb ha gU iH hT hn hm hc;have Hb:=hbz w;go_enter Tryz.func24,Tryz.ntmps24;go_wp2_with fail;refine cF w (Hb.an trivial) 27 [.slice a n cap,.slice a' m cap'] λW aG ae ai=>?_;go_wp2_with fail;refine aK ae (fQ.out _ ae.2.1.out) λw1 ae ai=>?_;go_wp2;exact bodyPost_ret (v:=.tuple #[.slice none 0 0,af c]) (by simp[results,Tryz.results24,go_sem]) rfl ⟨none,0,0,rfl,λ_=>rfl,λh=>absurd h h0,ae.2.1.out⟩
 subst h0;rcases QT hc with⟨hn0,hm0,hct⟩ |⟨hm0,dK,wP,hcb⟩
 . obtain⟨q,DI,qA⟩:=afQ (B:=B) zo iH hct;have Ik:m=q+1+1:=by rw[<-hm];exact qA.1
   subst Ik hn0;have hfo:=λW (hW:Bw w W)=>aob a' cap' q rows B W DI qA hcap (ha.below hW) hB (hT.below hW) hct;have hV:cH bx.length rows.length=q+1:=by unfold cH;rw[hm,if_pos hm0];omega
   have hL:gv bx.length rows.length=q+1+1:=by unfold gv;rw[hm,if_pos hm0]
   have hTe:jh bx rows=jL (q+1) (cO rows) (q+1):=by unfold jh;rw[hm,if_pos hm0];rfl
   have tO:=λW=>IZ 0 (q+1+1) a a' cap cap' false true zm zm W;obtain⟨OO,zP,HV,HL,NZ⟩:=eD hfo tO hV hL hTe;clear cN hb ha gU iH hT hn hm hc hfo tO qA hct hV hL hTe;have Hb:=hbz w;go_enter Tryz.func24,Tryz.ntmps24;go_wp2_with fail;refine cF w (Hb.an trivial) 27 [.slice a 0 cap,.slice a' (q+1+1) cap'] λW aG ae ai=>?_;go_wp2_with fail;refine aK ae (fQ.out _ ae.2.1.out) λw1 ae ai=>?_;go_wp2_with fail;refine aK ae (zP.out _) λw2 ae ai=>?_;go_wp2_with fail;refine(OO.out _ ae.2.1.out).mono ?_;rintro e w3 ⟨la,lc,ps,rfl,hlc,hpl,hat,hps,ak⟩;obtain⟨ae,ai⟩:=qX ak ae;go_wp2;exact bodyPost_ret (v:=.tuple #[.slice la (q+1+1) lc,af 0]) (by simp[results,Tryz.results24,go_sem]) rfl ⟨la,_,lc,rfl,λh=>absurd rfl h,λ_=>⟨ps,HL.out.symm,hlc,hpl,hat,by rw[HV.out,NZ.out];exact hps⟩,ae.2.1.out⟩
 . subst hm0;have DK:=λW (hW:Bw w W)=>auZ a n cap B bx W hn dK wP gU yi zo (hb.below hW) (hT.below hW);have hV:cH bx.length rows.length=n:=by unfold cH;rw[hm,hn];rfl
   have hL:gv bx.length rows.length=2*n:=by unfold gv;rw[hm,hn];rfl
   have hTe:jh bx rows=pO n (bx.map aY):=by unfold jh;rw[hm,hn];rfl
   have tO:=λW=>IZ n 0 a a' cap cap' true false zi zm W;obtain⟨Kp,zP,HV,HL,NZ⟩:=eD DK tO hV hL hTe;clear cN hb ha gU iH hT hn hm hc DK tO hcb hV hL hTe;have Hb:=hbz w;go_enter Tryz.func24,Tryz.ntmps24;go_wp2_with fail;refine cF w (Hb.an trivial) 27 [.slice a n cap,.slice a' 0 cap'] λW aG ae ai=>?_;go_wp2_with fail;refine aK ae (fQ.out _ ae.2.1.out) λw1 ae ai=>?_;go_wp2_with fail;refine aK ae (zP.out _) λw2 ae ai=>?_;go_wp2_with fail;refine(Kp.out _ ae.2.1.out).mono ?_;rintro e w3 ⟨la,lc,ps,rfl,hlc,hpl,hat,hps,ak⟩;obtain⟨ae,ai⟩:=qX ak ae;go_wp2;exact bodyPost_ret (v:=.tuple #[.slice la (2*n) lc,af 0]) (by simp[results,Tryz.results24,go_sem]) rfl ⟨la,_,lc,rfl,λh=>absurd rfl h,λ_=>⟨ps,HL.out.symm,hlc,hpl,hat,by rw[HV.out,NZ.out];exact hps.more zo⟩,ae.2.1.out⟩
end Go.Proofs.YtpfgffadgkkedaaGreatDoor
namespace Go.Proofs.YtpfgffadgkkedaaGreatDoor
def below (f:Trm->Nat)(c:Nat)(p:List Trm):Nat:=(p.filter λt=>decide (f t<c)).length
def below_le (f:Trm->Nat)(c:Nat)(p:List Trm):below f c p<=p.length:=List.length_filter_le _ _
def akX {f:Trm->Nat}{p:List Trm}(h:p.Pairwise λx y=>f x<=f y)(c i:Nat)(hi:i<p.length):f p[i]<c↔i<below f c p:=by
 induction p generalizing i with
 |nil=>simp at hi
 | cons x p ih=>
   obtain⟨h1,h2⟩:=List.pairwise_cons.1 h;unfold below;by_cases hx:f x<c
   . rw[List.filter_cons_of_pos (by simpa using hx),List.length_cons];cases i with
     |zero=>simpa using hx
     | succ i=>
       have hi2:i<p.length:=by simpa using hi
       have:=ih h2 i hi2;rw[List.getElem_cons_succ,this];unfold below;omega
   . have e:p.filter (λt=>decide (f t<c))=[]:=by rw[List.filter_eq_nil_iff];intro t ht;have:=h1 t ht;simp;omega
     rw[List.filter_cons_of_neg (by simpa using hx),e];cases i with
     |zero=>simpa using hx
     | succ i=>
       have hi2:i<p.length:=by simpa using hi
       have:=h1 _ (List.getElem_mem hi2);rw[List.getElem_cons_succ];simp;omega
def akY (f:Trm->Nat){c d:Nat}(p:List Trm)(h:c<=d):below f c p<=below f d p:=by
 induction p with
 |nil=>exact Nat.le_refl _
 | cons x p ih=>
   unfold below at ih⊢;rw[List.filter_cons,List.filter_cons];by_cases h1:f x<c
   . rw[if_pos (by simpa using h1),if_pos zi];simp only[List.length_cons];omega
   . rw[if_neg (by simpa using h1)];split
     . simp only[List.length_cons];omega
     . exact ih
def akW {k:Nat}{p:List Trm}(h:p.Pairwise λx y=>fF k x<=fF k y)(c:Nat):dR k c p=(p.drop (below (fF k) c p)).take (below (fF k) (c+1) p-below (fF k) c p):=by
 induction p with
 |nil=>simp[dR]
 | cons x p ih=>
   obtain⟨h1,h2⟩:=List.pairwise_cons.1 h;have ih:=ih h2;unfold dR below at ih⊢;rcases Nat.lt_trichotomy (fF k x) c with hx|hx|hx
   . have e1:(x::p).filter (λt=>fF k t==c)=p.filter (λt=>fF k t==c):=List.filter_cons_of_neg zi;have e2:(x::p).filter (λt=>decide (fF k t<c))=x::p.filter (λt=>decide (fF k t<c)):=List.filter_cons_of_pos (by simpa using hx);have e3:(x::p).filter (λt=>decide (fF k t<c+1))=x::p.filter (λt=>decide (fF k t<c+1)):=List.filter_cons_of_pos zi;rw[e1,e2,e3,ih];simp only[List.length_cons,List.drop_succ_cons,Nat.add_sub_add_right]
   . have e:p.filter (λt=>decide (fF k t<c))=[]:=by rw[List.filter_eq_nil_iff];intro t ht;have:=h1 t ht;simp;omega
     have e1:(x::p).filter (λt=>fF k t==c)=x::p.filter (λt=>fF k t==c):=List.filter_cons_of_pos (by simpa using hx);have e2:(x::p).filter (λt=>decide (fF k t<c))=p.filter (λt=>decide (fF k t<c)):=List.filter_cons_of_neg zi;have e3:(x::p).filter (λt=>decide (fF k t<c+1))=x::p.filter (λt=>decide (fF k t<c+1)):=List.filter_cons_of_pos zi;rw[e1,e2,e3,ih,e];simp only[List.length_cons,List.length_nil,List.drop_zero,Nat.sub_zero,List.take_succ_cons]
   . have e:∀d,d<=c+1->(x::p).filter (fun t=>decide (fF k t<d))=[]:=fun d hd=>by
      rw[List.filter_eq_nil_iff];intro t ht;rcases List.mem_cons.1 ht with rfl|ht
      . simp;omega
      . have:=h1 t ht;simp;omega
     rw[e c zo,e (c+1) zo];simp only[List.length_nil,Nat.sub_zero,List.drop_zero,List.take_zero];rw[List.filter_eq_nil_iff];intro t ht;rcases List.mem_cons.1 ht with rfl|ht
     . simp;omega
     . have:=h1 t ht;simp;omega
def ak3 {a b:List UInt8}(h:Op.bytesLess a b=true)(k:Nat)(hs:∀j,j<k->a.getD j 0=b.getD j 0)(hl:a.length=b.length):(a.getD k 0).toNat<=(b.getD k 0).toNat:=by
 induction a generalizing b k with
 | nil=>
   cases b with
   |nil=>exact Nat.le_refl _
   |cons y b=>simp at hl
 | cons x a ih=>
   cases b with
   |nil=>simp at hl
   | cons y b=>
     have h':=h;simp only[Op.bytesLess,Bool.or_eq_true,Bool.and_eq_true,decide_eq_true_eq,beq_iff_eq]at h';cases k with
     | zero=>
       rcases h' with h1|⟨h1,_⟩
       . have:=UInt8.lt_iff_toNat_lt.1 h1;simp;omega
       . simp[h1]
     | succ k=>
       have h0:=hs 0 zo;simp only[List.getD_cons_zero]at h0;subst h0;rcases h' with h1|⟨_,h1⟩
       . exact absurd (UInt8.lt_iff_toNat_lt.1 h1) zo
       . have:=ih h1 k (λj hj=>by have:=hs (j+1) zo;simpa using this) (by simpa using hl);simpa using this
def anR {p:List Trm}{k L:Nat}(hu:Up p)(hl:∀t∈p,t.1.length=L)(hs:∀t∈p,∀u∈p,∀j,j<k->t.1.getD j 0=u.1.getD j 0):p.Pairwise λx y=>fF k x<=fF k y:=
 List.Pairwise.imp_of_mem (λ{x y} hx hy h=>ak3 h k (hs x hx y hy) (by rw[hl x hx,hl y hy])) hu
end Go.Proofs.YtpfgffadgkkedaaGreatDoor
