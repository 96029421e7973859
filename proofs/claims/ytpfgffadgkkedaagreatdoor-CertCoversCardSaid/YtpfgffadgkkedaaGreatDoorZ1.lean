/- Plain facts on numbers written in digits to the base 2^64 and on bytes,the highest first. No program here. -/
set_option linter.all false
set_option maxRecDepth 100000
set_option maxHeartbeats 16000000
namespace Go.Proofs.YtpfgffadgkkedaaGreatDoor
def WW :Nat:=18446744073709551616
def jr :WW=18446744073709551616:=rfl
def jH :0<WW:=by decide
def lS :WW=2^64:=by decide
def dX (k:Nat):0<WW^k:=Nat.pow_pos jH
def ln (v:Nat):Nat:=if v=0 then 0 else Nat.log2 v/64+1
def lT (k:Nat):WW^k=2^(64*k):=by rw[lS,<-Nat.pow_mul]
def eU (v:Nat):v<WW^ln v:=by
 unfold ln;split
 . subst v;simp
 . rename_i h
   rw[lT];refine Nat.lt_of_lt_of_le (Nat.lt_log2_self (n:=v)) (Nat.pow_le_pow_right (by decide) ?_);omega
def ji {v n:Nat}(h:v<WW^n):ln v<=n:=by
 unfold ln;split
 . omega
 . rename_i h0
   rw[lT]at h;have:=(Nat.log2_lt h0).2 h;omega
def aeg {v n:Nat}(h:v<WW^(n+1))(h':WW^n<=v):ln v=n+1:=by
 have h1:=ji h;have h2:¬ln v<=n:=λhle=>by have:=eU v;have:=Nat.pow_le_pow_right jH hle;omega
 omega
def Uj :ln 0=0:=rfl
def MW {v:Nat}(h:0<v):0<ln v:=by unfold ln;split<;>omega
def dg (v j:Nat):Nat:=v/WW^j%WW
def jK (v j:Nat):dg v j<WW:=Nat.mod_lt _ jH
def avM {v k:Nat}(h:v<WW^(k+1))(h0:dg v k=0):v<WW^k:=by
 unfold dg at h0;have h1:v/WW^k<WW:=by rw[Nat.div_lt_iff_lt_mul (dX k)];rw[Nat.pow_succ]at h;rwa [Nat.mul_comm]at h
 rw[Nat.mod_eq_of_lt h1]at h0;rcases Nat.lt_or_ge v (WW^k)with h2|h2
 . exact h2
 . have:=Nat.div_pos h2 (dX k);omega
def afT {v k:Nat}(h0:dg v k≠0):WW^k<=v:=by
 rcases Nat.lt_or_ge v (WW^k)with h2|h2
 . exact absurd (by unfold dg;rw[Nat.div_eq_of_lt h2];simp) h0
 . exact h2
def uM {v k j:Nat}(h:v<WW^k)(hj:k<=j):dg v j=0:=by unfold dg;rw[Nat.div_eq_of_lt (Nat.lt_of_lt_of_le h (Nat.pow_le_pow_right jH hj))];simp
def BB (v i:Nat):v%WW^(i+1)=v%WW^i+WW^i*dg v i:=by unfold dg;rw[Nat.pow_succ,Nat.mod_mul]
def ZI {v n j:Nat}(h:j<n):dg (v%WW^n) j=dg v j:=by unfold dg;obtain⟨d,rfl⟩:∃d,n=j+1+d:=⟨n-(j+1),by omega⟩;rw[Nat.pow_add,Nat.mod_mul,Nat.pow_succ,Nat.mod_mul];rw[show v%WW^j+WW^j* (v/WW^j%WW)+WW^j*WW* (v/(WW^j*WW)%WW^d)=v%WW^j+WW^j* ((v/WW^j%WW)+WW* (v/(WW^j*WW)%WW^d))by rw[Nat.mul_add,Nat.mul_assoc,Nat.add_assoc]];rw[Nat.add_mul_div_left _ _ (dX j),Nat.div_eq_of_lt (Nat.mod_lt _ (dX j)),Nat.zero_add,Nat.add_mul_mod_self_left,Nat.mod_mod]
def cy (v u m i:Nat):Nat:=(v%WW^i+u%WW^i*m)/WW^i
def Zv (v u m:Nat):cy v u m 0=0:=by simp[cy,Nat.mod_one]
def amw (v u m i:Nat)(hm:m<WW):cy v u m i<WW:=by
 unfold cy;rw[Nat.div_lt_iff_lt_mul (dX i)];have h1:=Nat.mod_lt v (dX i);have h2:=Nat.mod_lt u (dX i);generalize v%WW^i=a at*;generalize u%WW^i=b at*;generalize WW^i=M at*;have h3:b*m<=b* (WW-1):=Nat.mul_le_mul_left _ (by omega);have h4:b* (WW-1)<=(M-1) * (WW-1):=Nat.mul_le_mul_right _ (by omega);have h5:(M-1) * (WW-1)+(M-1)=(M-1) *WW:=by
  have:WW=(WW-1)+1:=by have:=jH;omega
  rw(occs:=.pos [2]) [this];rw[Nat.mul_add,Nat.mul_one]
 have h6:(M-1) *WW<=M*WW:=Nat.mul_le_mul_right _ (by omega);have h7:(M-1) *WW+WW=M*WW:=by
  have:M=(M-1)+1:=by omega
  rw(occs:=.pos [2]) [this];rw[Nat.add_mul,Nat.one_mul]
 have:=jH;rw[Nat.mul_comm WW M];omega
def Zu (v u m i:Nat):(dg v i+dg u i*m+cy v u m i)%WW=dg (v+u*m) i/\(dg v i+dg u i*m+cy v u m i)/WW=cy v u m (i+1):=by
 have hM:=dX i;have e1:v=v%WW^i+WW^i* (v/WW^i):=(Nat.mod_add_div v _).symm;have e2:u=u%WW^i+WW^i* (u/WW^i):=(Nat.mod_add_div u _).symm;constructor
 . unfold dg cy;have e3:(v+u*m)/WW^i=v/WW^i+u/WW^i*m+(v%WW^i+u%WW^i*m)/WW^i:=by
    conv=>lhs;rw[e1,e2]
    rw[show v%WW^i+WW^i* (v/WW^i)+(u%WW^i+WW^i* (u/WW^i)) *m=(v%WW^i+u%WW^i*m)+WW^i* (v/WW^i+u/WW^i*m)by rw[Nat.add_mul,Nat.mul_add,Nat.mul_assoc];omega]
    rw[Nat.add_mul_div_left _ _ hM];omega
   rw[e3,Nat.add_mod,Nat.add_mod (v/WW^i+u/WW^i*m),Nat.add_mod (v/WW^i%WW),Nat.add_mod (v/WW^i),Nat.mod_mod,Nat.mul_mod (u/WW^i%WW),Nat.mod_mod,<-Nat.mul_mod]
 . unfold cy;rw[BB v,BB u,Nat.pow_succ]
   rw[show v%WW^i+WW^i*dg v i+(u%WW^i+WW^i*dg u i) *m=(v%WW^i+u%WW^i*m)+WW^i* (dg v i+dg u i*m)by rw[Nat.add_mul,Nat.mul_add,Nat.mul_assoc];omega]
   rw[<-Nat.div_div_eq_div_mul,Nat.add_mul_div_left _ _ hM,Nat.add_comm]
def bw (v u i:Nat):Nat:=if v%WW^i<u%WW^i then 1 else 0
def alu (v u:Nat):bw v u 0=0:=by simp[bw,Nat.mod_one]
def YT (v u i:Nat):bw v u i<=1:=by unfold bw;split<;>omega
def als (v u i:Nat):bw v u (i+1)=if dg v i<dg u i+bw v u i then 1 else 0:=by
 have h1:=Nat.mod_lt v (dX i);have h2:=Nat.mod_lt u (dX i);unfold bw;rw[BB v,BB u];generalize dg v i=a;generalize dg u i=b;generalize v%WW^i=r at*;generalize u%WW^i=s at*;generalize WW^i=M at*;have key:(r+M*a<s+M*b)↔(a<b+if r<s then 1 else 0):=by
  rcases Nat.lt_trichotomy a b with h|h|h
  . have:M* (a+1)<=M*b:=Nat.mul_le_mul_left _ h;rw[Nat.mul_add]at this;constructor
    . intro _;split<;>omega
    . intro _;omega
  . subst h;split<;>omega
  . have:M* (b+1)<=M*a:=Nat.mul_le_mul_left _ h;rw[Nat.mul_add]at this;constructor
    . intro _;omega
    . intro h';exfalso;revert h';split<;>omega
 simp only[key]
def alr (v u i:Nat)(hu:u<=v):(dg v i+WW-dg u i-bw v u i)%WW=dg (v-u) i:=by
 -- the digit of the difference
 have h1:=Nat.mod_lt v (dX i);have h2:=Nat.mod_lt u (dX i);have hM:=dX i;have hb:=YT v u i;have du:=jK u i;have e1:v=v%WW^i+WW^i* (v/WW^i):=(Nat.mod_add_div v _).symm;have e2:u=u%WW^i+WW^i* (u/WW^i):=(Nat.mod_add_div u _).symm;have e3:(v-u)/WW^i+bw v u i+u/WW^i=v/WW^i:=by
  unfold bw;generalize v%WW^i=r at*;generalize u%WW^i=s at*;generalize v/WW^i=x at*;generalize u/WW^i=y at*;generalize WW^i=M at*;have hxy:y<=x:=by
   rcases Nat.lt_or_ge x y with h|h
   . have:M* (x+1)<=M*y:=Nat.mul_le_mul_left _ h;rw[Nat.mul_add]at this;omega
   . exact h
  obtain⟨d,rfl⟩:∃d,x=y+d:=⟨x-y,by omega⟩;split
  . rename_i hrs
    have hd:1<=d:=by
     rcases Nat.eq_zero_or_pos d with h|h
     . subst h;simp at e1;omega
     . exact h
    obtain⟨d',rfl⟩:∃d',d=d'+1:=⟨d-1,by omega⟩;have:v-u=(M+r-s)+M*d':=by rw[Nat.mul_add,Nat.mul_add]at e1;omega
    rw[this,Nat.add_mul_div_left _ _ hM,Nat.div_eq_of_lt (by omega)];omega
  . have:v-u=(r-s)+M*d:=by rw[Nat.mul_add]at e1;omega
    rw[this,Nat.add_mul_div_left _ _ hM,Nat.div_eq_of_lt (by omega)];omega
 unfold dg at*;generalize (v-u)/WW^i=q at*;rw[<-e3];generalize bw v u i=c at*;generalize u/WW^i=y at*;have hW:=jH
 -- (q + c + y) % W + W - y % W - c ≡ q
 have e4:((q+c+y)%WW+WW-y%WW-c)%WW=q%WW:=by
  have a1:y=y%WW+WW* (y/WW):=(Nat.mod_add_div y _).symm;have a2:(q+c+y)%WW=(q+c+y%WW)%WW:=by rw[Nat.add_mod,Nat.add_mod (q+c) (y%WW),Nat.mod_mod]
  rw[a2];generalize y%WW=z at*;have a3:q=q%WW+WW* (q/WW):=(Nat.mod_add_div q _).symm;have a4:(q+c+z)%WW=(q%WW+c+z)%WW:=by conv=>lhs;rw[a3,show q%WW+WW* (q/WW)+c+z=(q%WW+c+z)+WW* (q/WW)by omega,Nat.add_mul_mod_self_left]
  rw[a4];have hq:=Nat.mod_lt q hW;generalize q%WW=p at*;rcases Nat.lt_or_ge (p+c+z) WW with h|h
  . rw[Nat.mod_eq_of_lt h,show p+c+z+WW-z-c=p+WW by omega,Nat.add_mod_right,Nat.mod_eq_of_lt hq]
  . rcases Nat.lt_or_ge (p+c+z) (2*WW)with h'|h'
    . have:(p+c+z)%WW=p+c+z-WW:=by rw[Nat.mod_eq_sub_mod h,Nat.mod_eq_of_lt (by omega)]
      rw[this,show p+c+z-WW+WW-z-c=p by omega,Nat.mod_eq_of_lt hq]
    . exfalso;omega
 exact e4
def Eg :Nat->List UInt8->Nat
 |a,[]=>a
 |a,c::l=>Eg (a*256+c.toNat) l
def nv (l:List UInt8):Nat:=Eg 0 l
def asJ (a:Nat)(l:List UInt8):Eg a l=a*256^l.length+nv l:=by
 unfold nv;induction l generalizing a with
 |nil=>simp[Eg]
 |cons c l ih=>simp only[Eg,List.length_cons];rw[ih,ih (0*256+c.toNat),Nat.pow_succ,Nat.add_mul,Nat.zero_mul,Nat.zero_add,<-Nat.add_assoc,Nat.mul_assoc,Nat.mul_comm 256]
def yU :nv []=0:=rfl
def vq (c:UInt8)(l:List UInt8):nv (c::l)=c.toNat*256^l.length+nv l:=by
 show Eg (0*256+c.toNat) l=_
 rw[asJ];simp
def Ng (a b:List UInt8):nv (a++b)=nv a*256^b.length+nv b:=by
 induction a with
 |nil=>simp[yU]
 |cons c a ih=>rw[List.cons_append,vq,vq,ih,List.length_append,Nat.pow_add,Nat.add_mul,Nat.add_assoc,Nat.mul_assoc]
def ia (l:List UInt8):nv l<256^l.length:=by
 induction l with
 |nil=>simp[yU]
 | cons c l ih=>
   rw[vq,List.length_cons,Nat.pow_succ];have hc:c.toNat<=255:=by have:=c.toNat_lt;omega
   have:=Nat.mul_le_mul_right (256^l.length) hc;omega
def yT :Nat->Nat->List UInt8
 |0,_=>[]
 |f+1,n=>if n=0 then[]else yT f (n/256)++[UInt8.ofNat (n%256)]
def nt (n:Nat):List UInt8:=yT n n
def asF (f g n:Nat)(hf:n<=f)(hg:n<=g):yT f n=yT g n:=by
 induction f generalizing g n with
 | zero => obtain rfl:n=0:=by omega
           cases g<;>simp[yT]
 | succ f ih=>
   cases g with
   | zero => obtain rfl:n=0:=by omega
             simp[yT]
   | succ g=>
     simp only[yT];split
     . rfl
     . rw[ih g (n/256) (by omega) (by omega)]
def BJ :nt 0=[]:=rfl
def Jf {n:Nat}(h:0<n):nt n=nt (n/256)++[UInt8.ofNat (n%256)]:=by unfold nt;obtain⟨m,rfl⟩:∃m,n=m+1:=⟨n-1,by omega⟩;rw[yT,if_neg (by omega),asF m ((m+1)/256) _ (by omega) (by omega)]
def Ld (n:Nat):(UInt8.ofNat (n%256)).toNat=n%256:=by simp[UInt8.toNat_ofNat']
def jl (n:Nat):nv (nt n)=n:=by
 induction n using Nat.strongRecOn with
 | _ n ih=>
   rcases Nat.eq_zero_or_pos n with h|h
   . subst h;rfl
   . rw[Jf h,Ng,ih (n/256) (by omega),vq,Ld];simp[yU];omega
def Nf {n:Nat}(h:0<n):nt n≠[]:=by rw[Jf h];simp
def auj {α:Type}{P:List α->Prop}(h0:P [])(h1:∀l c,P l->P (l++[c]))(l:List α):P l:=by
 have:∀m:List α,P m.reverse:=by
  intro m;induction m with
  |nil=>exact h0
  |cons a m ih=>rw[List.reverse_cons];exact h1 _ _ ih
 have:=this l.reverse;rwa [List.reverse_reverse]at this
def aeN (l:List UInt8)(h:∀c,l.head?=some c->c≠0):nt (nv l)=l:=by
 revert h;refine auj (P:=λl=>(∀c,l.head?=some c->c≠0)->nt (nv l)=l) ?_ ?_ l
 . intro _;rfl
 . intro l c ih h;have hv:nv (l++[c])=nv l*256+c.toNat:=by rw[Ng,vq];simp[yU]
   have hc:=c.toNat_lt;have hl:∀a,l.head?=some a->a≠0:=by
    intro a ha;apply h;cases l with
    |nil=>simp at ha
    |cons x y=>simpa using ha
   have hpos:0<nv (l++[c]):=by
    rw[hv];cases l with
    |nil=>have:=h c (by simp);have:c.toNat≠0:=λh0=>this (UInt8.toNat_inj.1 (by simpa using h0));omega
    |cons x y=>have hx:=h x (by simp);have:x.toNat≠0:=λh0=>hx (UInt8.toNat_inj.1 (by simpa using h0));have h1:1*256^y.length<=x.toNat*256^y.length:=Nat.mul_le_mul_right _ (by omega);have h2:0<256^y.length:=Nat.pow_pos (by decide);rw[vq];omega
   rw[Jf hpos,hv,show(nv l*256+c.toNat)/256=nv l by omega,show(nv l*256+c.toNat)%256=c.toNat by omega,ih hl];simp
def kC {n k:Nat}(h:n<256^k):(nt n).length<=k:=by
 induction k generalizing n with
 | zero => obtain rfl:n=0:=by simpa using h
           simp[BJ]
 | succ k ih=>
   rcases Nat.eq_zero_or_pos n with h0|h0
   . subst h0;simp[BJ]
   . rw[Jf h0,List.length_append,List.length_singleton];have:=ih (n:=n/256) (by rw[Nat.div_lt_iff_lt_mul (by decide)];rwa [Nat.pow_succ]at h);omega
def arC (n:Nat):n<256^(nt n).length:=by have:=ia (nt n);rwa [jl]at this
def Ux (n:Nat):nt n=[]↔n=0:=by
 constructor
 . intro h;rcases Nat.eq_zero_or_pos n with h0|h0
   . exact h0
   . exact absurd h (Nf h0)
 . intro h;subst h;rfl
def asM (l:List UInt8)(k:Nat)(hk:k<l.length):
 nv (l.drop (l.length-1-k))=nv (l.drop (l.length-k))+l[l.length-1-k].toNat*256^k:=by
 rw[List.drop_eq_getElem_cons (show l.length-1-k<l.length by omega),vq,Nat.add_comm];rw[show l.length-1-k+1=l.length-k by omega,List.length_drop,show l.length-(l.length-k)=k by omega]
def Lm (V D q j:Nat)(h:V/WW^q+D<WW):dg (V+D*WW^q) j=if j=q then dg V q+D else dg V j:=by
 have hW:=jH;have e:(V+D*WW^q)/WW^q=V/WW^q+D:=by rw[Nat.mul_comm,Nat.add_mul_div_left _ _ (dX q)]
 rcases Nat.lt_trichotomy j q with hj|hj|hj
 . rw[if_neg (by omega)];obtain⟨d,rfl⟩:∃d,q=j+1+d:=⟨q-j-1,by omega⟩;unfold dg;rw[show D*WW^(j+1+d)=WW^j* (WW* (D*WW^d))by rw[Nat.pow_add,Nat.pow_succ];simp only[Nat.mul_comm,Nat.mul_left_comm,Nat.mul_assoc]];rw[Nat.add_mul_div_left _ _ (dX j),Nat.add_mul_mod_self_left]
 . subst hj;rw[if_pos rfl];unfold dg;rw[e,Nat.mod_eq_of_lt h,Nat.mod_eq_of_lt (by omega)]
 . rw[if_neg (by omega)];have h1:V+D*WW^q<WW^(q+1):=by rw[Nat.pow_succ,Nat.mul_comm (WW^q)];exact(Nat.div_lt_iff_lt_mul (dX q)).1 (by rw[e];exact h)
   have h2:V<WW^(q+1):=by omega
   rw[uM h1 (by omega),uM h2 (by omega)]
def as3 {X C i:Nat}(h:X<2^i):X|||C*2^i=X+C*2^i:=by rw[Nat.mul_comm C,Nat.or_comm,<-Nat.two_pow_add_eq_or_of_lt h,Nat.add_comm]
def UX (k:Nat):256^k=WW^(k/8) *2^(k%8*8):=by rw[lT,<-Nat.pow_add,show(256:Nat)=2^8 by rfl,<-Nat.pow_mul];congr 1;omega
def aly (V C k:Nat)(hV:V<256^k)(hC:C<256):
 dg V (k/8)<2^(k%8*8)/\C*2^(k%8*8)<WW/\∀j,dg (V+C*256^k) j=if j=k/8 then dg V (k/8)+C*2^(k%8*8)else dg V j:=by
 have h1:V/WW^(k/8)<2^(k%8*8):=by rw[UX]at hV;rw[Nat.div_lt_iff_lt_mul (dX _),Nat.mul_comm];exact hV
 have h2:2^(k%8*8) *256<=WW:=by rw[show(256:Nat)=2^8 by rfl,<-Nat.pow_add,lS];exact Nat.pow_le_pow_right (by decide) (by omega)
 have h3:C*2^(k%8*8)+2^(k%8*8)<=2^(k%8*8) *256:=by have:2^(k%8*8) * (C+1)<=2^(k%8*8) *256:=Nat.mul_le_mul_left _ (by omega);rw[Nat.mul_add,Nat.mul_comm]at this;omega
 have h4:dg V (k/8)=V/WW^(k/8):=by unfold dg;exact Nat.mod_eq_of_lt (by omega)
 refine⟨by rw[h4];exact h1,by have:=Nat.pow_pos (n:=k%8*8) (show 0<2 by decide);omega,λj=>?_⟩;rw[UX,Nat.mul_comm (WW^(k/8)),<-Nat.mul_assoc];exact Lm V _ (k/8) j (by omega)
def amT (u r i:Nat)(hr:r<64):dg (u/2^r) i=dg u i/2^r+dg u (i+1) *2^(64-r)%WW:=by
 unfold dg;have Tq:2^r*2^(64-r)=WW:=by rw[<-Nat.pow_add,lS];congr 1;omega
 have hp:=Nat.pow_pos (n:=r) (show 0<2 by decide);have hq:=Nat.pow_pos (n:=64-r) (show 0<2 by decide);rw[Nat.div_div_eq_div_mul,Nat.mul_comm (2^r),<-Nat.div_div_eq_div_mul,Nat.pow_succ,<-Nat.div_div_eq_div_mul];generalize u/WW^i=x;rw[show x/WW%WW*2^(64-r)%WW=(x/WW) *2^(64-r)%WW by rw[Nat.mul_mod,Nat.mod_mod,<-Nat.mul_mod]];have e:x=x%WW+WW* (x/WW):=(Nat.mod_add_div x WW).symm;have hx:=Nat.mod_lt x jH;generalize x%WW=a at*;generalize x/WW=y at*;subst e;rw[<-Tq]at hx⊢;generalize 2^r=p at*;generalize 2^(64-r)=q at*;rw[Nat.mul_assoc,Nat.add_mul_div_left _ _ hp];have ha:a/p<q:=by rw[Nat.div_lt_iff_lt_mul hp,Nat.mul_comm];exact hx
 -- (a/p + q*y) % (p*q) = a/p + (y*q) % (p*q)
 rw[Nat.mul_comm p q,Nat.mod_mul,Nat.add_mul_mod_self_left,Nat.mod_eq_of_lt ha,Nat.add_mul_div_left _ _ hq,Nat.div_eq_of_lt ha,Nat.zero_add];rw[Nat.mul_comm y q,Nat.mod_mul,Nat.mul_mod_right,Nat.mul_div_cancel_left _ hq,Nat.zero_add]
def aga (d r:Nat)(hd:d<WW)(hr:r<64):∃c,d*2^r%WW=c*2^r/\d*2^r/WW=d/2^(64-r)/\d/2^(64-r)<2^r/\c*2^r+2^r<=WW/\d*2^r=c*2^r+WW* (d/2^(64-r)):=by
 have Tq:2^(64-r) *2^r=WW:=by rw[<-Nat.pow_add,lS];congr 1;omega
 have hp:=Nat.pow_pos (n:=r) (show 0<2 by decide);have hq:=Nat.pow_pos (n:=64-r) (show 0<2 by decide);rw[<-Tq]at hd⊢;generalize 2^r=p at*;generalize 2^(64-r)=q at*;refine⟨d%q,?_,?_,?_,?_,?_⟩
 . rw[Nat.mul_mod_mul_right]
 . rw[Nat.mul_div_mul_right _ _ hp]
 . rw[Nat.div_lt_iff_lt_mul hq,Nat.mul_comm];exact hd
 . have:=Nat.mod_lt d hq;have:(d%q+1) *p<=q*p:=Nat.mul_le_mul_right _ this;rw[Nat.add_mul]at this;omega
 . have e:=(Nat.mod_add_div d q).symm;conv=>lhs;rw[e]
   rw[Nat.add_mul,Nat.mul_assoc,Nat.mul_assoc,Nat.mul_comm (d/q)]
def av6 (v n i:Nat):∃c,c*2^(n%64)=dg v i*2^(n%64)%WW/\dg (v%WW^i*2^n) (i+n/64)<2^(n%64)/\c*2^(n%64)+2^(n%64)<=WW/\
 dg (v%WW^i*2^n) (i+n/64+1)=0/\dg v i/2^(64-n%64)<WW/\
 ∀j,dg (v%WW^(i+1) *2^n) j=if j=i+n/64+1 then dg v i/2^(64-n%64)else if j=i+n/64 then dg (v%WW^i*2^n) (i+n/64)+c*2^(n%64)else dg (v%WW^i*2^n) j:=by
 have hr:n%64<64:=Nat.mod_lt _ (by decide);obtain⟨c,h1,h2,h3,h4,h5⟩:=aga (dg v i) (n%64) (jK v i) hr;have hn:2^n=2^(n%64) *WW^(n/64):=by rw[lT,<-Nat.pow_add];congr 1;omega
 have hv:=Nat.mod_lt v (dX i);have hp:=Nat.pow_pos (n:=n%64) (show 0<2 by decide);have hpW:2^(n%64)<=WW:=by rw[lS];exact Nat.pow_le_pow_right (by decide) (by omega)
 refine⟨c,h1.symm,?_⟩;have eA:v%WW^(i+1) *2^n=v%WW^i*2^n+c*2^(n%64) *WW^(i+n/64)+dg v i/2^(64-n%64) *WW^(i+n/64+1):=by
  have h6:dg v i*2^(n%64) *WW^(i+n/64)=(c*2^(n%64)+WW* (dg v i/2^(64-n%64))) *WW^(i+n/64):=by rw[h5]
  rw[BB,hn];rw[Nat.pow_succ WW (i+n/64)];rw[Nat.add_mul]at h6;rw[Nat.add_mul,Nat.add_assoc];congr 1;rw[Nat.pow_add WW i]at*;have e1:WW^i*dg v i* (2^(n%64) *WW^(n/64))=dg v i*2^(n%64) * (WW^i*WW^(n/64)):=by simp only[Nat.mul_comm,Nat.mul_left_comm,Nat.mul_assoc]
  rw[e1,h6];congr 1;simp only[Nat.mul_comm,Nat.mul_left_comm,Nat.mul_assoc]
 have aoZ:v%WW^i*2^n/WW^(i+n/64)<2^(n%64):=by rw[Nat.div_lt_iff_lt_mul (dX _),hn,Nat.pow_add,<-Nat.mul_assoc,<-Nat.mul_assoc,Nat.mul_comm (2^(n%64))];exact Nat.mul_lt_mul_of_pos_right (Nat.mul_lt_mul_of_pos_right hv hp) (dX _)
 have apw:dg (v%WW^i*2^n) (i+n/64)=v%WW^i*2^n/WW^(i+n/64):=by unfold dg;exact Nat.mod_eq_of_lt (by omega)
 have hVW:v%WW^i*2^n<WW^(i+n/64+1):=by rw[Nat.pow_succ,Nat.mul_comm (WW^_)];exact(Nat.div_lt_iff_lt_mul (dX _)).1 (by omega)
 have hd1:dg (v%WW^i*2^n) (i+n/64+1)=0:=uM hVW (Nat.le_refl _);have hhi:dg v i/2^(64-n%64)<WW:=by omega
 refine⟨by rw[apw];exact aoZ,h4,hd1,hhi,λj=>?_⟩;have hV2:v%WW^i*2^n+c*2^(n%64) *WW^(i+n/64)<WW^(i+n/64+1):=by rw[Nat.pow_succ,Nat.mul_comm (WW^(i+n/64)) WW];refine(Nat.div_lt_iff_lt_mul (dX _)).1 ?_;rw[Nat.mul_comm (c*2^(n%64)),Nat.add_mul_div_left _ _ (dX _)];omega
 rw[eA,Lm _ _ (i+n/64+1) j (by rw[Nat.div_eq_of_lt hV2];omega)];rw[Lm _ (c*2^(n%64)) (i+n/64) _ (by omega),Lm _ (c*2^(n%64)) (i+n/64) _ (by omega)];by_cases hj:j=i+n/64+1
 . rw[if_pos hj,if_pos hj,if_neg (by omega),hd1,Nat.zero_add]
 . rw[if_neg hj,if_neg hj]
def dJ (n:Nat)(f:Nat->Nat->Dyadic):Dyadic:=match n with
 |0=>1
 |1=>f 0 0
 |2=>f 0 0*f 1 1-f 0 1*f 1 0
 |3=>f 0 0* (f 1 1*f 2 2-f 1 2*f 2 1)-f 0 1* (f 1 0*f 2 2-f 1 2*f 2 0)+f 0 2* (f 1 0*f 2 1-f 1 1*f 2 0)
 | 4=>f 0 0* (f 1 1* (f 2 2*f 3 3-f 2 3*f 3 2)-f 1 2* (f 2 1*f 3 3-f 2 3*f 3 1)+f 1 3* (f 2 1*f 3 2-f 2 2*f 3 1))
   -f 0 1* (f 1 0* (f 2 2*f 3 3-f 2 3*f 3 2)-f 1 2* (f 2 0*f 3 3-f 2 3*f 3 0)+f 1 3* (f 2 0*f 3 2-f 2 2*f 3 0))
   +f 0 2* (f 1 0* (f 2 1*f 3 3-f 2 3*f 3 1)-f 1 1* (f 2 0*f 3 3-f 2 3*f 3 0)+f 1 3* (f 2 0*f 3 1-f 2 1*f 3 0))
   -f 0 3* (f 1 0* (f 2 1*f 3 2-f 2 2*f 3 1)-f 1 1* (f 2 0*f 3 2-f 2 2*f 3 0)+f 1 2* (f 2 0*f 3 1-f 2 1*f 3 0))
 |_=>0
def bL (n:Nat)(p:Nat->Nat->Dyadic):Dyadic:=dJ n λa b=>p (a+1) b-p 0 b
def CX (n:Nat)(p:Nat->Nat->Dyadic):bL n p=dJ n λa b=>p (a+1) b-p 0 b:=rfl
def bK (p:Nat->Nat->Dyadic)(v:Nat)(x:Nat->Dyadic):Nat->Nat->Dyadic:=λa b=>if a=v then x b else p a b
def yR (p:Nat->Nat->Dyadic)(h:Dyadic)(i j v:Nat):Nat->Nat->Dyadic:=λa b=>if a=v then(p i b+p j b) *h else p a b
def Uq (p:Nat->Nat->Dyadic)(h:Dyadic)(i j v:Nat):yR p h i j v=bK p v λb=>(p i b+p j b) *h:=rfl
def zw (p:Nat->Nat->Dyadic)(v:Nat):bK p v (p v)=p:=by
 funext a b;unfold bK;split
 . rename_i h;rw[h]
 . rfl
def Jz (p:Nat->Nat->Dyadic)(i j:Nat)(x y:Nat->Dyadic)(h:i≠j):bK (bK p i x) j y=bK (bK p j y) i x:=by
 funext a b;unfold bK
 by_cases h1:a=j
 . rw[if_pos h1,if_neg (by omega),if_pos h1]
 . rw[if_neg h1];by_cases h2:a=i
   . rw[if_pos h2,if_pos h2]
   . rw[if_neg h2,if_neg h2,if_neg h1]
def av3 (p:Nat->Nat->Dyadic)(i:Nat)(x y:Nat->Dyadic):bK (bK p i x) i y=bK p i y:=by
 funext a b;unfold bK
 by_cases h1:a=i
 . rw[if_pos h1,if_pos h1]
 . rw[if_neg h1,if_neg h1,if_neg h1]
def av2 (p:Nat->Nat->Dyadic)(i k:Nat)(x:Nat->Dyadic)(h:k≠i):bK p i x k=p k:=by funext b;unfold bK;rw[if_neg h]
def anj (p:Nat->Nat->Dyadic)(h:Dyadic)(hh:h+h=1)(v:Nat)(hv:v<=1)(x y:Nat->Dyadic):bL 1 (bK p v λb=>(x b+y b) *h)=(bL 1 (bK p v x)+bL 1 (bK p v y)) *h:=by
 have hc:v=0\/v=1:=by omega
 rcases hc with rfl|rfl<;>(simp[bL,dJ,bK];grind)
def ank (p:Nat->Nat->Dyadic)(h:Dyadic)(hh:h+h=1)(v:Nat)(hv:v<=2)(x y:Nat->Dyadic):bL 2 (bK p v λb=>(x b+y b) *h)=(bL 2 (bK p v x)+bL 2 (bK p v y)) *h:=by
 have hc:v=0\/v=1\/v=2:=by omega
 rcases hc with rfl|rfl|rfl<;>(simp[bL,dJ,bK];grind)
def anl (p:Nat->Nat->Dyadic)(h:Dyadic)(hh:h+h=1)(v:Nat)(hv:v<=3)(x y:Nat->Dyadic):bL 3 (bK p v λb=>(x b+y b) *h)=(bL 3 (bK p v x)+bL 3 (bK p v y)) *h:=by
 have hc:v=0\/v=1\/v=2\/v=3:=by omega
 rcases hc with rfl|rfl|rfl|rfl<;>(simp[bL,dJ,bK];grind)
def anm (p:Nat->Nat->Dyadic)(h:Dyadic)(hh:h+h=1)(v:Nat)(hv:v<=4)(x y:Nat->Dyadic):bL 4 (bK p v λb=>(x b+y b) *h)=(bL 4 (bK p v x)+bL 4 (bK p v y)) *h:=by
 have hc:v=0\/v=1\/v=2\/v=3\/v=4:=by omega
 rcases hc with rfl|rfl|rfl|rfl|rfl<;>(simp[bL,dJ,bK];grind)
def ann (p:Nat->Nat->Dyadic)(i j:Nat)(hij:i<j)(hj:j<=1)(x y:Nat->Dyadic):bL 1 (bK (bK p i x) j y)= -bL 1 (bK (bK p i y) j x):=by
 have hc:(i=0/\j=1):=by omega
 rcases hc with⟨rfl,rfl⟩<;>(simp[bL,dJ,bK];grind)
def ano (p:Nat->Nat->Dyadic)(i j:Nat)(hij:i<j)(hj:j<=2)(x y:Nat->Dyadic):bL 2 (bK (bK p i x) j y)= -bL 2 (bK (bK p i y) j x):=by
 have hc:(i=0/\j=1)\/(i=0/\j=2)\/(i=1/\j=2):=by omega
 rcases hc with⟨rfl,rfl⟩ |⟨rfl,rfl⟩ |⟨rfl,rfl⟩<;>(simp[bL,dJ,bK];grind)
def anp (p:Nat->Nat->Dyadic)(i j:Nat)(hij:i<j)(hj:j<=3)(x y:Nat->Dyadic):bL 3 (bK (bK p i x) j y)= -bL 3 (bK (bK p i y) j x):=by
 have hc:(i=0/\j=1)\/(i=0/\j=2)\/(i=0/\j=3)\/(i=1/\j=2)\/(i=1/\j=3)\/(i=2/\j=3):=by omega
 rcases hc with⟨rfl,rfl⟩ |⟨rfl,rfl⟩ |⟨rfl,rfl⟩ |⟨rfl,rfl⟩ |⟨rfl,rfl⟩ |⟨rfl,rfl⟩<;>(simp[bL,dJ,bK];grind)
def anq (p:Nat->Nat->Dyadic)(i j:Nat)(hij:i<j)(hj:j<=4)(x y:Nat->Dyadic):bL 4 (bK (bK p i x) j y)= -bL 4 (bK (bK p i y) j x):=by
 have hc:(i=0/\j=1)\/(i=0/\j=2)\/(i=0/\j=3)\/(i=0/\j=4)\/(i=1/\j=2)\/(i=1/\j=3)\/(i=1/\j=4)\/(i=2/\j=3)\/(i=2/\j=4)\/(i=3/\j=4):=by omega
 rcases hc with⟨rfl,rfl⟩ |⟨rfl,rfl⟩ |⟨rfl,rfl⟩ |⟨rfl,rfl⟩ |⟨rfl,rfl⟩ |⟨rfl,rfl⟩ |⟨rfl,rfl⟩ |⟨rfl,rfl⟩ |⟨rfl,rfl⟩ |⟨rfl,rfl⟩<;>(simp[bL,dJ,bK];grind)
def Lv (n:Nat)(hn:1<=n)(aS:n<=4)(p:Nat->Nat->Dyadic)(h:Dyadic)(hh:h+h=1)(v:Nat)(hv:v<=n)(x y:Nat->Dyadic):bL n (bK p v λb=>(x b+y b) *h)=(bL n (bK p v x)+bL n (bK p v y)) *h:=by
 have hc:n=1\/n=2\/n=3\/n=4:=by omega
 rcases hc with rfl|rfl|rfl|rfl
 . exact anj p h hh v hv x y
 . exact ank p h hh v hv x y
 . exact anl p h hh v hv x y
 . exact anm p h hh v hv x y
def ZT (n:Nat)(hn:1<=n)(aS:n<=4)(p:Nat->Nat->Dyadic)(i j:Nat)(hij:i≠j)(hi:i<=n)(hj:j<=n)(x y:Nat->Dyadic):bL n (bK (bK p i x) j y)= -bL n (bK (bK p i y) j x):=by
 have h1:∀i j x y,i<j->j<=n->bL n (bK (bK p i x) j y)= -bL n (bK (bK p i y) j x):=by
  intro i j x y h1 h2;have hc:n=1\/n=2\/n=3\/n=4:=by omega
  rcases hc with rfl|rfl|rfl|rfl
  . exact ann p i j h1 h2 x y
  . exact ano p i j h1 h2 x y
  . exact anp p i j h1 h2 x y
  . exact anq p i j h1 h2 x y
 rcases Nat.lt_or_gt_of_ne hij with h2|h2
 . exact h1 i j x y h2 hj
 . rw[Jz p i j x y hij,Jz p i j y x hij];exact h1 j i y x h2 hi
def ani (n:Nat)(hn:1<=n)(aS:n<=4)(p:Nat->Nat->Dyadic)(i j:Nat)(hij:i≠j)(hi:i<=n)(hj:j<=n)(x:Nat->Dyadic):bL n (bK (bK p i x) j x)=0:=by have:=ZT n hn aS p i j hij hi hj x x;grind
def Gc (n:Nat)(hn:1<=n)(aS:n<=4)(p:Nat->Nat->Dyadic)(i j:Nat)(hij:i≠j)(hi:i<=n)(hj:j<=n):bL n (bK p j (p i))=0:=by have:=ani n hn aS p i j hij hi hj (p i);rwa [zw]at this
def apf (n:Nat)(hn:1<=n)(aS:n<=4)(p:Nat->Nat->Dyadic)(h:Dyadic)(hh:h+h=1)(i j v:Nat)(hij:i<j)(hj:j<=n)(hv:v=i\/v=j):bL n (yR p h i j v)=bL n p*h:=by
 rw[Uq,Lv n hn aS p h hh v (by omega) (p i) (p j)];rcases hv with rfl|rfl
 . rw[zw,Gc n hn aS p j v (by omega) hj (by omega)];grind
 . rw[zw,Gc n hn aS p i v (by omega) (by omega) hj];grind
def qN (f:Nat->Nat->Int)(n k:Nat):Option Nat:=(List.range (n-k)).find? λi=>f (k+i) k !=0
def bU (f:Nat->Nat->Int)(k m:Nat):Nat->Nat->Int:=λa b=>f (if a=k then m else if a=m then k else a) b
def bZ (g:Nat->Nat->Int)(k a b:Nat):Int:=g a b*g k k-g a k*g k b
def dD (g:Nat->Nat->Int)(k:Nat)(last:Int):Nat->Nat->Int:=λa b=>if k<a/\k<b then bZ g k a b/last else g a b
def eX (n:Nat):Nat->Nat->(Nat->Nat->Int)->Int->Bool->Int
 |0,_,_,last,turned=>if turned then-last else last
 | l+1,k,f,last,turned=>match qN f n k with
   |none=>0
   |some m=>eX n l (k+1) (dD (bU f k (k+m)) k last) (bU f k (k+m) k k) (turned !=decide (0<m))
def gK (n:Nat):Nat->Nat->(Nat->Nat->Int)->Int->Prop
 |0,_,_,_=>True
 | l+1,k,f,last=>match qN f n k with
   |none=>True
   |some m=>(∀a b,k<a->a<n->k<b->b<n->last∣bZ (bU f k (k+m)) k a b)/\gK n l (k+1) (dD (bU f k (k+m)) k last) (bU f k (k+m) k k)
def mI {f:Nat->Nat->Int}{n k m:Nat}(h:qN f n k=some m):k+m<n/\f (k+m) k≠0:=by unfold qN at h;have h1:=List.find?_some h;have h2:=List.mem_of_find?_eq_some h;rw[List.mem_range]at h2;refine⟨by omega,?_⟩;simpa using h1
def nz {f:Nat->Nat->Int}{n k:Nat}(h:qN f n k=none):∀a,k<=a->a<n->f a k=0:=by intro a h1 h2;unfold qN at h;rw[List.find?_eq_none]at h;have:=h (a-k) (by rw[List.mem_range];omega);rw[show k+(a-k)=a by omega]at this;simpa using this
def Ap (f:Nat->Nat->Int):Int:=f 0 0*f 1 1-f 0 1*f 1 0
def iM (f:Nat->Nat->Int):Int:=f 0 0* (f 1 1*f 2 2-f 1 2*f 2 1)-f 0 1* (f 1 0*f 2 2-f 1 2*f 2 0)+f 0 2* (f 1 0*f 2 1-f 1 1*f 2 0)
def akC (f:Nat->Nat->Int):eX 1 1 0 f 1 false=f 0 0:=by
 unfold eX;split
 . rename_i h
   exact(nz h 0 (by omega) (by omega)).symm
 . rename_i m h
   have:=mI h;obtain rfl:m=0:=by omega
   simp[eX,bU]
def akD (f:Nat->Nat->Int):eX 2 2 0 f 1 false=Ap f:=by
 unfold eX;split
 . rename_i h
   have h0:=nz h 0 (by omega) (by omega);have h1:=nz h 1 (by omega) (by omega);simp[Ap,h0,h1]
 . rename_i m h
   have hm:=mI h;unfold eX;split
   . rename_i h2
     have h1:=nz h2 1 (by omega) (by omega);obtain rfl|rfl:m=0\/m=1:=by omega
     . simp[dD,bZ,bU]at h1;simp[Ap];grind
     . simp[dD,bZ,bU]at h1;simp[Ap];grind
   . rename_i m2 h2
     have hm2:=mI h2;obtain rfl:m2=0:=by omega
     obtain rfl|rfl:m=0\/m=1:=by omega
     . simp[eX,dD,bZ,bU,Ap];grind
     . simp[eX,dD,bZ,bU,Ap];grind
def amN (f:Nat->Nat->Int)(m:Nat)(hm:m<3):iM (bU f 0 m)=if 0<m then-iM f else iM f:=by
 obtain rfl|rfl|rfl:m=0\/m=1\/m=2:=by omega
 . simp[iM,bU]
 . simp[iM,bU];grind
 . simp[iM,bU];grind
def aeO (g:Nat->Nat->Int)(m:Nat)(hm:m<2):bZ (bU (dD g 0 1) 1 (1+m)) 1 2 2=g 0 0* (if 0<m then-iM g else iM g):=by
 obtain rfl|rfl:m=0\/m=1:=by omega
 . simp[bZ,dD,bU,iM];grind
 . simp[bZ,dD,bU,iM];grind
def atk (g:Nat->Nat->Int)(h0:g 0 0≠0)(h:∀a,1<=a->a<3->dD g 0 1 a 1=0):iM g=0:=by
 have h1:=h 1 (by omega) (by omega);have h2:=h 2 (by omega) (by omega);simp only[dD,bZ]at h1 h2;rw[if_pos (by omega),Int.ediv_one]at h1 h2;have e:g 0 0*iM g=0:=by
  have e1:g 0 0* (g 0 0*iM g)=(g 1 1*g 0 0-g 1 0*g 0 1) * (g 2 2*g 0 0-g 2 0*g 0 2)-(g 1 2*g 0 0-g 1 0*g 0 2) * (g 2 1*g 0 0-g 2 0*g 0 1):=by unfold iM;grind
  rw[h1,h2,Int.zero_mul,Int.mul_zero,Int.sub_zero]at e1;rcases Int.mul_eq_zero.1 e1 with e2|e2
  . exact absurd e2 h0
  . exact e2
 rcases Int.mul_eq_zero.1 e with e2|e2
 . exact absurd e2 h0
 . exact e2
def akF (g:Nat->Nat->Int)(t:Bool)(h0:g 0 0≠0):eX 3 2 1 (dD g 0 1) (g 0 0) t=if t then-iM g else iM g:=by
 unfold eX;split
 . rename_i h
   have:=atk g h0 (nz h);simp[this]
 . rename_i m h
   have hm:=mI h;have hn:=aeO g m (by omega);unfold eX;split
   . rename_i h2
     have h3:=nz h2 2 (by omega) (by omega);have h4:bZ (bU (dD g 0 1) 1 (1+m)) 1 2 2/g 0 0=0:=by simpa[dD]using h3
     rw[hn,Int.mul_ediv_cancel_left _ h0]at h4;split at h4<;>simp_all<;>omega
   . rename_i m2 h2
     have hm2:=mI h2;obtain rfl:m2=0:=by omega
     have h4:bU (dD (bU (dD g 0 1) 1 (1+m)) 1 (g 0 0)) 2 (2+0) 2 2=if 0<m then-iM g else iM g:=by rw[<-Int.mul_ediv_cancel_left (if 0<m then-iM g else iM g) h0,<-hn];simp[bU,dD]
     simp only[eX];show(if((t !=decide (0<m)) !=decide (0<0))=true then-_ else _)=_
     rw[h4];by_cases hm0:0<m<;>cases t<;>simp[hm0]
def akE (f:Nat->Nat->Int):eX 3 3 0 f 1 false=iM f:=by
 unfold eX;split
 . rename_i h
   have h0:=nz h 0 (by omega) (by omega);have h1:=nz h 1 (by omega) (by omega);have h2:=nz h 2 (by omega) (by omega);simp[iM,h0,h1,h2]
 . rename_i m h
   have hm:=mI h;have hs:=amN f m (by omega);simp only[Nat.zero_add]at hm⊢;have hp:bU f 0 m 0 0≠0:=by simpa[bU]using hm.2
   rw[akF (bU f 0 m) _ hp,hs];by_cases hm0:0<m<;>simp[hm0]
def anL (f:Nat->Nat->Int):gK 1 1 0 f 1:=by
 unfold gK;split
 . trivial
 . exact⟨λa b h1 h2=>by omega,by unfold gK;trivial⟩
def anM (f:Nat->Nat->Int):gK 2 2 0 f 1:=by
 unfold gK;split
 . trivial
 . refine⟨λa b _ _ _ _=>Int.one_dvd _,?_⟩;unfold gK;split
   . trivial
   . exact⟨λa b h1 h2=>by omega,by unfold gK;trivial⟩
def anN (f:Nat->Nat->Int):gK 3 3 0 f 1:=by
 unfold gK;split
 . trivial
 . refine⟨λa b _ _ _ _=>Int.one_dvd _,?_⟩;unfold gK;split
   . trivial
   . rename_i m2 h2
     have hm2:=mI h2;refine⟨λa b h1 h2 h3 h4=>?_,?_⟩
     . obtain rfl:a=2:=by omega
       obtain rfl:b=2:=by omega
       rw[aeO _ m2 (by omega)];exact Int.dvd_mul_right _ _
     . unfold gK;split
       . trivial
       . exact⟨λa b h1 h2=>by omega,by unfold gK;trivial⟩
def ZN (h n1 n0 u1:Nat)(h1:2147483648<=n1)(h2:n1<4294967296)(h0:n0<4294967296)(hh:h<n1*4294967296+n0)(hu:u1<4294967296):
 (h*4294967296+u1)/(n1*4294967296+n0)<=h/n1/\h/n1<=4294967297/\h/n1*n1+h%n1=h/\h%n1<4294967296:=by
 have hd:=Nat.div_add_mod h n1;have hm:=Nat.mod_lt h (show 0<n1 by omega);generalize h%n1=m at*;generalize hq:h/n1=q at*;have e:(n1*4294967296+n0) * (q+1)=n1*q*4294967296+n1*4294967296+n0* (q+1):=by grind
 have e2:q*n1=n1*q:=Nat.mul_comm _ _;refine⟨?_,?_,by omega,by omega⟩
 . have:(h*4294967296+u1)/(n1*4294967296+n0)<q+1:=by refine Nat.div_lt_of_lt_mul ?_;rw[e];generalize n0* (q+1)=z;generalize n1*q=P at*;omega
   omega
 . rcases Nat.lt_or_ge q 4294967298 with h3|h3
   . omega
   . have:n1*4294967298<=n1*q:=Nat.mul_le_mul_left _ h3;omega
def ZO (q r h n1 n0:Nat)(hJ:q*n1+r=h):q* (n1*4294967296+n0)+r*4294967296=h*4294967296+q*n0:=by subst hJ;grind
def Gb (q r h n1 n0 u1:Nat)(hy:0<n1)(hJ:q*n1+r=h)(hq:(h*4294967296+u1)/(n1*4294967296+n0)<=q)(hc:q*n0<=4294967296*r+u1):
 (h*4294967296+u1)/(n1*4294967296+n0)=q:=by
 have e:=ZO q r h n1 n0 hJ;refine Nat.le_antisymm hq ((Nat.le_div_iff_mul_le (by omega)).2 ?_);generalize q* (n1*4294967296+n0)=a at*;generalize q*n0=b at*;omega
def Lr (q r h n1 n0 u1:Nat)(hy:0<n1)(h0:n0<4294967296)(hJ:q*n1+r=h)(hq:(h*4294967296+u1)/(n1*4294967296+n0)<=q)(hT:q<=4294967296)(hr:4294967296<=r):
 (h*4294967296+u1)/(n1*4294967296+n0)=q:=by
 refine Gb q r h n1 n0 u1 hy hJ hq ?_;have:q*n0<=4294967296*4294967295:=Nat.mul_le_mul hT (by omega);omega
def Lt (q r h n1 n0 u1:Nat)(hh:h<n1*4294967296+n0)(hu:u1<4294967296)(hJ:q*n1+r=h)(hq:(h*4294967296+u1)/(n1*4294967296+n0)<=q)(hc:4294967296<=q\/4294967296*r+u1<q*n0):
 0<q/\(q-1) *n1+(r+n1)=h/\(h*4294967296+u1)/(n1*4294967296+n0)<=q-1:=by
 have hq0:0<q:=by
  rcases Nat.eq_zero_or_pos q with h3|h3
  . subst h3;rcases hc with hc|hc
    . omega
    . rw[Nat.zero_mul]at hc;omega
  . exact h3
 obtain⟨k,rfl⟩:∃k,q=k+1:=⟨q-1,by omega⟩;have e:=ZO (k+1) r h n1 n0 hJ;refine⟨hq0,?_,?_⟩
 . rw[Nat.add_sub_cancel,<-hJ,Nat.add_mul,Nat.one_mul];omega
 . rw [Nat.add_sub_cancel];have:(h*4294967296+u1)/(n1*4294967296+n0)<k+1:=by
    refine Nat.div_lt_of_lt_mul ?_;rw[Nat.mul_comm (n1*4294967296+n0) (k+1)];rcases hc with hc|hc
    . have h3:4294967296* (n1*4294967296+n0)<=(k+1) * (n1*4294967296+n0):=Nat.mul_le_mul_right _ hc;generalize (k+1) * (n1*4294967296+n0)=a at*;omega
    . generalize (k+1) * (n1*4294967296+n0)=a at*;generalize (k+1) *n0=b at*;omega
   omega
def am3 (h u1 u0 y q1:Nat)(hy:0<y)(hq1:(h*4294967296+u1)/y=q1):
 (h*18446744073709551616+(u1*4294967296+u0))/y=q1*4294967296+((h*4294967296+u1)%y*4294967296+u0)/y:=by
 have hd:=Nat.div_add_mod (h*4294967296+u1) y;rw[hq1]at hd;have e:h*18446744073709551616+(u1*4294967296+u0)=((h*4294967296+u1)%y*4294967296+u0)+y* (q1*4294967296):=by
  have:y* (q1*4294967296)=y*q1*4294967296:=by grind
  rw[this];omega
 rw[e,Nat.add_mul_div_left _ _ hy];omega
def ZG (A low k j:Nat)(hl:low<WW^k):dg (A*WW^k+low) j=if j<k then dg low j else dg A (j-k):=by
 unfold dg;split
 . rename_i hj
   obtain⟨m,rfl⟩:∃m,k=j+1+m:=⟨k-(j+1),by omega⟩;have e:A*WW^(j+1+m)+low=low+WW^j* (WW* (A*WW^m)):=by rw[show j+1+m=j+(1+m)by omega,Nat.pow_add,Nat.pow_add,Nat.pow_one];grind
   rw[e,Nat.add_mul_div_left _ _ (dX j),Nat.add_mul_mod_self_left]
 . rename_i hj
   obtain⟨m,rfl⟩:∃m,j=k+m:=⟨j-k,by omega⟩;rw[Nat.add_sub_cancel_left,Nat.pow_add,<-Nat.div_div_eq_div_mul,Nat.add_comm,Nat.add_mul_div_right _ _ (dX k),Nat.div_eq_of_lt hl,Nat.zero_add]
def aos {P by' n:Nat}(hn:0<n)(hP:P<by'*WW)(hb1:0<dg by' (n-1))(Qs:by'<WW^n):P/by'<=(if dg P n<dg by' (n-1)then(dg P n*WW+dg P (n-1))/dg by' (n-1)else WW-1):=by
 obtain⟨k,rfl⟩:∃k,n=k+1:=⟨n-1,by omega⟩;rw[Nat.add_sub_cancel]at*;have hby:0<by':=by
  rcases Nat.eq_zero_or_pos by' with h|h
  . subst h;unfold dg at hb1;simp at hb1
  . exact h
 have hq:P/by'<WW:=Nat.div_lt_of_lt_mul hP;split
 . have tq:P<WW^(k+1+1):=by exact Nat.lt_trans hP (by rw[Nat.pow_succ];exact Nat.mul_lt_mul_of_pos_right Qs jH)
   have e1:P/WW^k=dg P (k+1) *WW+dg P k:=by unfold dg;have h1:P/WW^(k+1)%WW=P/WW^(k+1):=Nat.mod_eq_of_lt (by rw[Nat.div_lt_iff_lt_mul (dX _)];rw[Nat.pow_succ,Nat.mul_comm]at tq;exact tq);rw[h1,Nat.pow_succ,<-Nat.div_div_eq_div_mul,Nat.mul_comm];exact(Nat.div_add_mod _ _).symm
   have e2:by'/WW^k=dg by' k:=by unfold dg;exact(Nat.mod_eq_of_lt (by rw[Nat.div_lt_iff_lt_mul (dX _)];rw[Nat.pow_succ,Nat.mul_comm]at Qs;exact Qs)).symm
   rw[<-e1,<-e2];rw[<-e2]at hb1;refine(Nat.le_div_iff_mul_le hb1).2 ?_;refine(Nat.le_div_iff_mul_le (dX k)).2 ?_;have h3:by'/WW^k*WW^k<=by':=Nat.div_mul_le_self _ _;have h4:P/by'*by'<=P:=Nat.div_mul_le_self _ _;rw[Nat.mul_assoc];exact Nat.le_trans (Nat.mul_le_mul_left _ h3) h4
 . have:=jH;omega
def eZ (f:Nat->Nat->Int):Int:=
 f 0 0* (f 1 1* (f 2 2*f 3 3-f 2 3*f 3 2)-f 1 2* (f 2 1*f 3 3-f 2 3*f 3 1)+f 1 3* (f 2 1*f 3 2-f 2 2*f 3 1))
 -f 0 1* (f 1 0* (f 2 2*f 3 3-f 2 3*f 3 2)-f 1 2* (f 2 0*f 3 3-f 2 3*f 3 0)+f 1 3* (f 2 0*f 3 2-f 2 2*f 3 0))
 +f 0 2* (f 1 0* (f 2 1*f 3 3-f 2 3*f 3 1)-f 1 1* (f 2 0*f 3 3-f 2 3*f 3 0)+f 1 3* (f 2 0*f 3 1-f 2 1*f 3 0))
 -f 0 3* (f 1 0* (f 2 1*f 3 2-f 2 2*f 3 1)-f 1 1* (f 2 0*f 3 2-f 2 2*f 3 0)+f 1 2* (f 2 0*f 3 1-f 2 1*f 3 0))
def yQ (g:Nat->Nat->Int)(a b:Nat):Int:=g 0 0* (g 1 1*g a b-g 1 b*g a 1)-g 0 1* (g 1 0*g a b-g 1 b*g a 0)+g 0 b* (g 1 0*g a 1-g 1 1*g a 0)
def VD (g:Nat->Nat->Int)(k r s:Nat)(last:Int)(hr:k<r)(hs:k<s):bU (dD g k last) r s=dD (bU g r s) k last:=by
 funext a b
 unfold bU dD bZ;have e1:(k<if a=r then s else if a=s then r else a)↔k<a:=by
  by_cases h1:a=r
  . rw[if_pos h1];omega
  . rw[if_neg h1];by_cases h2:a=s
    . rw[if_pos h2];omega
    . rw[if_neg h2]
 have e2:(if k=r then s else if k=s then r else k)=k:=by rw[if_neg (by omega),if_neg (by omega)]
 simp only[e2];by_cases h:k<a/\k<b
 . rw[if_pos h,if_pos ⟨e1.2 h.1,h.2⟩]
 . rw[if_neg h,if_neg (λh2=>h ⟨e1.1 h2.1,h2.2⟩)]
def qO (g:Nat->Nat->Int)(k r s b:Nat)(hr:k<r)(hs:k<s):bU g r s k b=g k b:=by unfold bU;rw[if_neg (by omega),if_neg (by omega)]
def amO (f:Nat->Nat->Int)(m:Nat)(hm:m<4):eZ (bU f 0 m)=if 0<m then-eZ f else eZ f:=by
 obtain rfl|rfl|rfl|rfl:m=0\/m=1\/m=2\/m=3:=by omega
 . simp[eZ,bU]
 . simp[eZ,bU];grind
 . simp[eZ,bU];grind
 . simp[eZ,bU];grind
def amP (f:Nat->Nat->Int)(m:Nat)(hm:m<3):eZ (bU f 1 (1+m))=if 0<m then-eZ f else eZ f:=by
 obtain rfl|rfl|rfl:m=0\/m=1\/m=2:=by omega
 . simp[eZ,bU]
 . simp[eZ,bU];grind
 . simp[eZ,bU];grind
def amQ (f:Nat->Nat->Int)(m:Nat)(hm:m<2):eZ (bU f 2 (2+m))=if 0<m then-eZ f else eZ f:=by
 obtain rfl|rfl:m=0\/m=1:=by omega
 . simp[eZ,bU]
 . simp[eZ,bU];grind
def alT (g:Nat->Nat->Int):g 0 0* (g 0 0*eZ g)=bZ g 0 1 1* (bZ g 0 2 2*bZ g 0 3 3-bZ g 0 2 3*bZ g 0 3 2)-bZ g 0 1 2* (bZ g 0 2 1*bZ g 0 3 3-bZ g 0 2 3*bZ g 0 3 1)+bZ g 0 1 3* (bZ g 0 2 1*bZ g 0 3 2-bZ g 0 2 2*bZ g 0 3 1):=by unfold bZ eZ;grind
def aeS (g:Nat->Nat->Int)(a b:Nat)(ha:1<a)(hb:1<b):bZ (dD g 0 1) 1 a b=g 0 0*yQ g a b:=by unfold bZ dD yQ bZ;rw[if_pos (by omega),if_pos (by omega),if_pos (by omega),if_pos (by omega)];simp only[Int.ediv_one];grind
def afM (g:Nat->Nat->Int):yQ g 3 3*yQ g 2 2-yQ g 3 2*yQ g 2 3=bZ g 0 1 1*eZ g:=by unfold bZ yQ eZ;grind
def nE (g:Nat->Nat->Int):Nat->Nat->Int:=dD (dD g 0 1) 1 (g 0 0)
def Jx (g:Nat->Nat->Int)(h0:g 0 0≠0)(a b:Nat)(ha:1<a)(hb:1<b):nE g a b=yQ g a b:=by
 unfold nE;show(if 1<a/\1<b then bZ (dD g 0 1) 1 a b/g 0 0 else _)=_
 rw[if_pos ⟨ha,hb⟩,aeS g a b ha hb,Int.mul_ediv_cancel_left _ h0]
def UB (g:Nat->Nat->Int)(a b:Nat)(ha:0<a)(hb:0<b):dD g 0 1 a b=bZ g 0 a b:=by unfold dD;rw[if_pos ⟨ha,hb⟩,Int.ediv_one]
def afL (g:Nat->Nat->Int)(m:Nat):bU (nE g) 2 (2+m)=nE (bU g 2 (2+m)):=by unfold nE;rw[VD _ 1 2 (2+m) _ (by omega) (by omega),VD _ 0 2 (2+m) _ (by omega) (by omega),qO g 0 2 (2+m) 0 (by omega) (by omega)]
def Ny (g:Nat->Nat->Int)(m:Nat):bU (dD g 0 1) 1 (1+m)=dD (bU g 1 (1+m)) 0 1:=VD _ 0 1 (1+m) _ (by omega) (by omega)
def atm (g:Nat->Nat->Int)(h0:g 0 0≠0)(h1:bZ g 0 1 1≠0)(h:∀a,2<=a->a<4->nE g a 2=0):eZ g=0:=by
 have h2:=h 2 (by omega) (by omega);have h3:=h 3 (by omega) (by omega);rw[Jx g h0 _ _ (by omega) (by omega)]at h2 h3;have e:=afM g;rw[h2,h3,Int.zero_mul,Int.mul_zero,Int.sub_zero]at e;rcases Int.mul_eq_zero.1 e.symm with e2|e2
 . exact absurd e2 h1
 . exact e2
def adZ (g:Nat->Nat->Int)(h0:g 0 0≠0)(_h1:bZ g 0 1 1≠0):bZ (nE g) 2 3 3=bZ g 0 1 1*eZ g:=by unfold bZ;rw[Jx g h0 _ _ (by omega) (by omega),Jx g h0 _ _ (by omega) (by omega),Jx g h0 _ _ (by omega) (by omega),Jx g h0 _ _ (by omega) (by omega)];exact afM g
def akI (g:Nat->Nat->Int)(t:Bool)(h0:g 0 0≠0)(h1:bZ g 0 1 1≠0):eX 4 2 2 (nE g) (bZ g 0 1 1) t=if t then-eZ g else eZ g:=by
 unfold eX;split
 . rename_i h
   have:=atm g h0 h1 (nz h);simp[this]
 . rename_i m h
   have hm:=mI h;have hs:=amQ g m (by omega);obtain⟨g',hg⟩:∃g',bU g 2 (2+m)=g':=⟨_,rfl⟩;have nW:g' 0 0=g 0 0:=by rw[<-hg];exact qO g 0 2 (2+m) 0 (by omega) (by omega)
   have e11:bZ g' 0 1 1=bZ g 0 1 1:=by unfold bZ;rw[<-hg,qO g 0 2 (2+m) _ (by omega) (by omega),qO g 0 2 (2+m) _ (by omega) (by omega),qO g 1 2 (2+m) _ (by omega) (by omega),qO g 1 2 (2+m) _ (by omega) (by omega)]
   rw[afL,hg];rw[hg]at hs;have hn:nE g' 2 2=nE g' 2 2:=rfl;have hl:=adZ g' (by rw[nW];exact h0) (by rw[e11];exact h1);have hf:dD (nE g') 2 (bZ g 0 1 1) 3 3=eZ g':=by
    show(if 2<3/\2<3 then bZ (nE g') 2 3 3/bZ g 0 1 1 else _)=_
    rw[if_pos (by omega),hl,e11,Int.mul_ediv_cancel_left _ h1]
   unfold eX;split
   . rename_i h2
     have h3:=nz h2 3 (by omega) (by omega);rw[hf,hs]at h3;by_cases hm0:0<m<;>simp[hm0]at h3<;>simp[h3]
   . rename_i m2 h2
     have hm2:=mI h2;obtain rfl:m2=0:=by omega
     simp only[eX];have hz:bU (dD (nE g') 2 (bZ g 0 1 1)) 3 (3+0) 3 3=eZ g':=by rw[<-hf];simp[bU]
     show(if((t !=decide (0<m)) !=decide (0<0))=true then-_ else _)=_
     rw[hz,hs];by_cases hm0:0<m<;>cases t<;>simp[hm0]
def atl (g:Nat->Nat->Int)(h0:g 0 0≠0)(h:∀a,1<=a->a<4->dD g 0 1 a 1=0):eZ g=0:=by
 have h1:=h 1 (by omega) (by omega);have h2:=h 2 (by omega) (by omega);have h3:=h 3 (by omega) (by omega);rw[UB g _ _ (by omega) (by omega)]at h1 h2 h3;have e:=alT g;have e0:g 0 0* (g 0 0*eZ g)=0:=by rw[e,h1,h2,h3];grind
 rcases Int.mul_eq_zero.1 e0 with e2|e2
 . exact absurd e2 h0
 . rcases Int.mul_eq_zero.1 e2 with e3|e3
   . exact absurd e3 h0
   . exact e3
def akH (g:Nat->Nat->Int)(t:Bool)(h0:g 0 0≠0):eX 4 3 1 (dD g 0 1) (g 0 0) t=if t then-eZ g else eZ g:=by
 unfold eX;split
 . rename_i h
   have:=atl g h0 (nz h);simp[this]
 . rename_i m h
   have hm:=mI h;have hs:=amP g m (by omega);obtain⟨g',hg⟩:∃g',bU g 1 (1+m)=g':=⟨_,rfl⟩;have nW:g' 0 0=g 0 0:=by rw[<-hg];exact qO g 0 1 (1+m) 0 (by omega) (by omega)
   rw[Ny,hg];rw[hg]at hs;have e1:dD g' 0 1 1 1=bZ g' 0 1 1:=UB g' 1 1 (by omega) (by omega);have h1:bZ g' 0 1 1≠0:=by rw[<-e1,<-hg,<-Ny];have:=hm.2;unfold bU;rw[if_pos rfl];exact this
   have h2:=akI g' (t !=decide (0<m)) (by rw[nW];exact h0) h1;unfold nE at h2;rw[nW]at h2;rw[e1,h2,hs];by_cases hm0:0<m<;>cases t<;>simp[hm0]
def akG (f:Nat->Nat->Int):eX 4 4 0 f 1 false=eZ f:=by
 unfold eX;split
 . rename_i h
   have h0:=nz h 0 (by omega) (by omega);have h1:=nz h 1 (by omega) (by omega);have h2:=nz h 2 (by omega) (by omega);have h3:=nz h 3 (by omega) (by omega);unfold eZ;rw[h0,h1,h2,h3];grind
 . rename_i m h
   have hm:=mI h;have hs:=amO f m (by omega);simp only[Nat.zero_add]at hm⊢;have hp:bU f 0 m 0 0≠0:=by simpa[bU]using hm.2
   rw[akH (bU f 0 m) _ hp,hs];by_cases hm0:0<m<;>simp[hm0]
def anP (g:Nat->Nat->Int)(h0:g 0 0≠0)(h1:bZ g 0 1 1≠0):gK 4 2 2 (nE g) (bZ g 0 1 1):=by
 unfold gK;split
 . trivial
 . rename_i m h
   have hm:=mI h;obtain⟨g',hg⟩:∃g',bU g 2 (2+m)=g':=⟨_,rfl⟩;have nW:g' 0 0=g 0 0:=by rw[<-hg];exact qO g 0 2 (2+m) 0 (by omega) (by omega)
   have e11:bZ g' 0 1 1=bZ g 0 1 1:=by unfold bZ;rw[<-hg,qO g 0 2 (2+m) _ (by omega) (by omega),qO g 0 2 (2+m) _ (by omega) (by omega),qO g 1 2 (2+m) _ (by omega) (by omega),qO g 1 2 (2+m) _ (by omega) (by omega)]
   rw[afL,hg];refine⟨λa b h2 h3 h4 h5=>?_,?_⟩
   . obtain rfl:a=3:=by omega
     obtain rfl:b=3:=by omega
     rw[adZ g' (by rw[nW];exact h0) (by rw[e11];exact h1),e11];exact Int.dvd_mul_right _ _
   . unfold gK;split
     . trivial
     . exact⟨λa b h1 h2=>by omega,by unfold gK;trivial⟩
def anO (f:Nat->Nat->Int):gK 4 4 0 f 1:=by
 unfold gK;split
 . trivial
 . rename_i m h
   have hm:=mI h;simp only[Nat.zero_add]at hm⊢;obtain⟨g,hg⟩:∃g,bU f 0 m=g:=⟨_,rfl⟩;have h0:g 0 0≠0:=by rw[<-hg];simpa[bU]using hm.2
   rw[hg];refine⟨λa b _ _ _ _=>Int.one_dvd _,?_⟩;unfold gK;split
   . trivial
   . rename_i m2 h2
     have hm2:=mI h2;obtain⟨g',hg'⟩:∃g',bU g 1 (1+m2)=g':=⟨_,rfl⟩;have nW:g' 0 0=g 0 0:=by rw[<-hg'];exact qO g 0 1 (1+m2) 0 (by omega) (by omega)
     have e1:dD g' 0 1 1 1=bZ g' 0 1 1:=UB g' 1 1 (by omega) (by omega);have h1:bZ g' 0 1 1≠0:=by rw[<-e1,<-hg',<-Ny];have:=hm2.2;unfold bU;rw[if_pos rfl];exact this
     rw[Ny,hg',e1];refine⟨λa b h3 h4 h5 h6=>?_,?_⟩
     . rw[aeS g' a b h3 h5,nW];exact Int.dvd_mul_right _ _
     . have:=anP g' (by rw[nW];exact h0) h1;unfold nE at this;rw[nW]at this;exact this
end Go.Proofs.YtpfgffadgkkedaaGreatDoor
