/- Plain facts on numbers written in digits to the base 2^64 and on bytes,the highest first. No program here. -/
set_option linter.all false
set_option maxRecDepth 100000
set_option maxHeartbeats 16000000
namespace Go.Proofs.YtpfgffadgkkedaaGreatDoor
def WW :Nat:=18446744073709551616
def jq :WW=18446744073709551616:=rfl
def jG :0<WW:=by decide
def lW :WW=2^64:=by decide
def dU (k:Nat):0<WW^k:=Nat.pow_pos jG
def ln (v:Nat):Nat:=if v=0 then 0 else Nat.log2 v/64+1
def ma (k:Nat):WW^k=2^(64*k):=by rw[lW,<-Nat.pow_mul]
def eP (v:Nat):v<WW^ln v:=by
 unfold ln;split
 . subst v;simp
 . rename_i h
   rw[ma];refine Nat.lt_of_lt_of_le (Nat.lt_log2_self (n:=v)) (Nat.pow_le_pow_right (by decide) ?_);omega
def jg {v n:Nat}(h:v<WW^n):ln v<=n:=by
 unfold ln;split
 . omega
 . rename_i h0
   rw[ma]at h;have:=(Nat.log2_lt h0).2 h;omega
def aeE {v n:Nat}(h:v<WW^(n+1))(h':WW^n<=v):ln v=n+1:=by
 have h1:=jg h;have h2:¬ln v<=n:=λhle=>by have:=eP v;have:=Nat.pow_le_pow_right jG hle;omega
 omega
def Uk :ln 0=0:=rfl
def MX {v:Nat}(h:0<v):0<ln v:=by unfold ln;split<;>omega
def dg (v j:Nat):Nat:=v/WW^j%WW
def jK (v j:Nat):dg v j<WW:=Nat.mod_lt _ jG
def awM {v k:Nat}(h:v<WW^(k+1))(h0:dg v k=0):v<WW^k:=by
 unfold dg at h0;have h1:v/WW^k<WW:=by rw[Nat.div_lt_iff_lt_mul (dU k)];rw[Nat.pow_succ]at h;rwa [Nat.mul_comm]at h
 rw[Nat.mod_eq_of_lt h1]at h0;rcases Nat.lt_or_ge v (WW^k)with h2|h2
 . exact h2
 . have:=Nat.div_pos h2 (dU k);omega
def ago {v k:Nat}(h0:dg v k≠0):WW^k<=v:=by
 rcases Nat.lt_or_ge v (WW^k)with h2|h2
 . exact absurd (by unfold dg;rw[Nat.div_eq_of_lt h2];simp) h0
 . exact h2
def uH {v k j:Nat}(h:v<WW^k)(hj:k<=j):dg v j=0:=by unfold dg;rw[Nat.div_eq_of_lt (Nat.lt_of_lt_of_le h (Nat.pow_le_pow_right jG hj))];simp
def Br (v i:Nat):v%WW^(i+1)=v%WW^i+WW^i*dg v i:=by unfold dg;rw[Nat.pow_succ,Nat.mod_mul]
def ZK {v n j:Nat}(h:j<n):dg (v%WW^n) j=dg v j:=by unfold dg;obtain⟨d,rfl⟩:∃d,n=j+1+d:=⟨n-(j+1),by omega⟩;rw[Nat.pow_add,Nat.mod_mul,Nat.pow_succ,Nat.mod_mul];rw[show v%WW^j+WW^j* (v/WW^j%WW)+WW^j*WW* (v/(WW^j*WW)%WW^d)=v%WW^j+WW^j* ((v/WW^j%WW)+WW* (v/(WW^j*WW)%WW^d))by rw[Nat.mul_add,Nat.mul_assoc,Nat.add_assoc]];rw[Nat.add_mul_div_left _ _ (dU j),Nat.div_eq_of_lt (Nat.mod_lt _ (dU j)),Nat.zero_add,Nat.add_mul_mod_self_left,Nat.mod_mod]
def cy (v u m i:Nat):Nat:=(v%WW^i+u%WW^i*m)/WW^i
def Zy (v u m:Nat):cy v u m 0=0:=by simp[cy,Nat.mod_one]
def ans (v u m i:Nat)(hm:m<WW):cy v u m i<WW:=by
 unfold cy;rw[Nat.div_lt_iff_lt_mul (dU i)];have h1:=Nat.mod_lt v (dU i);have h2:=Nat.mod_lt u (dU i);generalize v%WW^i=a at*;generalize u%WW^i=b at*;generalize WW^i=M at*;have h3:b*m<=b* (WW-1):=Nat.mul_le_mul_left _ (by omega);have h4:b* (WW-1)<=(M-1) * (WW-1):=Nat.mul_le_mul_right _ (by omega);have h5:(M-1) * (WW-1)+(M-1)=(M-1) *WW:=by
  have:WW=(WW-1)+1:=by have:=jG;omega
  rw(occs:=.pos [2]) [this];rw[Nat.mul_add,Nat.mul_one]
 have h6:(M-1) *WW<=M*WW:=Nat.mul_le_mul_right _ (by omega);have h7:(M-1) *WW+WW=M*WW:=by
  have:M=(M-1)+1:=by omega
  rw(occs:=.pos [2]) [this];rw[Nat.add_mul,Nat.one_mul]
 have:=jG;rw[Nat.mul_comm WW M];omega
def Zx (v u m i:Nat):(dg v i+dg u i*m+cy v u m i)%WW=dg (v+u*m) i/\(dg v i+dg u i*m+cy v u m i)/WW=cy v u m (i+1):=by
 have hM:=dU i;have e1:v=v%WW^i+WW^i* (v/WW^i):=(Nat.mod_add_div v _).symm;have e2:u=u%WW^i+WW^i* (u/WW^i):=(Nat.mod_add_div u _).symm;constructor
 . unfold dg cy;have e3:(v+u*m)/WW^i=v/WW^i+u/WW^i*m+(v%WW^i+u%WW^i*m)/WW^i:=by
    conv=>lhs;rw[e1,e2]
    rw[show v%WW^i+WW^i* (v/WW^i)+(u%WW^i+WW^i* (u/WW^i)) *m=(v%WW^i+u%WW^i*m)+WW^i* (v/WW^i+u/WW^i*m)by rw[Nat.add_mul,Nat.mul_add,Nat.mul_assoc];omega]
    rw[Nat.add_mul_div_left _ _ hM];omega
   rw[e3,Nat.add_mod,Nat.add_mod (v/WW^i+u/WW^i*m),Nat.add_mod (v/WW^i%WW),Nat.add_mod (v/WW^i),Nat.mod_mod,Nat.mul_mod (u/WW^i%WW),Nat.mod_mod,<-Nat.mul_mod]
 . unfold cy;rw[Br v,Br u,Nat.pow_succ]
   rw[show v%WW^i+WW^i*dg v i+(u%WW^i+WW^i*dg u i) *m=(v%WW^i+u%WW^i*m)+WW^i* (dg v i+dg u i*m)by rw[Nat.add_mul,Nat.mul_add,Nat.mul_assoc];omega]
   rw[<-Nat.div_div_eq_div_mul,Nat.add_mul_div_left _ _ hM,Nat.add_comm]
def bw (v u i:Nat):Nat:=if v%WW^i<u%WW^i then 1 else 0
def amq (v u:Nat):bw v u 0=0:=by simp[bw,Nat.mod_one]
def YX (v u i:Nat):bw v u i<=1:=by unfold bw;split<;>omega
def amo (v u i:Nat):bw v u (i+1)=if dg v i<dg u i+bw v u i then 1 else 0:=by
 have h1:=Nat.mod_lt v (dU i);have h2:=Nat.mod_lt u (dU i);unfold bw;rw[Br v,Br u];generalize dg v i=a;generalize dg u i=b;generalize v%WW^i=r at*;generalize u%WW^i=s at*;generalize WW^i=M at*;have key:(r+M*a<s+M*b)↔(a<b+if r<s then 1 else 0):=by
  rcases Nat.lt_trichotomy a b with h|h|h
  . have:M* (a+1)<=M*b:=Nat.mul_le_mul_left _ h;rw[Nat.mul_add]at this;constructor
    . intro _;split<;>omega
    . intro _;omega
  . subst h;split<;>omega
  . have:M* (b+1)<=M*a:=Nat.mul_le_mul_left _ h;rw[Nat.mul_add]at this;constructor
    . intro _;omega
    . intro h';exfalso;revert h';split<;>omega
 simp only[key]
def amn (v u i:Nat)(hu:u<=v):(dg v i+WW-dg u i-bw v u i)%WW=dg (v-u) i:=by
 -- the digit of the difference
 have h1:=Nat.mod_lt v (dU i);have h2:=Nat.mod_lt u (dU i);have hM:=dU i;have hb:=YX v u i;have du:=jK u i;have e1:v=v%WW^i+WW^i* (v/WW^i):=(Nat.mod_add_div v _).symm;have e2:u=u%WW^i+WW^i* (u/WW^i):=(Nat.mod_add_div u _).symm;have e3:(v-u)/WW^i+bw v u i+u/WW^i=v/WW^i:=by
  unfold bw;generalize v%WW^i=r at*;generalize u%WW^i=s at*;generalize v/WW^i=x at*;generalize u/WW^i=y at*;generalize WW^i=M at*;have hxy:y<=x:=by
   rcases Nat.lt_or_ge x y with h|h
   . have:M* (x+1)<=M*y:=Nat.mul_le_mul_left _ h;rw[Nat.mul_add]at this;omega
   . exact h
  obtain⟨d,rfl⟩:∃d,x=y+d:=⟨x-y,by omega⟩;split
  . rename_i hrs
    have hd:1<=d:=by
     rcases Nat.eq_zero_or_pos d with h|h
     . subst h;simp at e1;omega
     . exact h
    obtain⟨d',rfl⟩:∃d',d=d'+1:=⟨d-1,by omega⟩;have:v-u=(M+r-s)+M*d':=by rw[Nat.mul_add,Nat.mul_add]at e1;omega
    rw[this,Nat.add_mul_div_left _ _ hM,Nat.div_eq_of_lt (by omega)];omega
  . have:v-u=(r-s)+M*d:=by rw[Nat.mul_add]at e1;omega
    rw[this,Nat.add_mul_div_left _ _ hM,Nat.div_eq_of_lt (by omega)];omega
 unfold dg at*;generalize (v-u)/WW^i=q at*;rw[<-e3];generalize bw v u i=c at*;generalize u/WW^i=y at*;have hW:=jG
 -- (q + c + y) % W + W - y % W - c ≡ q
 have e4:((q+c+y)%WW+WW-y%WW-c)%WW=q%WW:=by
  have a1:y=y%WW+WW* (y/WW):=(Nat.mod_add_div y _).symm;have a2:(q+c+y)%WW=(q+c+y%WW)%WW:=by rw[Nat.add_mod,Nat.add_mod (q+c) (y%WW),Nat.mod_mod]
  rw[a2];generalize y%WW=z at*;have a3:q=q%WW+WW* (q/WW):=(Nat.mod_add_div q _).symm;have a4:(q+c+z)%WW=(q%WW+c+z)%WW:=by conv=>lhs;rw[a3,show q%WW+WW* (q/WW)+c+z=(q%WW+c+z)+WW* (q/WW)by omega,Nat.add_mul_mod_self_left]
  rw[a4];have hq:=Nat.mod_lt q hW;generalize q%WW=p at*;rcases Nat.lt_or_ge (p+c+z) WW with h|h
  . rw[Nat.mod_eq_of_lt h,show p+c+z+WW-z-c=p+WW by omega,Nat.add_mod_right,Nat.mod_eq_of_lt hq]
  . rcases Nat.lt_or_ge (p+c+z) (2*WW)with h'|h'
    . have:(p+c+z)%WW=p+c+z-WW:=by rw[Nat.mod_eq_sub_mod h,Nat.mod_eq_of_lt (by omega)]
      rw[this,show p+c+z-WW+WW-z-c=p by omega,Nat.mod_eq_of_lt hq]
    . exfalso;omega
 exact e4
def El :Nat->List UInt8->Nat
 |a,[]=>a
 |a,c::l=>El (a*256+c.toNat) l
def nv (l:List UInt8):Nat:=El 0 l
def atL (a:Nat)(l:List UInt8):El a l=a*256^l.length+nv l:=by
 unfold nv;induction l generalizing a with
 |nil=>simp[El]
 |cons c l ih=>simp only[El,List.length_cons];rw[ih,ih (0*256+c.toNat),Nat.pow_succ,Nat.add_mul,Nat.zero_mul,Nat.zero_add,<-Nat.add_assoc,Nat.mul_assoc,Nat.mul_comm 256]
def yS :nv []=0:=rfl
def uZ (c:UInt8)(l:List UInt8):nv (c::l)=c.toNat*256^l.length+nv l:=by
 show El (0*256+c.toNat) l=_
 rw[atL];simp
def Nh (a b:List UInt8):nv (a++b)=nv a*256^b.length+nv b:=by
 induction a with
 |nil=>simp[yS]
 |cons c a ih=>rw[List.cons_append,uZ,uZ,ih,List.length_append,Nat.pow_add,Nat.add_mul,Nat.add_assoc,Nat.mul_assoc]
def ib (l:List UInt8):nv l<256^l.length:=by
 induction l with
 |nil=>simp[yS]
 | cons c l ih=>
   rw[uZ,List.length_cons,Nat.pow_succ];have hc:c.toNat<=255:=by have:=c.toNat_lt;omega
   have:=Nat.mul_le_mul_right (256^l.length) hc;omega
def yR :Nat->Nat->List UInt8
 |0,_=>[]
 |f+1,n=>if n=0 then[]else yR f (n/256)++[UInt8.ofNat (n%256)]
def nt (n:Nat):List UInt8:=yR n n
def atH (f g n:Nat)(hf:n<=f)(hg:n<=g):yR f n=yR g n:=by
 induction f generalizing g n with
 | zero => obtain rfl:n=0:=by omega
           cases g<;>simp[yR]
 | succ f ih=>
   cases g with
   | zero => obtain rfl:n=0:=by omega
             simp[yR]
   | succ g=>
     simp only[yR];split
     . rfl
     . rw[ih g (n/256) (by omega) (by omega)]
def BD :nt 0=[]:=rfl
def IP {n:Nat}(h:0<n):nt n=nt (n/256)++[UInt8.ofNat (n%256)]:=by unfold nt;obtain⟨m,rfl⟩:∃m,n=m+1:=⟨n-1,by omega⟩;rw[yR,if_neg (by omega),atH m ((m+1)/256) _ (by omega) (by omega)]
def KV (n:Nat):(UInt8.ofNat (n%256)).toNat=n%256:=by simp[UInt8.toNat_ofNat']
def ji (n:Nat):nv (nt n)=n:=by
 induction n using Nat.strongRecOn with
 | _ n ih=>
   rcases Nat.eq_zero_or_pos n with h|h
   . subst h;rfl
   . rw[IP h,Nh,ih (n/256) (by omega),uZ,KV];simp[yS];omega
def Ng {n:Nat}(h:0<n):nt n≠[]:=by rw[IP h];simp
def avl {α:Type}{P:List α->Prop}(h0:P [])(h1:∀l c,P l->P (l++[c]))(l:List α):P l:=by
 have:∀m:List α,P m.reverse:=by
  intro m;induction m with
  |nil=>exact h0
  |cons a m ih=>rw[List.reverse_cons];exact h1 _ _ ih
 have:=this l.reverse;rwa [List.reverse_reverse]at this
def afc (l:List UInt8)(h:∀c,l.head?=some c->c≠0):nt (nv l)=l:=by
 revert h;refine avl (P:=λl=>(∀c,l.head?=some c->c≠0)->nt (nv l)=l) ?_ ?_ l
 . intro _;rfl
 . intro l c ih h;have hv:nv (l++[c])=nv l*256+c.toNat:=by rw[Nh,uZ];simp[yS]
   have hc:=c.toNat_lt;have hl:∀a,l.head?=some a->a≠0:=by
    intro a ha;apply h;cases l with
    |nil=>simp at ha
    |cons x y=>simpa using ha
   have hpos:0<nv (l++[c]):=by
    rw[hv];cases l with
    |nil=>have:=h c (by simp);have:c.toNat≠0:=λh0=>this (UInt8.toNat_inj.1 (by simpa using h0));omega
    |cons x y=>have hx:=h x (by simp);have:x.toNat≠0:=λh0=>hx (UInt8.toNat_inj.1 (by simpa using h0));have h1:1*256^y.length<=x.toNat*256^y.length:=Nat.mul_le_mul_right _ (by omega);have h2:0<256^y.length:=Nat.pow_pos (by decide);rw[uZ];omega
   rw[IP hpos,hv,show(nv l*256+c.toNat)/256=nv l by omega,show(nv l*256+c.toNat)%256=c.toNat by omega,ih hl];simp
def ky {n k:Nat}(h:n<256^k):(nt n).length<=k:=by
 induction k generalizing n with
 | zero => obtain rfl:n=0:=by simpa using h
           simp[BD]
 | succ k ih=>
   rcases Nat.eq_zero_or_pos n with h0|h0
   . subst h0;simp[BD]
   . rw[IP h0,List.length_append,List.length_singleton];have:=ih (n:=n/256) (by rw[Nat.div_lt_iff_lt_mul (by decide)];rwa [Nat.pow_succ]at h);omega
def asF (n:Nat):n<256^(nt n).length:=by have:=ib (nt n);rwa [ji]at this
def Uy (n:Nat):nt n=[]↔n=0:=by
 constructor
 . intro h;rcases Nat.eq_zero_or_pos n with h0|h0
   . exact h0
   . exact absurd h (Ng h0)
 . intro h;subst h;rfl
def atO (l:List UInt8)(k:Nat)(hk:k<l.length):
 nv (l.drop (l.length-1-k))=nv (l.drop (l.length-k))+l[l.length-1-k].toNat*256^k:=by
 rw[List.drop_eq_getElem_cons (show l.length-1-k<l.length by omega),uZ,Nat.add_comm];rw[show l.length-1-k+1=l.length-k by omega,List.length_drop,show l.length-(l.length-k)=k by omega]
def Lg (V D q j:Nat)(h:V/WW^q+D<WW):dg (V+D*WW^q) j=if j=q then dg V q+D else dg V j:=by
 have hW:=jG;have e:(V+D*WW^q)/WW^q=V/WW^q+D:=by rw[Nat.mul_comm,Nat.add_mul_div_left _ _ (dU q)]
 rcases Nat.lt_trichotomy j q with hj|hj|hj
 . rw[if_neg (by omega)];obtain⟨d,rfl⟩:∃d,q=j+1+d:=⟨q-j-1,by omega⟩;unfold dg;rw[show D*WW^(j+1+d)=WW^j* (WW* (D*WW^d))by rw[Nat.pow_add,Nat.pow_succ];simp only[Nat.mul_comm,Nat.mul_left_comm,Nat.mul_assoc]];rw[Nat.add_mul_div_left _ _ (dU j),Nat.add_mul_mod_self_left]
 . subst hj;rw[if_pos rfl];unfold dg;rw[e,Nat.mod_eq_of_lt h,Nat.mod_eq_of_lt (by omega)]
 . rw[if_neg (by omega)];have h1:V+D*WW^q<WW^(q+1):=by rw[Nat.pow_succ,Nat.mul_comm (WW^q)];exact(Nat.div_lt_iff_lt_mul (dU q)).1 (by rw[e];exact h)
   have h2:V<WW^(q+1):=by omega
   rw[uH h1 (by omega),uH h2 (by omega)]
def aub {X C i:Nat}(h:X<2^i):X|||C*2^i=X+C*2^i:=by rw[Nat.mul_comm C,Nat.or_comm,<-Nat.two_pow_add_eq_or_of_lt h,Nat.add_comm]
def UR (k:Nat):256^k=WW^(k/8) *2^(k%8*8):=by rw[ma,<-Nat.pow_add,show(256:Nat)=2^8 by rfl,<-Nat.pow_mul];congr 1;omega
def amt (V C k:Nat)(hV:V<256^k)(hC:C<256):
 dg V (k/8)<2^(k%8*8)/\C*2^(k%8*8)<WW/\∀j,dg (V+C*256^k) j=if j=k/8 then dg V (k/8)+C*2^(k%8*8)else dg V j:=by
 have h1:V/WW^(k/8)<2^(k%8*8):=by rw[UR]at hV;rw[Nat.div_lt_iff_lt_mul (dU _),Nat.mul_comm];exact hV
 have h2:2^(k%8*8) *256<=WW:=by rw[show(256:Nat)=2^8 by rfl,<-Nat.pow_add,lW];exact Nat.pow_le_pow_right (by decide) (by omega)
 have h3:C*2^(k%8*8)+2^(k%8*8)<=2^(k%8*8) *256:=by have:2^(k%8*8) * (C+1)<=2^(k%8*8) *256:=Nat.mul_le_mul_left _ (by omega);rw[Nat.mul_add,Nat.mul_comm]at this;omega
 have h4:dg V (k/8)=V/WW^(k/8):=by unfold dg;exact Nat.mod_eq_of_lt (by omega)
 refine⟨by rw[h4];exact h1,by have:=Nat.pow_pos (n:=k%8*8) (show 0<2 by decide);omega,λj=>?_⟩;rw[UR,Nat.mul_comm (WW^(k/8)),<-Nat.mul_assoc];exact Lg V _ (k/8) j (by omega)
def anR (u r i:Nat)(hr:r<64):dg (u/2^r) i=dg u i/2^r+dg u (i+1) *2^(64-r)%WW:=by
 unfold dg;have Bd:2^r*2^(64-r)=WW:=by rw[<-Nat.pow_add,lW];congr 1;omega
 have hp:=Nat.pow_pos (n:=r) (show 0<2 by decide);have hq:=Nat.pow_pos (n:=64-r) (show 0<2 by decide);rw[Nat.div_div_eq_div_mul,Nat.mul_comm (2^r),<-Nat.div_div_eq_div_mul,Nat.pow_succ,<-Nat.div_div_eq_div_mul];generalize u/WW^i=x;rw[show x/WW%WW*2^(64-r)%WW=(x/WW) *2^(64-r)%WW by rw[Nat.mul_mod,Nat.mod_mod,<-Nat.mul_mod]];have e:x=x%WW+WW* (x/WW):=(Nat.mod_add_div x WW).symm;have hx:=Nat.mod_lt x jG;generalize x%WW=a at*;generalize x/WW=y at*;subst e;rw[<-Bd]at hx⊢;generalize 2^r=p at*;generalize 2^(64-r)=q at*;rw[Nat.mul_assoc,Nat.add_mul_div_left _ _ hp];have ha:a/p<q:=by rw[Nat.div_lt_iff_lt_mul hp,Nat.mul_comm];exact hx
 -- (a/p + q*y) % (p*q) = a/p + (y*q) % (p*q)
 rw[Nat.mul_comm p q,Nat.mod_mul,Nat.add_mul_mod_self_left,Nat.mod_eq_of_lt ha,Nat.add_mul_div_left _ _ hq,Nat.div_eq_of_lt ha,Nat.zero_add];rw[Nat.mul_comm y q,Nat.mod_mul,Nat.mul_mod_right,Nat.mul_div_cancel_left _ hq,Nat.zero_add]
def agF (d r:Nat)(hd:d<WW)(hr:r<64):∃c,d*2^r%WW=c*2^r/\d*2^r/WW=d/2^(64-r)/\d/2^(64-r)<2^r/\c*2^r+2^r<=WW/\d*2^r=c*2^r+WW* (d/2^(64-r)):=by
 have Bd:2^(64-r) *2^r=WW:=by rw[<-Nat.pow_add,lW];congr 1;omega
 have hp:=Nat.pow_pos (n:=r) (show 0<2 by decide);have hq:=Nat.pow_pos (n:=64-r) (show 0<2 by decide);rw[<-Bd]at hd⊢;generalize 2^r=p at*;generalize 2^(64-r)=q at*;refine⟨d%q,?_,?_,?_,?_,?_⟩
 . rw[Nat.mul_mod_mul_right]
 . rw[Nat.mul_div_mul_right _ _ hp]
 . rw[Nat.div_lt_iff_lt_mul hq,Nat.mul_comm];exact hd
 . have:=Nat.mod_lt d hq;have:(d%q+1) *p<=q*p:=Nat.mul_le_mul_right _ this;rw[Nat.add_mul]at this;omega
 . have e:=(Nat.mod_add_div d q).symm;conv=>lhs;rw[e]
   rw[Nat.add_mul,Nat.mul_assoc,Nat.mul_assoc,Nat.mul_comm (d/q)]
def aw7 (v n i:Nat):∃c,c*2^(n%64)=dg v i*2^(n%64)%WW/\dg (v%WW^i*2^n) (i+n/64)<2^(n%64)/\c*2^(n%64)+2^(n%64)<=WW/\
 dg (v%WW^i*2^n) (i+n/64+1)=0/\dg v i/2^(64-n%64)<WW/\
 ∀j,dg (v%WW^(i+1) *2^n) j=if j=i+n/64+1 then dg v i/2^(64-n%64)else if j=i+n/64 then dg (v%WW^i*2^n) (i+n/64)+c*2^(n%64)else dg (v%WW^i*2^n) j:=by
 have hr:n%64<64:=Nat.mod_lt _ (by decide);obtain⟨c,h1,h2,h3,h4,h5⟩:=agF (dg v i) (n%64) (jK v i) hr;have hn:2^n=2^(n%64) *WW^(n/64):=by rw[ma,<-Nat.pow_add];congr 1;omega
 have hv:=Nat.mod_lt v (dU i);have hp:=Nat.pow_pos (n:=n%64) (show 0<2 by decide);have hpW:2^(n%64)<=WW:=by rw[lW];exact Nat.pow_le_pow_right (by decide) (by omega)
 refine⟨c,h1.symm,?_⟩;have eA:v%WW^(i+1) *2^n=v%WW^i*2^n+c*2^(n%64) *WW^(i+n/64)+dg v i/2^(64-n%64) *WW^(i+n/64+1):=by
  have h6:dg v i*2^(n%64) *WW^(i+n/64)=(c*2^(n%64)+WW* (dg v i/2^(64-n%64))) *WW^(i+n/64):=by rw[h5]
  rw[Br,hn];rw[Nat.pow_succ WW (i+n/64)];rw[Nat.add_mul]at h6;rw[Nat.add_mul,Nat.add_assoc];congr 1;rw[Nat.pow_add WW i]at*;have e1:WW^i*dg v i* (2^(n%64) *WW^(n/64))=dg v i*2^(n%64) * (WW^i*WW^(n/64)):=by simp only[Nat.mul_comm,Nat.mul_left_comm,Nat.mul_assoc]
  rw[e1,h6];congr 1;simp only[Nat.mul_comm,Nat.mul_left_comm,Nat.mul_assoc]
 have apX:v%WW^i*2^n/WW^(i+n/64)<2^(n%64):=by rw[Nat.div_lt_iff_lt_mul (dU _),hn,Nat.pow_add,<-Nat.mul_assoc,<-Nat.mul_assoc,Nat.mul_comm (2^(n%64))];exact Nat.mul_lt_mul_of_pos_right (Nat.mul_lt_mul_of_pos_right hv hp) (dU _)
 have aqt:dg (v%WW^i*2^n) (i+n/64)=v%WW^i*2^n/WW^(i+n/64):=by unfold dg;exact Nat.mod_eq_of_lt (by omega)
 have hVW:v%WW^i*2^n<WW^(i+n/64+1):=by rw[Nat.pow_succ,Nat.mul_comm (WW^_)];exact(Nat.div_lt_iff_lt_mul (dU _)).1 (by omega)
 have hd1:dg (v%WW^i*2^n) (i+n/64+1)=0:=uH hVW (Nat.le_refl _);have hhi:dg v i/2^(64-n%64)<WW:=by omega
 refine⟨by rw[aqt];exact apX,h4,hd1,hhi,λj=>?_⟩;have hV2:v%WW^i*2^n+c*2^(n%64) *WW^(i+n/64)<WW^(i+n/64+1):=by rw[Nat.pow_succ,Nat.mul_comm (WW^(i+n/64)) WW];refine(Nat.div_lt_iff_lt_mul (dU _)).1 ?_;rw[Nat.mul_comm (c*2^(n%64)),Nat.add_mul_div_left _ _ (dU _)];omega
 rw[eA,Lg _ _ (i+n/64+1) j (by rw[Nat.div_eq_of_lt hV2];omega)];rw[Lg _ (c*2^(n%64)) (i+n/64) _ (by omega),Lg _ (c*2^(n%64)) (i+n/64) _ (by omega)];by_cases hj:j=i+n/64+1
 . rw[if_pos hj,if_pos hj,if_neg (by omega),hd1,Nat.zero_add]
 . rw[if_neg hj,if_neg hj]
def dK (n:Nat)(f:Nat->Nat->Dyadic):Dyadic:=match n with
 |0=>1
 |1=>f 0 0
 |2=>f 0 0*f 1 1-f 0 1*f 1 0
 |3=>f 0 0* (f 1 1*f 2 2-f 1 2*f 2 1)-f 0 1* (f 1 0*f 2 2-f 1 2*f 2 0)+f 0 2* (f 1 0*f 2 1-f 1 1*f 2 0)
 | 4=>f 0 0* (f 1 1* (f 2 2*f 3 3-f 2 3*f 3 2)-f 1 2* (f 2 1*f 3 3-f 2 3*f 3 1)+f 1 3* (f 2 1*f 3 2-f 2 2*f 3 1))
   -f 0 1* (f 1 0* (f 2 2*f 3 3-f 2 3*f 3 2)-f 1 2* (f 2 0*f 3 3-f 2 3*f 3 0)+f 1 3* (f 2 0*f 3 2-f 2 2*f 3 0))
   +f 0 2* (f 1 0* (f 2 1*f 3 3-f 2 3*f 3 1)-f 1 1* (f 2 0*f 3 3-f 2 3*f 3 0)+f 1 3* (f 2 0*f 3 1-f 2 1*f 3 0))
   -f 0 3* (f 1 0* (f 2 1*f 3 2-f 2 2*f 3 1)-f 1 1* (f 2 0*f 3 2-f 2 2*f 3 0)+f 1 2* (f 2 0*f 3 1-f 2 1*f 3 0))
 |_=>0
def bM (n:Nat)(p:Nat->Nat->Dyadic):Dyadic:=dK n λa b=>p (a+1) b-p 0 b
def CX (n:Nat)(p:Nat->Nat->Dyadic):bM n p=dK n λa b=>p (a+1) b-p 0 b:=rfl
def bI (p:Nat->Nat->Dyadic)(v:Nat)(x:Nat->Dyadic):Nat->Nat->Dyadic:=λa b=>if a=v then x b else p a b
def yP (p:Nat->Nat->Dyadic)(h:Dyadic)(i j v:Nat):Nat->Nat->Dyadic:=λa b=>if a=v then(p i b+p j b) *h else p a b
def Ur (p:Nat->Nat->Dyadic)(h:Dyadic)(i j v:Nat):yP p h i j v=bI p v λb=>(p i b+p j b) *h:=rfl
def zr (p:Nat->Nat->Dyadic)(v:Nat):bI p v (p v)=p:=by
 funext a b;unfold bI;split
 . rename_i h;rw[h]
 . rfl
def Jn (p:Nat->Nat->Dyadic)(i j:Nat)(x y:Nat->Dyadic)(h:i≠j):bI (bI p i x) j y=bI (bI p j y) i x:=by
 funext a b;unfold bI
 by_cases h1:a=j
 . rw[if_pos h1,if_neg (by omega),if_pos h1]
 . rw[if_neg h1];by_cases h2:a=i
   . rw[if_pos h2,if_pos h2]
   . rw[if_neg h2,if_neg h2,if_neg h1]
def aw4 (p:Nat->Nat->Dyadic)(i:Nat)(x y:Nat->Dyadic):bI (bI p i x) i y=bI p i y:=by
 funext a b;unfold bI
 by_cases h1:a=i
 . rw[if_pos h1,if_pos h1]
 . rw[if_neg h1,if_neg h1,if_neg h1]
def aw3 (p:Nat->Nat->Dyadic)(i k:Nat)(x:Nat->Dyadic)(h:k≠i):bI p i x k=p k:=by funext b;unfold bI;rw[if_neg h]
def aoh (p:Nat->Nat->Dyadic)(h:Dyadic)(hh:h+h=1)(v:Nat)(hv:v<=1)(x y:Nat->Dyadic):bM 1 (bI p v λb=>(x b+y b) *h)=(bM 1 (bI p v x)+bM 1 (bI p v y)) *h:=by
 have hc:v=0\/v=1:=by omega
 rcases hc with rfl|rfl<;>(simp[bM,dK,bI];grind)
def aoi (p:Nat->Nat->Dyadic)(h:Dyadic)(hh:h+h=1)(v:Nat)(hv:v<=2)(x y:Nat->Dyadic):bM 2 (bI p v λb=>(x b+y b) *h)=(bM 2 (bI p v x)+bM 2 (bI p v y)) *h:=by
 have hc:v=0\/v=1\/v=2:=by omega
 rcases hc with rfl|rfl|rfl<;>(simp[bM,dK,bI];grind)
def aoj (p:Nat->Nat->Dyadic)(h:Dyadic)(hh:h+h=1)(v:Nat)(hv:v<=3)(x y:Nat->Dyadic):bM 3 (bI p v λb=>(x b+y b) *h)=(bM 3 (bI p v x)+bM 3 (bI p v y)) *h:=by
 have hc:v=0\/v=1\/v=2\/v=3:=by omega
 rcases hc with rfl|rfl|rfl|rfl<;>(simp[bM,dK,bI];grind)
def aok (p:Nat->Nat->Dyadic)(h:Dyadic)(hh:h+h=1)(v:Nat)(hv:v<=4)(x y:Nat->Dyadic):bM 4 (bI p v λb=>(x b+y b) *h)=(bM 4 (bI p v x)+bM 4 (bI p v y)) *h:=by
 have hc:v=0\/v=1\/v=2\/v=3\/v=4:=by omega
 rcases hc with rfl|rfl|rfl|rfl|rfl<;>(simp[bM,dK,bI];grind)
def aol (p:Nat->Nat->Dyadic)(i j:Nat)(hij:i<j)(hj:j<=1)(x y:Nat->Dyadic):bM 1 (bI (bI p i x) j y)= -bM 1 (bI (bI p i y) j x):=by
 have hc:(i=0/\j=1):=by omega
 rcases hc with⟨rfl,rfl⟩<;>(simp[bM,dK,bI];grind)
def aom (p:Nat->Nat->Dyadic)(i j:Nat)(hij:i<j)(hj:j<=2)(x y:Nat->Dyadic):bM 2 (bI (bI p i x) j y)= -bM 2 (bI (bI p i y) j x):=by
 have hc:(i=0/\j=1)\/(i=0/\j=2)\/(i=1/\j=2):=by omega
 rcases hc with⟨rfl,rfl⟩ |⟨rfl,rfl⟩ |⟨rfl,rfl⟩<;>(simp[bM,dK,bI];grind)
def aon (p:Nat->Nat->Dyadic)(i j:Nat)(hij:i<j)(hj:j<=3)(x y:Nat->Dyadic):bM 3 (bI (bI p i x) j y)= -bM 3 (bI (bI p i y) j x):=by
 have hc:(i=0/\j=1)\/(i=0/\j=2)\/(i=0/\j=3)\/(i=1/\j=2)\/(i=1/\j=3)\/(i=2/\j=3):=by omega
 rcases hc with⟨rfl,rfl⟩ |⟨rfl,rfl⟩ |⟨rfl,rfl⟩ |⟨rfl,rfl⟩ |⟨rfl,rfl⟩ |⟨rfl,rfl⟩<;>(simp[bM,dK,bI];grind)
def aoo (p:Nat->Nat->Dyadic)(i j:Nat)(hij:i<j)(hj:j<=4)(x y:Nat->Dyadic):bM 4 (bI (bI p i x) j y)= -bM 4 (bI (bI p i y) j x):=by
 have hc:(i=0/\j=1)\/(i=0/\j=2)\/(i=0/\j=3)\/(i=0/\j=4)\/(i=1/\j=2)\/(i=1/\j=3)\/(i=1/\j=4)\/(i=2/\j=3)\/(i=2/\j=4)\/(i=3/\j=4):=by omega
 rcases hc with⟨rfl,rfl⟩ |⟨rfl,rfl⟩ |⟨rfl,rfl⟩ |⟨rfl,rfl⟩ |⟨rfl,rfl⟩ |⟨rfl,rfl⟩ |⟨rfl,rfl⟩ |⟨rfl,rfl⟩ |⟨rfl,rfl⟩ |⟨rfl,rfl⟩<;>(simp[bM,dK,bI];grind)
def Lp (n:Nat)(hn:1<=n)(aZ:n<=4)(p:Nat->Nat->Dyadic)(h:Dyadic)(hh:h+h=1)(v:Nat)(hv:v<=n)(x y:Nat->Dyadic):bM n (bI p v λb=>(x b+y b) *h)=(bM n (bI p v x)+bM n (bI p v y)) *h:=by
 have hc:n=1\/n=2\/n=3\/n=4:=by omega
 rcases hc with rfl|rfl|rfl|rfl
 . exact aoh p h hh v hv x y
 . exact aoi p h hh v hv x y
 . exact aoj p h hh v hv x y
 . exact aok p h hh v hv x y
def ZT (n:Nat)(hn:1<=n)(aZ:n<=4)(p:Nat->Nat->Dyadic)(i j:Nat)(hij:i≠j)(hi:i<=n)(hj:j<=n)(x y:Nat->Dyadic):bM n (bI (bI p i x) j y)= -bM n (bI (bI p i y) j x):=by
 have h1:∀i j x y,i<j->j<=n->bM n (bI (bI p i x) j y)= -bM n (bI (bI p i y) j x):=by
  intro i j x y h1 h2;have hc:n=1\/n=2\/n=3\/n=4:=by omega
  rcases hc with rfl|rfl|rfl|rfl
  . exact aol p i j h1 h2 x y
  . exact aom p i j h1 h2 x y
  . exact aon p i j h1 h2 x y
  . exact aoo p i j h1 h2 x y
 rcases Nat.lt_or_gt_of_ne hij with h2|h2
 . exact h1 i j x y h2 hj
 . rw[Jn p i j x y hij,Jn p i j y x hij];exact h1 j i y x h2 hi
def aog (n:Nat)(hn:1<=n)(aZ:n<=4)(p:Nat->Nat->Dyadic)(i j:Nat)(hij:i≠j)(hi:i<=n)(hj:j<=n)(x:Nat->Dyadic):bM n (bI (bI p i x) j x)=0:=by have:=ZT n hn aZ p i j hij hi hj x x;grind
def Ga (n:Nat)(hn:1<=n)(aZ:n<=4)(p:Nat->Nat->Dyadic)(i j:Nat)(hij:i≠j)(hi:i<=n)(hj:j<=n):bM n (bI p j (p i))=0:=by have:=aog n hn aZ p i j hij hi hj (p i);rwa [zr]at this
def aqd (n:Nat)(hn:1<=n)(aZ:n<=4)(p:Nat->Nat->Dyadic)(h:Dyadic)(hh:h+h=1)(i j v:Nat)(hij:i<j)(hj:j<=n)(hv:v=i\/v=j):bM n (yP p h i j v)=bM n p*h:=by
 rw[Ur,Lp n hn aZ p h hh v (by omega) (p i) (p j)];rcases hv with rfl|rfl
 . rw[zr,Ga n hn aZ p j v (by omega) hj (by omega)];grind
 . rw[zr,Ga n hn aZ p i v (by omega) (by omega) hj];grind
def qN (f:Nat->Nat->Int)(n k:Nat):Option Nat:=(List.range (n-k)).find? λi=>f (k+i) k !=0
def bV (f:Nat->Nat->Int)(k m:Nat):Nat->Nat->Int:=λa b=>f (if a=k then m else if a=m then k else a) b
def cd (g:Nat->Nat->Int)(k a b:Nat):Int:=g a b*g k k-g a k*g k b
def dH (g:Nat->Nat->Int)(k:Nat)(last:Int):Nat->Nat->Int:=λa b=>if k<a/\k<b then cd g k a b/last else g a b
def eX (n:Nat):Nat->Nat->(Nat->Nat->Int)->Int->Bool->Int
 |0,_,_,last,turned=>if turned then-last else last
 | l+1,k,f,last,turned=>match qN f n k with
   |none=>0
   |some m=>eX n l (k+1) (dH (bV f k (k+m)) k last) (bV f k (k+m) k k) (turned !=decide (0<m))
def gH (n:Nat):Nat->Nat->(Nat->Nat->Int)->Int->Prop
 |0,_,_,_=>True
 | l+1,k,f,last=>match qN f n k with
   |none=>True
   |some m=>(∀a b,k<a->a<n->k<b->b<n->last∣cd (bV f k (k+m)) k a b)/\gH n l (k+1) (dH (bV f k (k+m)) k last) (bV f k (k+m) k k)
def mQ {f:Nat->Nat->Int}{n k m:Nat}(h:qN f n k=some m):k+m<n/\f (k+m) k≠0:=by unfold qN at h;have h1:=List.find?_some h;have h2:=List.mem_of_find?_eq_some h;rw[List.mem_range]at h2;refine⟨by omega,?_⟩;simpa using h1
def nK {f:Nat->Nat->Int}{n k:Nat}(h:qN f n k=none):∀a,k<=a->a<n->f a k=0:=by intro a h1 h2;unfold qN at h;rw[List.find?_eq_none]at h;have:=h (a-k) (by rw[List.mem_range];omega);rw[show k+(a-k)=a by omega]at this;simpa using this
def Ap (f:Nat->Nat->Int):Int:=f 0 0*f 1 1-f 0 1*f 1 0
def iK (f:Nat->Nat->Int):Int:=f 0 0* (f 1 1*f 2 2-f 1 2*f 2 1)-f 0 1* (f 1 0*f 2 2-f 1 2*f 2 0)+f 0 2* (f 1 0*f 2 1-f 1 1*f 2 0)
def alA (f:Nat->Nat->Int):eX 1 1 0 f 1 false=f 0 0:=by
 unfold eX;split
 . rename_i h
   exact(nK h 0 (by omega) (by omega)).symm
 . rename_i m h
   have:=mQ h;obtain rfl:m=0:=by omega
   simp[eX,bV]
def alB (f:Nat->Nat->Int):eX 2 2 0 f 1 false=Ap f:=by
 unfold eX;split
 . rename_i h
   have h0:=nK h 0 (by omega) (by omega);have h1:=nK h 1 (by omega) (by omega);simp[Ap,h0,h1]
 . rename_i m h
   have hm:=mQ h;unfold eX;split
   . rename_i h2
     have h1:=nK h2 1 (by omega) (by omega);obtain rfl|rfl:m=0\/m=1:=by omega
     . simp[dH,cd,bV]at h1;simp[Ap];grind
     . simp[dH,cd,bV]at h1;simp[Ap];grind
   . rename_i m2 h2
     have hm2:=mQ h2;obtain rfl:m2=0:=by omega
     obtain rfl|rfl:m=0\/m=1:=by omega
     . simp[eX,dH,cd,bV,Ap];grind
     . simp[eX,dH,cd,bV,Ap];grind
def anL (f:Nat->Nat->Int)(m:Nat)(hm:m<3):iK (bV f 0 m)=if 0<m then-iK f else iK f:=by
 obtain rfl|rfl|rfl:m=0\/m=1\/m=2:=by omega
 . simp[iK,bV]
 . simp[iK,bV];grind
 . simp[iK,bV];grind
def afd (g:Nat->Nat->Int)(m:Nat)(hm:m<2):cd (bV (dH g 0 1) 1 (1+m)) 1 2 2=g 0 0* (if 0<m then-iK g else iK g):=by
 obtain rfl|rfl:m=0\/m=1:=by omega
 . simp[cd,dH,bV,iK];grind
 . simp[cd,dH,bV,iK];grind
def aup (g:Nat->Nat->Int)(h0:g 0 0≠0)(h:∀a,1<=a->a<3->dH g 0 1 a 1=0):iK g=0:=by
 have h1:=h 1 (by omega) (by omega);have h2:=h 2 (by omega) (by omega);simp only[dH,cd]at h1 h2;rw[if_pos (by omega),Int.ediv_one]at h1 h2;have e:g 0 0*iK g=0:=by
  have e1:g 0 0* (g 0 0*iK g)=(g 1 1*g 0 0-g 1 0*g 0 1) * (g 2 2*g 0 0-g 2 0*g 0 2)-(g 1 2*g 0 0-g 1 0*g 0 2) * (g 2 1*g 0 0-g 2 0*g 0 1):=by unfold iK;grind
  rw[h1,h2,Int.zero_mul,Int.mul_zero,Int.sub_zero]at e1;rcases Int.mul_eq_zero.1 e1 with e2|e2
  . exact absurd e2 h0
  . exact e2
 rcases Int.mul_eq_zero.1 e with e2|e2
 . exact absurd e2 h0
 . exact e2
def alD (g:Nat->Nat->Int)(t:Bool)(h0:g 0 0≠0):eX 3 2 1 (dH g 0 1) (g 0 0) t=if t then-iK g else iK g:=by
 unfold eX;split
 . rename_i h
   have:=aup g h0 (nK h);simp[this]
 . rename_i m h
   have hm:=mQ h;have hn:=afd g m (by omega);unfold eX;split
   . rename_i h2
     have h3:=nK h2 2 (by omega) (by omega);have h4:cd (bV (dH g 0 1) 1 (1+m)) 1 2 2/g 0 0=0:=by simpa[dH]using h3
     rw[hn,Int.mul_ediv_cancel_left _ h0]at h4;split at h4<;>simp_all<;>omega
   . rename_i m2 h2
     have hm2:=mQ h2;obtain rfl:m2=0:=by omega
     have h4:bV (dH (bV (dH g 0 1) 1 (1+m)) 1 (g 0 0)) 2 (2+0) 2 2=if 0<m then-iK g else iK g:=by rw[<-Int.mul_ediv_cancel_left (if 0<m then-iK g else iK g) h0,<-hn];simp[bV,dH]
     simp only[eX];show(if((t !=decide (0<m)) !=decide (0<0))=true then-_ else _)=_
     rw[h4];by_cases hm0:0<m<;>cases t<;>simp[hm0]
def alC (f:Nat->Nat->Int):eX 3 3 0 f 1 false=iK f:=by
 unfold eX;split
 . rename_i h
   have h0:=nK h 0 (by omega) (by omega);have h1:=nK h 1 (by omega) (by omega);have h2:=nK h 2 (by omega) (by omega);simp[iK,h0,h1,h2]
 . rename_i m h
   have hm:=mQ h;have hs:=anL f m (by omega);simp only[Nat.zero_add]at hm⊢;have hp:bV f 0 m 0 0≠0:=by simpa[bV]using hm.2
   rw[alD (bV f 0 m) _ hp,hs];by_cases hm0:0<m<;>simp[hm0]
def aoJ (f:Nat->Nat->Int):gH 1 1 0 f 1:=by
 unfold gH;split
 . trivial
 . exact⟨λa b h1 h2=>by omega,by unfold gH;trivial⟩
def aoK (f:Nat->Nat->Int):gH 2 2 0 f 1:=by
 unfold gH;split
 . trivial
 . refine⟨λa b _ _ _ _=>Int.one_dvd _,?_⟩;unfold gH;split
   . trivial
   . exact⟨λa b h1 h2=>by omega,by unfold gH;trivial⟩
def aoL (f:Nat->Nat->Int):gH 3 3 0 f 1:=by
 unfold gH;split
 . trivial
 . refine⟨λa b _ _ _ _=>Int.one_dvd _,?_⟩;unfold gH;split
   . trivial
   . rename_i m2 h2
     have hm2:=mQ h2;refine⟨λa b h1 h2 h3 h4=>?_,?_⟩
     . obtain rfl:a=2:=by omega
       obtain rfl:b=2:=by omega
       rw[afd _ m2 (by omega)];exact Int.dvd_mul_right _ _
     . unfold gH;split
       . trivial
       . exact⟨λa b h1 h2=>by omega,by unfold gH;trivial⟩
def ZN (h n1 n0 u1:Nat)(h1:2147483648<=n1)(h2:n1<4294967296)(h0:n0<4294967296)(hh:h<n1*4294967296+n0)(hu:u1<4294967296):
 (h*4294967296+u1)/(n1*4294967296+n0)<=h/n1/\h/n1<=4294967297/\h/n1*n1+h%n1=h/\h%n1<4294967296:=by
 have hd:=Nat.div_add_mod h n1;have hm:=Nat.mod_lt h (show 0<n1 by omega);generalize h%n1=m at*;generalize hq:h/n1=q at*;have e:(n1*4294967296+n0) * (q+1)=n1*q*4294967296+n1*4294967296+n0* (q+1):=by grind
 have e2:q*n1=n1*q:=Nat.mul_comm _ _;refine⟨?_,?_,by omega,by omega⟩
 . have:(h*4294967296+u1)/(n1*4294967296+n0)<q+1:=by refine Nat.div_lt_of_lt_mul ?_;rw[e];generalize n0* (q+1)=z;generalize n1*q=P at*;omega
   omega
 . rcases Nat.lt_or_ge q 4294967298 with h3|h3
   . omega
   . have:n1*4294967298<=n1*q:=Nat.mul_le_mul_left _ h3;omega
def ZO (q r h n1 n0:Nat)(hJ:q*n1+r=h):q* (n1*4294967296+n0)+r*4294967296=h*4294967296+q*n0:=by subst hJ;grind
def FZ (q r h n1 n0 u1:Nat)(hy:0<n1)(hJ:q*n1+r=h)(hq:(h*4294967296+u1)/(n1*4294967296+n0)<=q)(hc:q*n0<=4294967296*r+u1):
 (h*4294967296+u1)/(n1*4294967296+n0)=q:=by
 have e:=ZO q r h n1 n0 hJ;refine Nat.le_antisymm hq ((Nat.le_div_iff_mul_le (by omega)).2 ?_);generalize q* (n1*4294967296+n0)=a at*;generalize q*n0=b at*;omega
def Lj (q r h n1 n0 u1:Nat)(hy:0<n1)(h0:n0<4294967296)(hJ:q*n1+r=h)(hq:(h*4294967296+u1)/(n1*4294967296+n0)<=q)(hT:q<=4294967296)(hr:4294967296<=r):
 (h*4294967296+u1)/(n1*4294967296+n0)=q:=by
 refine FZ q r h n1 n0 u1 hy hJ hq ?_;have:q*n0<=4294967296*4294967295:=Nat.mul_le_mul hT (by omega);omega
def Ll (q r h n1 n0 u1:Nat)(hh:h<n1*4294967296+n0)(hu:u1<4294967296)(hJ:q*n1+r=h)(hq:(h*4294967296+u1)/(n1*4294967296+n0)<=q)(hc:4294967296<=q\/4294967296*r+u1<q*n0):
 0<q/\(q-1) *n1+(r+n1)=h/\(h*4294967296+u1)/(n1*4294967296+n0)<=q-1:=by
 have hq0:0<q:=by
  rcases Nat.eq_zero_or_pos q with h3|h3
  . subst h3;rcases hc with hc|hc
    . omega
    . rw[Nat.zero_mul]at hc;omega
  . exact h3
 obtain⟨k,rfl⟩:∃k,q=k+1:=⟨q-1,by omega⟩;have e:=ZO (k+1) r h n1 n0 hJ;refine⟨hq0,?_,?_⟩
 . rw[Nat.add_sub_cancel,<-hJ,Nat.add_mul,Nat.one_mul];omega
 . rw [Nat.add_sub_cancel];have:(h*4294967296+u1)/(n1*4294967296+n0)<k+1:=by
    refine Nat.div_lt_of_lt_mul ?_;rw[Nat.mul_comm (n1*4294967296+n0) (k+1)];rcases hc with hc|hc
    . have h3:4294967296* (n1*4294967296+n0)<=(k+1) * (n1*4294967296+n0):=Nat.mul_le_mul_right _ hc;generalize (k+1) * (n1*4294967296+n0)=a at*;omega
    . generalize (k+1) * (n1*4294967296+n0)=a at*;generalize (k+1) *n0=b at*;omega
   omega
def an1 (h u1 u0 y q1:Nat)(hy:0<y)(hq1:(h*4294967296+u1)/y=q1):
 (h*18446744073709551616+(u1*4294967296+u0))/y=q1*4294967296+((h*4294967296+u1)%y*4294967296+u0)/y:=by
 have hd:=Nat.div_add_mod (h*4294967296+u1) y;rw[hq1]at hd;have e:h*18446744073709551616+(u1*4294967296+u0)=((h*4294967296+u1)%y*4294967296+u0)+y* (q1*4294967296):=by
  have:y* (q1*4294967296)=y*q1*4294967296:=by grind
  rw[this];omega
 rw[e,Nat.add_mul_div_left _ _ hy];omega
def ZI (A low k j:Nat)(hl:low<WW^k):dg (A*WW^k+low) j=if j<k then dg low j else dg A (j-k):=by
 unfold dg;split
 . rename_i hj
   obtain⟨m,rfl⟩:∃m,k=j+1+m:=⟨k-(j+1),by omega⟩;have e:A*WW^(j+1+m)+low=low+WW^j* (WW* (A*WW^m)):=by rw[show j+1+m=j+(1+m)by omega,Nat.pow_add,Nat.pow_add,Nat.pow_one];grind
   rw[e,Nat.add_mul_div_left _ _ (dU j),Nat.add_mul_mod_self_left]
 . rename_i hj
   obtain⟨m,rfl⟩:∃m,j=k+m:=⟨j-k,by omega⟩;rw[Nat.add_sub_cancel_left,Nat.pow_add,<-Nat.div_div_eq_div_mul,Nat.add_comm,Nat.add_mul_div_right _ _ (dU k),Nat.div_eq_of_lt hl,Nat.zero_add]
def aps {P by' n:Nat}(hn:0<n)(hP:P<by'*WW)(hb1:0<dg by' (n-1))(Qo:by'<WW^n):P/by'<=(if dg P n<dg by' (n-1)then(dg P n*WW+dg P (n-1))/dg by' (n-1)else WW-1):=by
 obtain⟨k,rfl⟩:∃k,n=k+1:=⟨n-1,by omega⟩;rw[Nat.add_sub_cancel]at*;have hby:0<by':=by
  rcases Nat.eq_zero_or_pos by' with h|h
  . subst h;unfold dg at hb1;simp at hb1
  . exact h
 have hq:P/by'<WW:=Nat.div_lt_of_lt_mul hP;split
 . have tu:P<WW^(k+1+1):=by exact Nat.lt_trans hP (by rw[Nat.pow_succ];exact Nat.mul_lt_mul_of_pos_right Qo jG)
   have e1:P/WW^k=dg P (k+1) *WW+dg P k:=by unfold dg;have h1:P/WW^(k+1)%WW=P/WW^(k+1):=Nat.mod_eq_of_lt (by rw[Nat.div_lt_iff_lt_mul (dU _)];rw[Nat.pow_succ,Nat.mul_comm]at tu;exact tu);rw[h1,Nat.pow_succ,<-Nat.div_div_eq_div_mul,Nat.mul_comm];exact(Nat.div_add_mod _ _).symm
   have e2:by'/WW^k=dg by' k:=by unfold dg;exact(Nat.mod_eq_of_lt (by rw[Nat.div_lt_iff_lt_mul (dU _)];rw[Nat.pow_succ,Nat.mul_comm]at Qo;exact Qo)).symm
   rw[<-e1,<-e2];rw[<-e2]at hb1;refine(Nat.le_div_iff_mul_le hb1).2 ?_;refine(Nat.le_div_iff_mul_le (dU k)).2 ?_;have h3:by'/WW^k*WW^k<=by':=Nat.div_mul_le_self _ _;have h4:P/by'*by'<=P:=Nat.div_mul_le_self _ _;rw[Nat.mul_assoc];exact Nat.le_trans (Nat.mul_le_mul_left _ h3) h4
 . have:=jG;omega
def fg (f:Nat->Nat->Int):Int:=
 f 0 0* (f 1 1* (f 2 2*f 3 3-f 2 3*f 3 2)-f 1 2* (f 2 1*f 3 3-f 2 3*f 3 1)+f 1 3* (f 2 1*f 3 2-f 2 2*f 3 1))
 -f 0 1* (f 1 0* (f 2 2*f 3 3-f 2 3*f 3 2)-f 1 2* (f 2 0*f 3 3-f 2 3*f 3 0)+f 1 3* (f 2 0*f 3 2-f 2 2*f 3 0))
 +f 0 2* (f 1 0* (f 2 1*f 3 3-f 2 3*f 3 1)-f 1 1* (f 2 0*f 3 3-f 2 3*f 3 0)+f 1 3* (f 2 0*f 3 1-f 2 1*f 3 0))
 -f 0 3* (f 1 0* (f 2 1*f 3 2-f 2 2*f 3 1)-f 1 1* (f 2 0*f 3 2-f 2 2*f 3 0)+f 1 2* (f 2 0*f 3 1-f 2 1*f 3 0))
def yO (g:Nat->Nat->Int)(a b:Nat):Int:=g 0 0* (g 1 1*g a b-g 1 b*g a 1)-g 0 1* (g 1 0*g a b-g 1 b*g a 0)+g 0 b* (g 1 0*g a 1-g 1 1*g a 0)
def Vz (g:Nat->Nat->Int)(k r s:Nat)(last:Int)(hr:k<r)(hs:k<s):bV (dH g k last) r s=dH (bV g r s) k last:=by
 funext a b
 unfold bV dH cd;have e1:(k<if a=r then s else if a=s then r else a)↔k<a:=by
  by_cases h1:a=r
  . rw[if_pos h1];omega
  . rw[if_neg h1];by_cases h2:a=s
    . rw[if_pos h2];omega
    . rw[if_neg h2]
 have e2:(if k=r then s else if k=s then r else k)=k:=by rw[if_neg (by omega),if_neg (by omega)]
 simp only[e2];by_cases h:k<a/\k<b
 . rw[if_pos h,if_pos ⟨e1.2 h.1,h.2⟩]
 . rw[if_neg h,if_neg (λh2=>h ⟨e1.1 h2.1,h2.2⟩)]
def qO (g:Nat->Nat->Int)(k r s b:Nat)(hr:k<r)(hs:k<s):bV g r s k b=g k b:=by unfold bV;rw[if_neg (by omega),if_neg (by omega)]
def anM (f:Nat->Nat->Int)(m:Nat)(hm:m<4):fg (bV f 0 m)=if 0<m then-fg f else fg f:=by
 obtain rfl|rfl|rfl|rfl:m=0\/m=1\/m=2\/m=3:=by omega
 . simp[fg,bV]
 . simp[fg,bV];grind
 . simp[fg,bV];grind
 . simp[fg,bV];grind
def anN (f:Nat->Nat->Int)(m:Nat)(hm:m<3):fg (bV f 1 (1+m))=if 0<m then-fg f else fg f:=by
 obtain rfl|rfl|rfl:m=0\/m=1\/m=2:=by omega
 . simp[fg,bV]
 . simp[fg,bV];grind
 . simp[fg,bV];grind
def anO (f:Nat->Nat->Int)(m:Nat)(hm:m<2):fg (bV f 2 (2+m))=if 0<m then-fg f else fg f:=by
 obtain rfl|rfl:m=0\/m=1:=by omega
 . simp[fg,bV]
 . simp[fg,bV];grind
def amN (g:Nat->Nat->Int):g 0 0* (g 0 0*fg g)=cd g 0 1 1* (cd g 0 2 2*cd g 0 3 3-cd g 0 2 3*cd g 0 3 2)-cd g 0 1 2* (cd g 0 2 1*cd g 0 3 3-cd g 0 2 3*cd g 0 3 1)+cd g 0 1 3* (cd g 0 2 1*cd g 0 3 2-cd g 0 2 2*cd g 0 3 1):=by unfold cd fg;grind
def afh (g:Nat->Nat->Int)(a b:Nat)(ha:1<a)(hb:1<b):cd (dH g 0 1) 1 a b=g 0 0*yO g a b:=by unfold cd dH yO cd;rw[if_pos (by omega),if_pos (by omega),if_pos (by omega),if_pos (by omega)];simp only[Int.ediv_one];grind
def agf (g:Nat->Nat->Int):yO g 3 3*yO g 2 2-yO g 3 2*yO g 2 3=cd g 0 1 1*fg g:=by unfold cd yO fg;grind
def nP (g:Nat->Nat->Int):Nat->Nat->Int:=dH (dH g 0 1) 1 (g 0 0)
def Jl (g:Nat->Nat->Int)(h0:g 0 0≠0)(a b:Nat)(ha:1<a)(hb:1<b):nP g a b=yO g a b:=by
 unfold nP;show(if 1<a/\1<b then cd (dH g 0 1) 1 a b/g 0 0 else _)=_
 rw[if_pos ⟨ha,hb⟩,afh g a b ha hb,Int.mul_ediv_cancel_left _ h0]
def UB (g:Nat->Nat->Int)(a b:Nat)(ha:0<a)(hb:0<b):dH g 0 1 a b=cd g 0 a b:=by unfold dH;rw[if_pos ⟨ha,hb⟩,Int.ediv_one]
def age (g:Nat->Nat->Int)(m:Nat):bV (nP g) 2 (2+m)=nP (bV g 2 (2+m)):=by unfold nP;rw[Vz _ 1 2 (2+m) _ (by omega) (by omega),Vz _ 0 2 (2+m) _ (by omega) (by omega),qO g 0 2 (2+m) 0 (by omega) (by omega)]
def NA (g:Nat->Nat->Int)(m:Nat):bV (dH g 0 1) 1 (1+m)=dH (bV g 1 (1+m)) 0 1:=Vz _ 0 1 (1+m) _ (by omega) (by omega)
def aur (g:Nat->Nat->Int)(h0:g 0 0≠0)(h1:cd g 0 1 1≠0)(h:∀a,2<=a->a<4->nP g a 2=0):fg g=0:=by
 have h2:=h 2 (by omega) (by omega);have h3:=h 3 (by omega) (by omega);rw[Jl g h0 _ _ (by omega) (by omega)]at h2 h3;have e:=agf g;rw[h2,h3,Int.zero_mul,Int.mul_zero,Int.sub_zero]at e;rcases Int.mul_eq_zero.1 e.symm with e2|e2
 . exact absurd e2 h1
 . exact e2
def aeo (g:Nat->Nat->Int)(h0:g 0 0≠0)(_h1:cd g 0 1 1≠0):cd (nP g) 2 3 3=cd g 0 1 1*fg g:=by unfold cd;rw[Jl g h0 _ _ (by omega) (by omega),Jl g h0 _ _ (by omega) (by omega),Jl g h0 _ _ (by omega) (by omega),Jl g h0 _ _ (by omega) (by omega)];exact agf g
def alG (g:Nat->Nat->Int)(t:Bool)(h0:g 0 0≠0)(h1:cd g 0 1 1≠0):eX 4 2 2 (nP g) (cd g 0 1 1) t=if t then-fg g else fg g:=by
 unfold eX;split
 . rename_i h
   have:=aur g h0 h1 (nK h);simp[this]
 . rename_i m h
   have hm:=mQ h;have hs:=anO g m (by omega);obtain⟨g',hg⟩:∃g',bV g 2 (2+m)=g':=⟨_,rfl⟩;have od:g' 0 0=g 0 0:=by rw[<-hg];exact qO g 0 2 (2+m) 0 (by omega) (by omega)
   have e11:cd g' 0 1 1=cd g 0 1 1:=by unfold cd;rw[<-hg,qO g 0 2 (2+m) _ (by omega) (by omega),qO g 0 2 (2+m) _ (by omega) (by omega),qO g 1 2 (2+m) _ (by omega) (by omega),qO g 1 2 (2+m) _ (by omega) (by omega)]
   rw[age,hg];rw[hg]at hs;have hn:nP g' 2 2=nP g' 2 2:=rfl;have hl:=aeo g' (by rw[od];exact h0) (by rw[e11];exact h1);have hf:dH (nP g') 2 (cd g 0 1 1) 3 3=fg g':=by
    show(if 2<3/\2<3 then cd (nP g') 2 3 3/cd g 0 1 1 else _)=_
    rw[if_pos (by omega),hl,e11,Int.mul_ediv_cancel_left _ h1]
   unfold eX;split
   . rename_i h2
     have h3:=nK h2 3 (by omega) (by omega);rw[hf,hs]at h3;by_cases hm0:0<m<;>simp[hm0]at h3<;>simp[h3]
   . rename_i m2 h2
     have hm2:=mQ h2;obtain rfl:m2=0:=by omega
     simp only[eX];have hz:bV (dH (nP g') 2 (cd g 0 1 1)) 3 (3+0) 3 3=fg g':=by rw[<-hf];simp[bV]
     show(if((t !=decide (0<m)) !=decide (0<0))=true then-_ else _)=_
     rw[hz,hs];by_cases hm0:0<m<;>cases t<;>simp[hm0]
def auq (g:Nat->Nat->Int)(h0:g 0 0≠0)(h:∀a,1<=a->a<4->dH g 0 1 a 1=0):fg g=0:=by
 have h1:=h 1 (by omega) (by omega);have h2:=h 2 (by omega) (by omega);have h3:=h 3 (by omega) (by omega);rw[UB g _ _ (by omega) (by omega)]at h1 h2 h3;have e:=amN g;have e0:g 0 0* (g 0 0*fg g)=0:=by rw[e,h1,h2,h3];grind
 rcases Int.mul_eq_zero.1 e0 with e2|e2
 . exact absurd e2 h0
 . rcases Int.mul_eq_zero.1 e2 with e3|e3
   . exact absurd e3 h0
   . exact e3
def alF (g:Nat->Nat->Int)(t:Bool)(h0:g 0 0≠0):eX 4 3 1 (dH g 0 1) (g 0 0) t=if t then-fg g else fg g:=by
 unfold eX;split
 . rename_i h
   have:=auq g h0 (nK h);simp[this]
 . rename_i m h
   have hm:=mQ h;have hs:=anN g m (by omega);obtain⟨g',hg⟩:∃g',bV g 1 (1+m)=g':=⟨_,rfl⟩;have od:g' 0 0=g 0 0:=by rw[<-hg];exact qO g 0 1 (1+m) 0 (by omega) (by omega)
   rw[NA,hg];rw[hg]at hs;have e1:dH g' 0 1 1 1=cd g' 0 1 1:=UB g' 1 1 (by omega) (by omega);have h1:cd g' 0 1 1≠0:=by rw[<-e1,<-hg,<-NA];have:=hm.2;unfold bV;rw[if_pos rfl];exact this
   have h2:=alG g' (t !=decide (0<m)) (by rw[od];exact h0) h1;unfold nP at h2;rw[od]at h2;rw[e1,h2,hs];by_cases hm0:0<m<;>cases t<;>simp[hm0]
def alE (f:Nat->Nat->Int):eX 4 4 0 f 1 false=fg f:=by
 unfold eX;split
 . rename_i h
   have h0:=nK h 0 (by omega) (by omega);have h1:=nK h 1 (by omega) (by omega);have h2:=nK h 2 (by omega) (by omega);have h3:=nK h 3 (by omega) (by omega);unfold fg;rw[h0,h1,h2,h3];grind
 . rename_i m h
   have hm:=mQ h;have hs:=anM f m (by omega);simp only[Nat.zero_add]at hm⊢;have hp:bV f 0 m 0 0≠0:=by simpa[bV]using hm.2
   rw[alF (bV f 0 m) _ hp,hs];by_cases hm0:0<m<;>simp[hm0]
def aoN (g:Nat->Nat->Int)(h0:g 0 0≠0)(h1:cd g 0 1 1≠0):gH 4 2 2 (nP g) (cd g 0 1 1):=by
 unfold gH;split
 . trivial
 . rename_i m h
   have hm:=mQ h;obtain⟨g',hg⟩:∃g',bV g 2 (2+m)=g':=⟨_,rfl⟩;have od:g' 0 0=g 0 0:=by rw[<-hg];exact qO g 0 2 (2+m) 0 (by omega) (by omega)
   have e11:cd g' 0 1 1=cd g 0 1 1:=by unfold cd;rw[<-hg,qO g 0 2 (2+m) _ (by omega) (by omega),qO g 0 2 (2+m) _ (by omega) (by omega),qO g 1 2 (2+m) _ (by omega) (by omega),qO g 1 2 (2+m) _ (by omega) (by omega)]
   rw[age,hg];refine⟨λa b h2 h3 h4 h5=>?_,?_⟩
   . obtain rfl:a=3:=by omega
     obtain rfl:b=3:=by omega
     rw[aeo g' (by rw[od];exact h0) (by rw[e11];exact h1),e11];exact Int.dvd_mul_right _ _
   . unfold gH;split
     . trivial
     . exact⟨λa b h1 h2=>by omega,by unfold gH;trivial⟩
def aoM (f:Nat->Nat->Int):gH 4 4 0 f 1:=by
 unfold gH;split
 . trivial
 . rename_i m h
   have hm:=mQ h;simp only[Nat.zero_add]at hm⊢;obtain⟨g,hg⟩:∃g,bV f 0 m=g:=⟨_,rfl⟩;have h0:g 0 0≠0:=by rw[<-hg];simpa[bV]using hm.2
   rw[hg];refine⟨λa b _ _ _ _=>Int.one_dvd _,?_⟩;unfold gH;split
   . trivial
   . rename_i m2 h2
     have hm2:=mQ h2;obtain⟨g',hg'⟩:∃g',bV g 1 (1+m2)=g':=⟨_,rfl⟩;have od:g' 0 0=g 0 0:=by rw[<-hg'];exact qO g 0 1 (1+m2) 0 (by omega) (by omega)
     have e1:dH g' 0 1 1 1=cd g' 0 1 1:=UB g' 1 1 (by omega) (by omega);have h1:cd g' 0 1 1≠0:=by rw[<-e1,<-hg',<-NA];have:=hm2.2;unfold bV;rw[if_pos rfl];exact this
     rw[NA,hg',e1];refine⟨λa b h3 h4 h5 h6=>?_,?_⟩
     . rw[afh g' a b h3 h5,od];exact Int.dvd_mul_right _ _
     . have:=aoN g' (by rw[od];exact h0) h1;unfold nP at this;rw[od]at this;exact this
end Go.Proofs.YtpfgffadgkkedaaGreatDoor
