/- Plain facts on numbers written in digits to the base 2^64 and on bytes,the highest first. No program here. -/
set_option linter.unusedVariables false
set_option linter.unusedSimpArgs false
set_option maxRecDepth 100000
set_option maxHeartbeats 16000000
namespace Go.Proofs.YtdaadlblknpipaaGreatDoor
def WW :Nat:=18446744073709551616
theorem jq :WW=18446744073709551616:=rfl
theorem jr :0<WW:=by decide
theorem kD :WW=2^64:=by decide
theorem dY (k:Nat):0<WW^k:=Nat.pow_pos jr
def ln (v:Nat):Nat:=if v=0 then 0 else Nat.log2 v/64+1
theorem kE (k:Nat):WW^k=2^(64*k):=by rw[kD,<-Nat.pow_mul]
theorem eO (v:Nat):v<WW^ln v:=by
 unfold ln;split
 . subst v;simp
 . rename_i h
   rw[kE];refine Nat.lt_of_lt_of_le (Nat.lt_log2_self (n:=v)) (Nat.pow_le_pow_right (by decide) ?_);omega
theorem iY {v n:Nat}(h:v<WW^n):ln v<=n:=by
 unfold ln;split
 . omega
 . rename_i h0
   rw[kE]at h;have:=(Nat.log2_lt h0).2 h;omega
theorem XC {v n:Nat}(h:v<WW^(n+1))(h':WW^n<=v):ln v=n+1:=by
 have h1:=iY h;have h2:¬ln v<=n:=λhle=>by have:=eO v;have:=Nat.pow_le_pow_right jr hle;omega
 omega
theorem Ob :ln 0=0:=rfl
theorem IC {v:Nat}(h:0<v):0<ln v:=by unfold ln;split<;>omega
def dg (v j:Nat):Nat:=v/WW^j%WW
theorem ju (v j:Nat):dg v j<WW:=Nat.mod_lt _ jr
theorem amF {v k:Nat}(h:v<WW^(k+1))(h0:dg v k=0):v<WW^k:=by
 unfold dg at h0;have h1:v/WW^k<WW:=by rw[Nat.div_lt_iff_lt_mul (dY k)];rw[Nat.pow_succ]at h;rwa [Nat.mul_comm]at h
 rw[Nat.mod_eq_of_lt h1]at h0;rcases Nat.lt_or_ge v (WW^k)with h2|h2
 . exact h2
 . have:=Nat.div_pos h2 (dY k);omega
theorem Zz {v k:Nat}(h0:dg v k≠0):WW^k<=v:=by
 rcases Nat.lt_or_ge v (WW^k)with h2|h2
 . exact absurd (by unfold dg;rw[Nat.div_eq_of_lt h2];simp) h0
 . exact h2
theorem rO {v k j:Nat}(h:v<WW^k)(hj:k<=j):dg v j=0:=by unfold dg;rw[Nat.div_eq_of_lt (Nat.lt_of_lt_of_le h (Nat.pow_le_pow_right jr hj))];simp
theorem yo (v i:Nat):v%WW^(i+1)=v%WW^i+WW^i*dg v i:=by unfold dg;rw[Nat.pow_succ,Nat.mod_mul]
theorem Tm {v n j:Nat}(h:j<n):dg (v%WW^n) j=dg v j:=by unfold dg;obtain⟨d,rfl⟩:∃d,n=j+1+d:=⟨n-(j+1),by omega⟩;rw[Nat.pow_add,Nat.mod_mul,Nat.pow_succ,Nat.mod_mul];rw[show v%WW^j+WW^j* (v/WW^j%WW)+WW^j*WW* (v/(WW^j*WW)%WW^d)=v%WW^j+WW^j* ((v/WW^j%WW)+WW* (v/(WW^j*WW)%WW^d))by rw[Nat.mul_add,Nat.mul_assoc,Nat.add_assoc]];rw[Nat.add_mul_div_left _ _ (dY j),Nat.div_eq_of_lt (Nat.mod_lt _ (dY j)),Nat.zero_add,Nat.add_mul_mod_self_left,Nat.mod_mod]
def cy (v u m i:Nat):Nat:=(v%WW^i+u%WW^i*m)/WW^i
theorem Te (v u m:Nat):cy v u m 0=0:=by simp[cy,Nat.mod_one]
theorem afm (v u m i:Nat)(hm:m<WW):cy v u m i<WW:=by
 unfold cy;rw[Nat.div_lt_iff_lt_mul (dY i)];have h1:=Nat.mod_lt v (dY i);have h2:=Nat.mod_lt u (dY i);generalize v%WW^i=a at*;generalize u%WW^i=b at*;generalize WW^i=M at*;have h3:b*m<=b* (WW-1):=Nat.mul_le_mul_left _ (by omega);have h4:b* (WW-1)<=(M-1) * (WW-1):=Nat.mul_le_mul_right _ (by omega);have h5:(M-1) * (WW-1)+(M-1)=(M-1) *WW:=by
  have:WW=(WW-1)+1:=by have:=jr;omega
  rw(occs:=.pos [2]) [this];rw[Nat.mul_add,Nat.mul_one]
 have h6:(M-1) *WW<=M*WW:=Nat.mul_le_mul_right _ (by omega);have h7:(M-1) *WW+WW=M*WW:=by
  have:M=(M-1)+1:=by omega
  rw(occs:=.pos [2]) [this];rw[Nat.add_mul,Nat.one_mul]
 have:=jr;rw[Nat.mul_comm WW M];omega
theorem Td (v u m i:Nat):(dg v i+dg u i*m+cy v u m i)%WW=dg (v+u*m) i/\(dg v i+dg u i*m+cy v u m i)/WW=cy v u m (i+1):=by
 have hM:=dY i;have e1:v=v%WW^i+WW^i* (v/WW^i):=(Nat.mod_add_div v _).symm;have e2:u=u%WW^i+WW^i* (u/WW^i):=(Nat.mod_add_div u _).symm;constructor
 . unfold dg cy;have e3:(v+u*m)/WW^i=v/WW^i+u/WW^i*m+(v%WW^i+u%WW^i*m)/WW^i:=by
    conv=>lhs;rw[e1,e2]
    rw[show v%WW^i+WW^i* (v/WW^i)+(u%WW^i+WW^i* (u/WW^i)) *m=(v%WW^i+u%WW^i*m)+WW^i* (v/WW^i+u/WW^i*m)by rw[Nat.add_mul,Nat.mul_add,Nat.mul_assoc];omega]
    rw[Nat.add_mul_div_left _ _ hM];omega
   rw[e3,Nat.add_mod,Nat.add_mod (v/WW^i+u/WW^i*m),Nat.add_mod (v/WW^i%WW),Nat.add_mod (v/WW^i),Nat.mod_mod,Nat.mul_mod (u/WW^i%WW),Nat.mod_mod,<-Nat.mul_mod]
 . unfold cy;rw[yo v,yo u,Nat.pow_succ]
   rw[show v%WW^i+WW^i*dg v i+(u%WW^i+WW^i*dg u i) *m=(v%WW^i+u%WW^i*m)+WW^i* (dg v i+dg u i*m)by rw[Nat.add_mul,Nat.mul_add,Nat.mul_assoc];omega]
   rw[<-Nat.div_div_eq_div_mul,Nat.add_mul_div_left _ _ hM,Nat.add_comm]
def bw (v u i:Nat):Nat:=if v%WW^i<u%WW^i then 1 else 0
theorem aeH (v u:Nat):bw v u 0=0:=by simp[bw,Nat.mod_one]
theorem SK (v u i:Nat):bw v u i<=1:=by unfold bw;split<;>omega
theorem aeG (v u i:Nat):bw v u (i+1)=if dg v i<dg u i+bw v u i then 1 else 0:=by
 have h1:=Nat.mod_lt v (dY i);have h2:=Nat.mod_lt u (dY i);unfold bw;rw[yo v,yo u];generalize dg v i=a;generalize dg u i=b;generalize v%WW^i=r at*;generalize u%WW^i=s at*;generalize WW^i=M at*;have key:(r+M*a<s+M*b)↔(a<b+if r<s then 1 else 0):=by
  rcases Nat.lt_trichotomy a b with h|h|h
  . have:M* (a+1)<=M*b:=Nat.mul_le_mul_left _ h;rw[Nat.mul_add]at this;constructor
    . intro _;split<;>omega
    . intro _;omega
  . subst h;split<;>omega
  . have:M* (b+1)<=M*a:=Nat.mul_le_mul_left _ h;rw[Nat.mul_add]at this;constructor
    . intro _;omega
    . intro h';exfalso;revert h';split<;>omega
 simp only[key]
theorem aeF (v u i:Nat)(hu:u<=v):(dg v i+WW-dg u i-bw v u i)%WW=dg (v-u) i:=by
 -- the digit of the difference
 have h1:=Nat.mod_lt v (dY i);have h2:=Nat.mod_lt u (dY i);have hM:=dY i;have hb:=SK v u i;have du:=ju u i;have e1:v=v%WW^i+WW^i* (v/WW^i):=(Nat.mod_add_div v _).symm;have e2:u=u%WW^i+WW^i* (u/WW^i):=(Nat.mod_add_div u _).symm;have e3:(v-u)/WW^i+bw v u i+u/WW^i=v/WW^i:=by
  unfold bw;generalize v%WW^i=r at*;generalize u%WW^i=s at*;generalize v/WW^i=x at*;generalize u/WW^i=y at*;generalize WW^i=M at*;have hxy:y<=x:=by
   rcases Nat.lt_or_ge x y with h|h
   . have:M* (x+1)<=M*y:=Nat.mul_le_mul_left _ h;rw[Nat.mul_add]at this;omega
   . exact h
  obtain⟨d,rfl⟩:∃d,x=y+d:=⟨x-y,by omega⟩;split
  . rename_i hrs
    have hd:1<=d:=by
     rcases Nat.eq_zero_or_pos d with h|h
     . subst h;simp at e1;omega
     . exact h
    obtain⟨d',rfl⟩:∃d',d=d'+1:=⟨d-1,by omega⟩;have:v-u=(M+r-s)+M*d':=by rw[Nat.mul_add,Nat.mul_add]at e1;omega
    rw[this,Nat.add_mul_div_left _ _ hM,Nat.div_eq_of_lt (by omega)];omega
  . have:v-u=(r-s)+M*d:=by rw[Nat.mul_add]at e1;omega
    rw[this,Nat.add_mul_div_left _ _ hM,Nat.div_eq_of_lt (by omega)];omega
 unfold dg at*;generalize (v-u)/WW^i=q at*;rw[<-e3];generalize bw v u i=c at*;generalize u/WW^i=y at*;have hW:=jr
 -- (q + c + y) % W + W - y % W - c ≡ q
 have e4:((q+c+y)%WW+WW-y%WW-c)%WW=q%WW:=by
  have a1:y=y%WW+WW* (y/WW):=(Nat.mod_add_div y _).symm;have a2:(q+c+y)%WW=(q+c+y%WW)%WW:=by rw[Nat.add_mod,Nat.add_mod (q+c) (y%WW),Nat.mod_mod]
  rw[a2];generalize y%WW=z at*;have a3:q=q%WW+WW* (q/WW):=(Nat.mod_add_div q _).symm;have a4:(q+c+z)%WW=(q%WW+c+z)%WW:=by conv=>lhs;rw[a3,show q%WW+WW* (q/WW)+c+z=(q%WW+c+z)+WW* (q/WW)by omega,Nat.add_mul_mod_self_left]
  rw[a4];have hq:=Nat.mod_lt q hW;generalize q%WW=p at*;rcases Nat.lt_or_ge (p+c+z) WW with h|h
  . rw[Nat.mod_eq_of_lt h,show p+c+z+WW-z-c=p+WW by omega,Nat.add_mod_right,Nat.mod_eq_of_lt hq]
  . rcases Nat.lt_or_ge (p+c+z) (2*WW)with h'|h'
    . have:(p+c+z)%WW=p+c+z-WW:=by rw[Nat.mod_eq_sub_mod h,Nat.mod_eq_of_lt (by omega)]
      rw[this,show p+c+z-WW+WW-z-c=p by omega,Nat.mod_eq_of_lt hq]
    . exfalso;omega
 exact e4
def AA :Nat->List UInt8->Nat
 |a,[]=>a
 |a,c::l=>AA (a*256+c.toNat) l
def nv (l:List UInt8):Nat:=AA 0 l
theorem akb (a:Nat)(l:List UInt8):AA a l=a*256^l.length+nv l:=by
 unfold nv;induction l generalizing a with
 |nil=>simp[AA]
 |cons c l ih=>simp only[AA,List.length_cons];rw[ih,ih (0*256+c.toNat),Nat.pow_succ,Nat.add_mul,Nat.zero_mul,Nat.zero_add,<-Nat.add_assoc,Nat.mul_assoc,Nat.mul_comm 256]
theorem vV :nv []=0:=rfl
theorem sB (c:UInt8)(l:List UInt8):nv (c::l)=c.toNat*256^l.length+nv l:=by
 show AA (0*256+c.toNat) l=_
 rw[akb];simp
theorem IQ (a b:List UInt8):nv (a++b)=nv a*256^b.length+nv b:=by
 induction a with
 |nil=>simp[vV]
 |cons c a ih=>rw[List.cons_append,sB,sB,ih,List.length_append,Nat.pow_add,Nat.add_mul,Nat.add_assoc,Nat.mul_assoc]
theorem fT (l:List UInt8):nv l<256^l.length:=by
 induction l with
 |nil=>simp[vV]
 | cons c l ih=>
   rw[sB,List.length_cons,Nat.pow_succ];have hc:c.toNat<=255:=by have:=c.toNat_lt;omega
   have:=Nat.mul_le_mul_right (256^l.length) hc;omega
def vT :Nat->Nat->List UInt8
 |0,_=>[]
 |f+1,n=>if n=0 then[]else vT f (n/256)++[UInt8.ofNat (n%256)]
def nt (n:Nat):List UInt8:=vT n n
theorem aj6 (f g n:Nat)(hf:n<=f)(hg:n<=g):vT f n=vT g n:=by
 induction f generalizing g n with
 | zero => obtain rfl:n=0:=by omega
           cases g<;>simp[vT]
 | succ f ih=>
   cases g with
   | zero => obtain rfl:n=0:=by omega
             simp[vT]
   | succ g=>
     simp only[vT];split
     . rfl
     . rw[ih g (n/256) (by omega) (by omega)]
theorem yw :nt 0=[]:=rfl
theorem Eh {n:Nat}(h:0<n):nt n=nt (n/256)++[UInt8.ofNat (n%256)]:=by unfold nt;obtain⟨m,rfl⟩:∃m,n=m+1:=⟨n-1,by omega⟩;rw[vT,if_neg (by omega),aj6 m ((m+1)/256) _ (by omega) (by omega)]
theorem Ga (n:Nat):(UInt8.ofNat (n%256)).toNat=n%256:=by simp[UInt8.toNat_ofNat']
theorem jb (n:Nat):nv (nt n)=n:=by
 induction n using Nat.strongRecOn with
 | _ n ih=>
   rcases Nat.eq_zero_or_pos n with h|h
   . subst h;rfl
   . rw[Eh h,IQ,ih (n/256) (by omega),sB,Ga];simp[vV];omega
theorem IP {n:Nat}(h:0<n):nt n≠[]:=by rw[Eh h];simp
theorem alh {α:Type}{P:List α->Prop}(h0:P [])(h1:∀l c,P l->P (l++[c]))(l:List α):P l:=by
 have:∀m:List α,P m.reverse:=by
  intro m;induction m with
  |nil=>exact h0
  |cons a m ih=>rw[List.reverse_cons];exact h1 _ _ ih
 have:=this l.reverse;rwa [List.reverse_reverse]at this
theorem Yi (l:List UInt8)(h:∀c,l.head?=some c->c≠0):nt (nv l)=l:=by
 revert h;refine alh (P:=λl=>(∀c,l.head?=some c->c≠0)->nt (nv l)=l) ?_ ?_ l
 . intro _;rfl
 . intro l c ih h;have hv:nv (l++[c])=nv l*256+c.toNat:=by rw[IQ,sB];simp[vV]
   have hc:=c.toNat_lt;have hl:∀a,l.head?=some a->a≠0:=by
    intro a ha;apply h;cases l with
    |nil=>simp at ha
    |cons x y=>simpa using ha
   have hpos:0<nv (l++[c]):=by
    rw[hv];cases l with
    |nil=>have:=h c (by simp);have:c.toNat≠0:=λh0=>this (UInt8.toNat_inj.1 (by simpa using h0));omega
    |cons x y=>have hx:=h x (by simp);have:x.toNat≠0:=λh0=>hx (UInt8.toNat_inj.1 (by simpa using h0));have h1:1*256^y.length<=x.toNat*256^y.length:=Nat.mul_le_mul_right _ (by omega);have h2:0<256^y.length:=Nat.pow_pos (by decide);rw[sB];omega
   rw[Eh hpos,hv,show(nv l*256+c.toNat)/256=nv l by omega,show(nv l*256+c.toNat)%256=c.toNat by omega,ih hl];simp
theorem ja {n k:Nat}(h:n<256^k):(nt n).length<=k:=by
 induction k generalizing n with
 | zero => obtain rfl:n=0:=by simpa using h
           simp[yw]
 | succ k ih=>
   rcases Nat.eq_zero_or_pos n with h0|h0
   . subst h0;simp[yw]
   . rw[Eh h0,List.length_append,List.length_singleton];have:=ih (n:=n/256) (by rw[Nat.div_lt_iff_lt_mul (by decide)];rwa [Nat.pow_succ]at h);omega
theorem ai7 (n:Nat):n<256^(nt n).length:=by have:=fT (nt n);rwa [jb]at this
theorem Ow (n:Nat):nt n=[]↔n=0:=by
 constructor
 . intro h;rcases Nat.eq_zero_or_pos n with h0|h0
   . exact h0
   . exact absurd h (IP h0)
 . intro h;subst h;rfl
theorem ake (l:List UInt8)(k:Nat)(hk:k<l.length):
 nv (l.drop (l.length-1-k))=nv (l.drop (l.length-k))+l[l.length-1-k].toNat*256^k:=by
 rw[List.drop_eq_getElem_cons (show l.length-1-k<l.length by omega),sB,Nat.add_comm];rw[show l.length-1-k+1=l.length-k by omega,List.length_drop,show l.length-(l.length-k)=k by omega]
theorem Gf (V D q j:Nat)(h:V/WW^q+D<WW):dg (V+D*WW^q) j=if j=q then dg V q+D else dg V j:=by
 have hW:=jr;have e:(V+D*WW^q)/WW^q=V/WW^q+D:=by rw[Nat.mul_comm,Nat.add_mul_div_left _ _ (dY q)]
 rcases Nat.lt_trichotomy j q with hj|hj|hj
 . rw[if_neg (by omega)];obtain⟨d,rfl⟩:∃d,q=j+1+d:=⟨q-j-1,by omega⟩;unfold dg;rw[show D*WW^(j+1+d)=WW^j* (WW* (D*WW^d))by rw[Nat.pow_add,Nat.pow_succ];simp only[Nat.mul_comm,Nat.mul_left_comm,Nat.mul_assoc]];rw[Nat.add_mul_div_left _ _ (dY j),Nat.add_mul_mod_self_left]
 . subst hj;rw[if_pos rfl];unfold dg;rw[e,Nat.mod_eq_of_lt h,Nat.mod_eq_of_lt (by omega)]
 . rw[if_neg (by omega)];have h1:V+D*WW^q<WW^(q+1):=by rw[Nat.pow_succ,Nat.mul_comm (WW^q)];exact(Nat.div_lt_iff_lt_mul (dY q)).1 (by rw[e];exact h)
   have h2:V<WW^(q+1):=by omega
   rw[rO h1 (by omega),rO h2 (by omega)]
theorem akl {X C i:Nat}(h:X<2^i):X|||C*2^i=X+C*2^i:=by rw[Nat.mul_comm C,Nat.or_comm,<-Nat.two_pow_add_eq_or_of_lt h,Nat.add_comm]
theorem OQ (k:Nat):256^k=WW^(k/8) *2^(k%8*8):=by rw[kE,<-Nat.pow_add,show(256:Nat)=2^8 by rfl,<-Nat.pow_mul];congr 1;omega
theorem aeK (V C k:Nat)(hV:V<256^k)(hC:C<256):
 dg V (k/8)<2^(k%8*8)/\C*2^(k%8*8)<WW/\∀j,dg (V+C*256^k) j=if j=k/8 then dg V (k/8)+C*2^(k%8*8)else dg V j:=by
 have h1:V/WW^(k/8)<2^(k%8*8):=by rw[OQ]at hV;rw[Nat.div_lt_iff_lt_mul (dY _),Nat.mul_comm];exact hV
 have h2:2^(k%8*8) *256<=WW:=by rw[show(256:Nat)=2^8 by rfl,<-Nat.pow_add,kD];exact Nat.pow_le_pow_right (by decide) (by omega)
 have h3:C*2^(k%8*8)+2^(k%8*8)<=2^(k%8*8) *256:=by have:2^(k%8*8) * (C+1)<=2^(k%8*8) *256:=Nat.mul_le_mul_left _ (by omega);rw[Nat.mul_add,Nat.mul_comm]at this;omega
 have h4:dg V (k/8)=V/WW^(k/8):=by unfold dg;exact Nat.mod_eq_of_lt (by omega)
 refine⟨by rw[h4];exact h1,by have:=Nat.pow_pos (n:=k%8*8) (show 0<2 by decide);omega,λj=>?_⟩;rw[OQ,Nat.mul_comm (WW^(k/8)),<-Nat.mul_assoc];exact Gf V _ (k/8) j (by omega)
theorem afF (u r i:Nat)(hr:r<64):dg (u/2^r) i=dg u i/2^r+dg u (i+1) *2^(64-r)%WW:=by
 unfold dg;have Nu:2^r*2^(64-r)=WW:=by rw[<-Nat.pow_add,kD];congr 1;omega
 have hp:=Nat.pow_pos (n:=r) (show 0<2 by decide);have hq:=Nat.pow_pos (n:=64-r) (show 0<2 by decide);rw[Nat.div_div_eq_div_mul,Nat.mul_comm (2^r),<-Nat.div_div_eq_div_mul,Nat.pow_succ,<-Nat.div_div_eq_div_mul];generalize u/WW^i=x;rw[show x/WW%WW*2^(64-r)%WW=(x/WW) *2^(64-r)%WW by rw[Nat.mul_mod,Nat.mod_mod,<-Nat.mul_mod]];have e:x=x%WW+WW* (x/WW):=(Nat.mod_add_div x WW).symm;have hx:=Nat.mod_lt x jr;generalize x%WW=a at*;generalize x/WW=y at*;subst e;rw[<-Nu]at hx⊢;generalize 2^r=p at*;generalize 2^(64-r)=q at*;rw[Nat.mul_assoc,Nat.add_mul_div_left _ _ hp];have ha:a/p<q:=by rw[Nat.div_lt_iff_lt_mul hp,Nat.mul_comm];exact hx
 -- (a/p + q*y) % (p*q) = a/p + (y*q) % (p*q)
 rw[Nat.mul_comm p q,Nat.mod_mul,Nat.add_mul_mod_self_left,Nat.mod_eq_of_lt ha,Nat.add_mul_div_left _ _ hq,Nat.div_eq_of_lt ha,Nat.zero_add];rw[Nat.mul_comm y q,Nat.mod_mul,Nat.mul_mod_right,Nat.mul_div_cancel_left _ hq,Nat.zero_add]
theorem ZM (d r:Nat)(hd:d<WW)(hr:r<64):∃c,d*2^r%WW=c*2^r/\d*2^r/WW=d/2^(64-r)/\d/2^(64-r)<2^r/\c*2^r+2^r<=WW/\d*2^r=c*2^r+WW* (d/2^(64-r)):=by
 have Nu:2^(64-r) *2^r=WW:=by rw[<-Nat.pow_add,kD];congr 1;omega
 have hp:=Nat.pow_pos (n:=r) (show 0<2 by decide);have hq:=Nat.pow_pos (n:=64-r) (show 0<2 by decide);rw[<-Nu]at hd⊢;generalize 2^r=p at*;generalize 2^(64-r)=q at*;refine⟨d%q,?_,?_,?_,?_,?_⟩
 . rw[Nat.mul_mod_mul_right]
 . rw[Nat.mul_div_mul_right _ _ hp]
 . rw[Nat.div_lt_iff_lt_mul hq,Nat.mul_comm];exact hd
 . have:=Nat.mod_lt d hq;have:(d%q+1) *p<=q*p:=Nat.mul_le_mul_right _ this;rw[Nat.add_mul]at this;omega
 . have e:=(Nat.mod_add_div d q).symm;conv=>lhs;rw[e]
   rw[Nat.add_mul,Nat.mul_assoc,Nat.mul_assoc,Nat.mul_comm (d/q)]
theorem amQ (v n i:Nat):∃c,c*2^(n%64)=dg v i*2^(n%64)%WW/\dg (v%WW^i*2^n) (i+n/64)<2^(n%64)/\c*2^(n%64)+2^(n%64)<=WW/\
 dg (v%WW^i*2^n) (i+n/64+1)=0/\dg v i/2^(64-n%64)<WW/\
 ∀j,dg (v%WW^(i+1) *2^n) j=if j=i+n/64+1 then dg v i/2^(64-n%64)else if j=i+n/64 then dg (v%WW^i*2^n) (i+n/64)+c*2^(n%64)else dg (v%WW^i*2^n) j:=by
 have hr:n%64<64:=Nat.mod_lt _ (by decide);obtain⟨c,h1,h2,h3,h4,h5⟩:=ZM (dg v i) (n%64) (ju v i) hr;have hn:2^n=2^(n%64) *WW^(n/64):=by rw[kE,<-Nat.pow_add];congr 1;omega
 have hv:=Nat.mod_lt v (dY i);have hp:=Nat.pow_pos (n:=n%64) (show 0<2 by decide);have hpW:2^(n%64)<=WW:=by rw[kD];exact Nat.pow_le_pow_right (by decide) (by omega)
 refine⟨c,h1.symm,?_⟩;have eA:v%WW^(i+1) *2^n=v%WW^i*2^n+c*2^(n%64) *WW^(i+n/64)+dg v i/2^(64-n%64) *WW^(i+n/64+1):=by
  have h6:dg v i*2^(n%64) *WW^(i+n/64)=(c*2^(n%64)+WW* (dg v i/2^(64-n%64))) *WW^(i+n/64):=by rw[h5]
  rw[yo,hn];rw[Nat.pow_succ WW (i+n/64)];rw[Nat.add_mul]at h6;rw[Nat.add_mul,Nat.add_assoc];congr 1;rw[Nat.pow_add WW i]at*;have e1:WW^i*dg v i* (2^(n%64) *WW^(n/64))=dg v i*2^(n%64) * (WW^i*WW^(n/64)):=by simp only[Nat.mul_comm,Nat.mul_left_comm,Nat.mul_assoc]
  rw[e1,h6];congr 1;simp only[Nat.mul_comm,Nat.mul_left_comm,Nat.mul_assoc]
 have ag4:v%WW^i*2^n/WW^(i+n/64)<2^(n%64):=by rw[Nat.div_lt_iff_lt_mul (dY _),hn,Nat.pow_add,<-Nat.mul_assoc,<-Nat.mul_assoc,Nat.mul_comm (2^(n%64))];exact Nat.mul_lt_mul_of_pos_right (Nat.mul_lt_mul_of_pos_right hv hp) (dY _)
 have ahl:dg (v%WW^i*2^n) (i+n/64)=v%WW^i*2^n/WW^(i+n/64):=by unfold dg;exact Nat.mod_eq_of_lt (by omega)
 have hVW:v%WW^i*2^n<WW^(i+n/64+1):=by rw[Nat.pow_succ,Nat.mul_comm (WW^_)];exact(Nat.div_lt_iff_lt_mul (dY _)).1 (by omega)
 have hd1:dg (v%WW^i*2^n) (i+n/64+1)=0:=rO hVW (Nat.le_refl _);have hhi:dg v i/2^(64-n%64)<WW:=by omega
 refine⟨by rw[ahl];exact ag4,h4,hd1,hhi,λj=>?_⟩;have hV2:v%WW^i*2^n+c*2^(n%64) *WW^(i+n/64)<WW^(i+n/64+1):=by rw[Nat.pow_succ,Nat.mul_comm (WW^(i+n/64)) WW];refine(Nat.div_lt_iff_lt_mul (dY _)).1 ?_;rw[Nat.mul_comm (c*2^(n%64)),Nat.add_mul_div_left _ _ (dY _)];omega
 rw[eA,Gf _ _ (i+n/64+1) j (by rw[Nat.div_eq_of_lt hV2];omega)];rw[Gf _ (c*2^(n%64)) (i+n/64) _ (by omega),Gf _ (c*2^(n%64)) (i+n/64) _ (by omega)];by_cases hj:j=i+n/64+1
 . rw[if_pos hj,if_pos hj,if_neg (by omega),hd1,Nat.zero_add]
 . rw[if_neg hj,if_neg hj]
def oJ (f:Nat->Nat->Int)(n k:Nat):Option Nat:=(List.range (n-k)).find? λi=>f (k+i) k !=0
def cd (f:Nat->Nat->Int)(k m:Nat):Nat->Nat->Int:=λa b=>f (if a=k then m else if a=m then k else a) b
def cB (g:Nat->Nat->Int)(k a b:Nat):Int:=g a b*g k k-g a k*g k b
def dM (g:Nat->Nat->Int)(k:Nat)(last:Int):Nat->Nat->Int:=λa b=>if k<a/\k<b then cB g k a b/last else g a b
def eQ (n:Nat):Nat->Nat->(Nat->Nat->Int)->Int->Bool->Int
 |0,_,_,last,turned=>if turned then-last else last
 | l+1,k,f,last,turned=>match oJ f n k with
   |none=>0
   |some m=>eQ n l (k+1) (dM (cd f k (k+m)) k last) (cd f k (k+m) k k) (turned !=decide (0<m))
def gy (n:Nat):Nat->Nat->(Nat->Nat->Int)->Int->Prop
 |0,_,_,_=>True
 | l+1,k,f,last=>match oJ f n k with
   |none=>True
   |some m=>(∀a b,k<a->a<n->k<b->b<n->last∣cB (cd f k (k+m)) k a b)/\gy n l (k+1) (dM (cd f k (k+m)) k last) (cd f k (k+m) k k)
theorem kV {f:Nat->Nat->Int}{n k m:Nat}(h:oJ f n k=some m):k+m<n/\f (k+m) k≠0:=by unfold oJ at h;have h1:=List.find?_some h;have h2:=List.mem_of_find?_eq_some h;rw[List.mem_range]at h2;refine⟨by omega,?_⟩;simpa using h1
theorem lS {f:Nat->Nat->Int}{n k:Nat}(h:oJ f n k=none):∀a,k<=a->a<n->f a k=0:=by intro a h1 h2;unfold oJ at h;rw[List.find?_eq_none]at h;have:=h (a-k) (by rw[List.mem_range];omega);rw[show k+(a-k)=a by omega]at this;simpa using this
def xp (f:Nat->Nat->Int):Int:=f 0 0*f 1 1-f 0 1*f 1 0
def iF (f:Nat->Nat->Int):Int:=f 0 0* (f 1 1*f 2 2-f 1 2*f 2 1)-f 0 1* (f 1 0*f 2 2-f 1 2*f 2 0)+f 0 2* (f 1 0*f 2 1-f 1 1*f 2 0)
theorem ad7 (f:Nat->Nat->Int):eQ 1 1 0 f 1 false=f 0 0:=by
 unfold eQ;split
 . rename_i h
   exact(lS h 0 (by omega) (by omega)).symm
 . rename_i m h
   have:=kV h;obtain rfl:m=0:=by omega
   simp[eQ,cd]
theorem ad8 (f:Nat->Nat->Int):eQ 2 2 0 f 1 false=xp f:=by
 unfold eQ;split
 . rename_i h
   have h0:=lS h 0 (by omega) (by omega);have h1:=lS h 1 (by omega) (by omega);simp[xp,h0,h1]
 . rename_i m h
   have hm:=kV h;unfold eQ;split
   . rename_i h2
     have h1:=lS h2 1 (by omega) (by omega);obtain rfl|rfl:m=0\/m=1:=by omega
     . simp[dM,cB,cd]at h1;simp[xp];grind
     . simp[dM,cB,cd]at h1;simp[xp];grind
   . rename_i m2 h2
     have hm2:=kV h2;obtain rfl:m2=0:=by omega
     obtain rfl|rfl:m=0\/m=1:=by omega
     . simp[eQ,dM,cB,cd,xp];grind
     . simp[eQ,dM,cB,cd,xp];grind
theorem afz (f:Nat->Nat->Int)(m:Nat)(hm:m<3):iF (cd f 0 m)=if 0<m then-iF f else iF f:=by
 obtain rfl|rfl|rfl:m=0\/m=1\/m=2:=by omega
 . simp[iF,cd]
 . simp[iF,cd];grind
 . simp[iF,cd];grind
theorem Yj (g:Nat->Nat->Int)(m:Nat)(hm:m<2):cB (cd (dM g 0 1) 1 (1+m)) 1 2 2=g 0 0* (if 0<m then-iF g else iF g):=by
 obtain rfl|rfl:m=0\/m=1:=by omega
 . simp[cB,dM,cd,iF];grind
 . simp[cB,dM,cd,iF];grind
theorem akB (g:Nat->Nat->Int)(h0:g 0 0≠0)(h:∀a,1<=a->a<3->dM g 0 1 a 1=0):iF g=0:=by
 have h1:=h 1 (by omega) (by omega);have h2:=h 2 (by omega) (by omega);simp only[dM,cB]at h1 h2;rw[if_pos (by omega),Int.ediv_one]at h1 h2;have e:g 0 0*iF g=0:=by
  have e1:g 0 0* (g 0 0*iF g)=(g 1 1*g 0 0-g 1 0*g 0 1) * (g 2 2*g 0 0-g 2 0*g 0 2)-(g 1 2*g 0 0-g 1 0*g 0 2) * (g 2 1*g 0 0-g 2 0*g 0 1):=by unfold iF;grind
  rw[h1,h2,Int.zero_mul,Int.mul_zero,Int.sub_zero]at e1;rcases Int.mul_eq_zero.1 e1 with e2|e2
  . exact absurd e2 h0
  . exact e2
 rcases Int.mul_eq_zero.1 e with e2|e2
 . exact absurd e2 h0
 . exact e2
theorem aea (g:Nat->Nat->Int)(t:Bool)(h0:g 0 0≠0):eQ 3 2 1 (dM g 0 1) (g 0 0) t=if t then-iF g else iF g:=by
 unfold eQ;split
 . rename_i h
   have:=akB g h0 (lS h);simp[this]
 . rename_i m h
   have hm:=kV h;have hn:=Yj g m (by omega);unfold eQ;split
   . rename_i h2
     have h3:=lS h2 2 (by omega) (by omega);have h4:cB (cd (dM g 0 1) 1 (1+m)) 1 2 2/g 0 0=0:=by simpa[dM]using h3
     rw[hn,Int.mul_ediv_cancel_left _ h0]at h4;split at h4<;>simp_all<;>omega
   . rename_i m2 h2
     have hm2:=kV h2;obtain rfl:m2=0:=by omega
     have h4:cd (dM (cd (dM g 0 1) 1 (1+m)) 1 (g 0 0)) 2 (2+0) 2 2=if 0<m then-iF g else iF g:=by rw[<-Int.mul_ediv_cancel_left (if 0<m then-iF g else iF g) h0,<-hn];simp[cd,dM]
     simp only[eQ];show(if((t !=decide (0<m)) !=decide (0<0))=true then-_ else _)=_
     rw[h4];by_cases hm0:0<m<;>cases t<;>simp[hm0]
theorem ad9 (f:Nat->Nat->Int):eQ 3 3 0 f 1 false=iF f:=by
 unfold eQ;split
 . rename_i h
   have h0:=lS h 0 (by omega) (by omega);have h1:=lS h 1 (by omega) (by omega);have h2:=lS h 2 (by omega) (by omega);simp[iF,h0,h1,h2]
 . rename_i m h
   have hm:=kV h;have hs:=afz f m (by omega);simp only[Nat.zero_add]at hm⊢;have hp:cd f 0 m 0 0≠0:=by simpa[cd]using hm.2
   rw[aea (cd f 0 m) _ hp,hs];by_cases hm0:0<m<;>simp[hm0]
theorem af7 (f:Nat->Nat->Int):gy 1 1 0 f 1:=by
 unfold gy;split
 . trivial
 . exact⟨λa b h1 h2=>by omega,by unfold gy;trivial⟩
theorem af8 (f:Nat->Nat->Int):gy 2 2 0 f 1:=by
 unfold gy;split
 . trivial
 . refine⟨λa b _ _ _ _=>Int.one_dvd _,?_⟩;unfold gy;split
   . trivial
   . exact⟨λa b h1 h2=>by omega,by unfold gy;trivial⟩
theorem af9 (f:Nat->Nat->Int):gy 3 3 0 f 1:=by
 unfold gy;split
 . trivial
 . refine⟨λa b _ _ _ _=>Int.one_dvd _,?_⟩;unfold gy;split
   . trivial
   . rename_i m2 h2
     have hm2:=kV h2;refine⟨λa b h1 h2 h3 h4=>?_,?_⟩
     . obtain rfl:a=2:=by omega
       obtain rfl:b=2:=by omega
       rw[Yj _ m2 (by omega)];exact Int.dvd_mul_right _ _
     . unfold gy;split
       . trivial
       . exact⟨λa b h1 h2=>by omega,by unfold gy;trivial⟩
def cm (n:Nat)(f:Nat->Nat->Dyadic):Dyadic:=match n with
 |0=>1
 |1=>f 0 0
 |2=>f 0 0*f 1 1-f 0 1*f 1 0
 |3=>f 0 0* (f 1 1*f 2 2-f 1 2*f 2 1)-f 0 1* (f 1 0*f 2 2-f 1 2*f 2 0)+f 0 2* (f 1 0*f 2 1-f 1 1*f 2 0)
 | 4=>f 0 0* (f 1 1* (f 2 2*f 3 3-f 2 3*f 3 2)-f 1 2* (f 2 1*f 3 3-f 2 3*f 3 1)+f 1 3* (f 2 1*f 3 2-f 2 2*f 3 1))
   -f 0 1* (f 1 0* (f 2 2*f 3 3-f 2 3*f 3 2)-f 1 2* (f 2 0*f 3 3-f 2 3*f 3 0)+f 1 3* (f 2 0*f 3 2-f 2 2*f 3 0))
   +f 0 2* (f 1 0* (f 2 1*f 3 3-f 2 3*f 3 1)-f 1 1* (f 2 0*f 3 3-f 2 3*f 3 0)+f 1 3* (f 2 0*f 3 1-f 2 1*f 3 0))
   -f 0 3* (f 1 0* (f 2 1*f 3 2-f 2 2*f 3 1)-f 1 1* (f 2 0*f 3 2-f 2 2*f 3 0)+f 1 2* (f 2 0*f 3 1-f 2 1*f 3 0))
 |_=>0
def dz (n:Nat)(p:Nat->Nat->Dyadic):Dyadic:=cm n λa b=>p (a+1) b-p 0 b
theorem xt (n:Nat)(p:Nat->Nat->Dyadic):dz n p=cm n λa b=>p (a+1) b-p 0 b:=rfl
def mR (p:Nat->Nat->Dyadic)(v:Nat)(x:Nat->Dyadic):Nat->Nat->Dyadic:=λa b=>if a=v then x b else p a b
theorem Tu (h n1 n0 u1:Nat)(h1:2147483648<=n1)(h2:n1<4294967296)(h0:n0<4294967296)(hh:h<n1*4294967296+n0)(hu:u1<4294967296):
 (h*4294967296+u1)/(n1*4294967296+n0)<=h/n1/\h/n1<=4294967297/\h/n1*n1+h%n1=h/\h%n1<4294967296:=by
 have hd:=Nat.div_add_mod h n1;have hm:=Nat.mod_lt h (show 0<n1 by omega);generalize h%n1=m at*;generalize hq:h/n1=q at*;have e:(n1*4294967296+n0) * (q+1)=n1*q*4294967296+n1*4294967296+n0* (q+1):=by grind
 have e2:q*n1=n1*q:=Nat.mul_comm _ _;refine⟨?_,?_,by omega,by omega⟩
 . have:(h*4294967296+u1)/(n1*4294967296+n0)<q+1:=by refine Nat.div_lt_of_lt_mul ?_;rw[e];generalize n0* (q+1)=z;generalize n1*q=P at*;omega
   omega
 . rcases Nat.lt_or_ge q 4294967298 with h3|h3
   . omega
   . have:n1*4294967298<=n1*q:=Nat.mul_le_mul_left _ h3;omega
theorem Tv (q r h n1 n0:Nat)(hJ:q*n1+r=h):q* (n1*4294967296+n0)+r*4294967296=h*4294967296+q*n0:=by subst hJ;grind
theorem Cz (q r h n1 n0 u1:Nat)(hy:0<n1)(hJ:q*n1+r=h)(hq:(h*4294967296+u1)/(n1*4294967296+n0)<=q)(hc:q*n0<=4294967296*r+u1):
 (h*4294967296+u1)/(n1*4294967296+n0)=q:=by
 have e:=Tv q r h n1 n0 hJ;refine Nat.le_antisymm hq ((Nat.le_div_iff_mul_le (by omega)).2 ?_);generalize q* (n1*4294967296+n0)=a at*;generalize q*n0=b at*;omega
theorem Gh (q r h n1 n0 u1:Nat)(hy:0<n1)(h0:n0<4294967296)(hJ:q*n1+r=h)(hq:(h*4294967296+u1)/(n1*4294967296+n0)<=q)(hT:q<=4294967296)(hr:4294967296<=r):
 (h*4294967296+u1)/(n1*4294967296+n0)=q:=by
 refine Cz q r h n1 n0 u1 hy hJ hq ?_;have:q*n0<=4294967296*4294967295:=Nat.mul_le_mul hT (by omega);omega
theorem Gi (q r h n1 n0 u1:Nat)(hh:h<n1*4294967296+n0)(hu:u1<4294967296)(hJ:q*n1+r=h)(hq:(h*4294967296+u1)/(n1*4294967296+n0)<=q)(hc:4294967296<=q\/4294967296*r+u1<q*n0):
 0<q/\(q-1) *n1+(r+n1)=h/\(h*4294967296+u1)/(n1*4294967296+n0)<=q-1:=by
 have hq0:0<q:=by
  rcases Nat.eq_zero_or_pos q with h3|h3
  . subst h3;rcases hc with hc|hc
    . omega
    . rw[Nat.zero_mul]at hc;omega
  . exact h3
 obtain⟨k,rfl⟩:∃k,q=k+1:=⟨q-1,by omega⟩;have e:=Tv (k+1) r h n1 n0 hJ;refine⟨hq0,?_,?_⟩
 . rw[Nat.add_sub_cancel,<-hJ,Nat.add_mul,Nat.one_mul];omega
 . rw [Nat.add_sub_cancel];have:(h*4294967296+u1)/(n1*4294967296+n0)<k+1:=by
    refine Nat.div_lt_of_lt_mul ?_;rw[Nat.mul_comm (n1*4294967296+n0) (k+1)];rcases hc with hc|hc
    . have h3:4294967296* (n1*4294967296+n0)<=(k+1) * (n1*4294967296+n0):=Nat.mul_le_mul_right _ hc;generalize (k+1) * (n1*4294967296+n0)=a at*;omega
    . generalize (k+1) * (n1*4294967296+n0)=a at*;generalize (k+1) *n0=b at*;omega
   omega
theorem afN (h u1 u0 y q1:Nat)(hy:0<y)(hq1:(h*4294967296+u1)/y=q1):
 (h*18446744073709551616+(u1*4294967296+u0))/y=q1*4294967296+((h*4294967296+u1)%y*4294967296+u0)/y:=by
 have hd:=Nat.div_add_mod (h*4294967296+u1) y;rw[hq1]at hd;have e:h*18446744073709551616+(u1*4294967296+u0)=((h*4294967296+u1)%y*4294967296+u0)+y* (q1*4294967296):=by
  have:y* (q1*4294967296)=y*q1*4294967296:=by grind
  rw[this];omega
 rw[e,Nat.add_mul_div_left _ _ hy];omega
theorem Tj (A low k j:Nat)(hl:low<WW^k):dg (A*WW^k+low) j=if j<k then dg low j else dg A (j-k):=by
 unfold dg;split
 . rename_i hj
   obtain⟨m,rfl⟩:∃m,k=j+1+m:=⟨k-(j+1),by omega⟩;have e:A*WW^(j+1+m)+low=low+WW^j* (WW* (A*WW^m)):=by rw[show j+1+m=j+(1+m)by omega,Nat.pow_add,Nat.pow_add,Nat.pow_one];grind
   rw[e,Nat.add_mul_div_left _ _ (dY j),Nat.add_mul_mod_self_left]
 . rename_i hj
   obtain⟨m,rfl⟩:∃m,j=k+m:=⟨j-k,by omega⟩;rw[Nat.add_sub_cancel_left,Nat.pow_add,<-Nat.div_div_eq_div_mul,Nat.add_comm,Nat.add_mul_div_right _ _ (dY k),Nat.div_eq_of_lt hl,Nat.zero_add]
theorem agG {P by' n:Nat}(hn:0<n)(hP:P<by'*WW)(hb1:0<dg by' (n-1))(KX:by'<WW^n):P/by'<=(if dg P n<dg by' (n-1)then(dg P n*WW+dg P (n-1))/dg by' (n-1)else WW-1):=by
 obtain⟨k,rfl⟩:∃k,n=k+1:=⟨n-1,by omega⟩;rw[Nat.add_sub_cancel]at*;have hby:0<by':=by
  rcases Nat.eq_zero_or_pos by' with h|h
  . subst h;unfold dg at hb1;simp at hb1
  . exact h
 have hq:P/by'<WW:=Nat.div_lt_of_lt_mul hP;split
 . have qP:P<WW^(k+1+1):=by exact Nat.lt_trans hP (by rw[Nat.pow_succ];exact Nat.mul_lt_mul_of_pos_right KX jr)
   have e1:P/WW^k=dg P (k+1) *WW+dg P k:=by unfold dg;have h1:P/WW^(k+1)%WW=P/WW^(k+1):=Nat.mod_eq_of_lt (by rw[Nat.div_lt_iff_lt_mul (dY _)];rw[Nat.pow_succ,Nat.mul_comm]at qP;exact qP);rw[h1,Nat.pow_succ,<-Nat.div_div_eq_div_mul,Nat.mul_comm];exact(Nat.div_add_mod _ _).symm
   have e2:by'/WW^k=dg by' k:=by unfold dg;exact(Nat.mod_eq_of_lt (by rw[Nat.div_lt_iff_lt_mul (dY _)];rw[Nat.pow_succ,Nat.mul_comm]at KX;exact KX)).symm
   rw[<-e1,<-e2];rw[<-e2]at hb1;refine(Nat.le_div_iff_mul_le hb1).2 ?_;refine(Nat.le_div_iff_mul_le (dY k)).2 ?_;have h3:by'/WW^k*WW^k<=by':=Nat.div_mul_le_self _ _;have h4:P/by'*by'<=P:=Nat.div_mul_le_self _ _;rw[Nat.mul_assoc];exact Nat.le_trans (Nat.mul_le_mul_left _ h3) h4
 . have:=jr;omega
def fe (f:Nat->Nat->Int):Int:=
 f 0 0* (f 1 1* (f 2 2*f 3 3-f 2 3*f 3 2)-f 1 2* (f 2 1*f 3 3-f 2 3*f 3 1)+f 1 3* (f 2 1*f 3 2-f 2 2*f 3 1))
 -f 0 1* (f 1 0* (f 2 2*f 3 3-f 2 3*f 3 2)-f 1 2* (f 2 0*f 3 3-f 2 3*f 3 0)+f 1 3* (f 2 0*f 3 2-f 2 2*f 3 0))
 +f 0 2* (f 1 0* (f 2 1*f 3 3-f 2 3*f 3 1)-f 1 1* (f 2 0*f 3 3-f 2 3*f 3 0)+f 1 3* (f 2 0*f 3 1-f 2 1*f 3 0))
 -f 0 3* (f 1 0* (f 2 1*f 3 2-f 2 2*f 3 1)-f 1 1* (f 2 0*f 3 2-f 2 2*f 3 0)+f 1 2* (f 2 0*f 3 1-f 2 1*f 3 0))
def vQ (g:Nat->Nat->Int)(a b:Nat):Int:=g 0 0* (g 1 1*g a b-g 1 b*g a 1)-g 0 1* (g 1 0*g a b-g 1 b*g a 0)+g 0 b* (g 1 0*g a 1-g 1 1*g a 0)
theorem PM (g:Nat->Nat->Int)(k r s:Nat)(last:Int)(hr:k<r)(hs:k<s):cd (dM g k last) r s=dM (cd g r s) k last:=by
 funext a b
 unfold cd dM cB;have e1:(k<if a=r then s else if a=s then r else a)↔k<a:=by
  by_cases h1:a=r
  . rw[if_pos h1];omega
  . rw[if_neg h1];by_cases h2:a=s
    . rw[if_pos h2];omega
    . rw[if_neg h2]
 have e2:(if k=r then s else if k=s then r else k)=k:=by rw[if_neg (by omega),if_neg (by omega)]
 simp only[e2];by_cases h:k<a/\k<b
 . rw[if_pos h,if_pos ⟨e1.2 h.1,h.2⟩]
 . rw[if_neg h,if_neg (λh2=>h ⟨e1.1 h2.1,h2.2⟩)]
theorem oM (g:Nat->Nat->Int)(k r s b:Nat)(hr:k<r)(hs:k<s):cd g r s k b=g k b:=by unfold cd;rw[if_neg (by omega),if_neg (by omega)]
theorem afA (f:Nat->Nat->Int)(m:Nat)(hm:m<4):fe (cd f 0 m)=if 0<m then-fe f else fe f:=by
 obtain rfl|rfl|rfl|rfl:m=0\/m=1\/m=2\/m=3:=by omega
 . simp[fe,cd]
 . simp[fe,cd];grind
 . simp[fe,cd];grind
 . simp[fe,cd];grind
theorem afB (f:Nat->Nat->Int)(m:Nat)(hm:m<3):fe (cd f 1 (1+m))=if 0<m then-fe f else fe f:=by
 obtain rfl|rfl|rfl:m=0\/m=1\/m=2:=by omega
 . simp[fe,cd]
 . simp[fe,cd];grind
 . simp[fe,cd];grind
theorem afC (f:Nat->Nat->Int)(m:Nat)(hm:m<2):fe (cd f 2 (2+m))=if 0<m then-fe f else fe f:=by
 obtain rfl|rfl:m=0\/m=1:=by omega
 . simp[fe,cd]
 . simp[fe,cd];grind
theorem aeX (g:Nat->Nat->Int):g 0 0* (g 0 0*fe g)=cB g 0 1 1* (cB g 0 2 2*cB g 0 3 3-cB g 0 2 3*cB g 0 3 2)-cB g 0 1 2* (cB g 0 2 1*cB g 0 3 3-cB g 0 2 3*cB g 0 3 1)+cB g 0 1 3* (cB g 0 2 1*cB g 0 3 2-cB g 0 2 2*cB g 0 3 1):=by unfold cB fe;grind
theorem Yl (g:Nat->Nat->Int)(a b:Nat)(ha:1<a)(hb:1<b):cB (dM g 0 1) 1 a b=g 0 0*vQ g a b:=by unfold cB dM vQ cB;rw[if_pos (by omega),if_pos (by omega),if_pos (by omega),if_pos (by omega)];simp only[Int.ediv_one];grind
theorem Zt (g:Nat->Nat->Int):vQ g 3 3*vQ g 2 2-vQ g 3 2*vQ g 2 3=cB g 0 1 1*fe g:=by unfold cB vQ fe;grind
def lV (g:Nat->Nat->Int):Nat->Nat->Int:=dM (dM g 0 1) 1 (g 0 0)
theorem EE (g:Nat->Nat->Int)(h0:g 0 0≠0)(a b:Nat)(ha:1<a)(hb:1<b):lV g a b=vQ g a b:=by
 unfold lV;show(if 1<a/\1<b then cB (dM g 0 1) 1 a b/g 0 0 else _)=_
 rw[if_pos ⟨ha,hb⟩,Yl g a b ha hb,Int.mul_ediv_cancel_left _ h0]
theorem OC (g:Nat->Nat->Int)(a b:Nat)(ha:0<a)(hb:0<b):dM g 0 1 a b=cB g 0 a b:=by unfold dM;rw[if_pos ⟨ha,hb⟩,Int.ediv_one]
theorem Zr (g:Nat->Nat->Int)(m:Nat):cd (lV g) 2 (2+m)=lV (cd g 2 (2+m)):=by unfold lV;rw[PM _ 1 2 (2+m) _ (by omega) (by omega),PM _ 0 2 (2+m) _ (by omega) (by omega),oM g 0 2 (2+m) 0 (by omega) (by omega)]
theorem Ja (g:Nat->Nat->Int)(m:Nat):cd (dM g 0 1) 1 (1+m)=dM (cd g 1 (1+m)) 0 1:=PM _ 0 1 (1+m) _ (by omega) (by omega)
theorem akD (g:Nat->Nat->Int)(h0:g 0 0≠0)(h1:cB g 0 1 1≠0)(h:∀a,2<=a->a<4->lV g a 2=0):fe g=0:=by
 have h2:=h 2 (by omega) (by omega);have h3:=h 3 (by omega) (by omega);rw[EE g h0 _ _ (by omega) (by omega)]at h2 h3;have e:=Zt g;rw[h2,h3,Int.zero_mul,Int.mul_zero,Int.sub_zero]at e;rcases Int.mul_eq_zero.1 e.symm with e2|e2
 . exact absurd e2 h1
 . exact e2
theorem Xp (g:Nat->Nat->Int)(h0:g 0 0≠0)(_h1:cB g 0 1 1≠0):cB (lV g) 2 3 3=cB g 0 1 1*fe g:=by unfold cB;rw[EE g h0 _ _ (by omega) (by omega),EE g h0 _ _ (by omega) (by omega),EE g h0 _ _ (by omega) (by omega),EE g h0 _ _ (by omega) (by omega)];exact Zt g
theorem aed (g:Nat->Nat->Int)(t:Bool)(h0:g 0 0≠0)(h1:cB g 0 1 1≠0):eQ 4 2 2 (lV g) (cB g 0 1 1) t=if t then-fe g else fe g:=by
 unfold eQ;split
 . rename_i h
   have:=akD g h0 h1 (lS h);simp[this]
 . rename_i m h
   have hm:=kV h;have hs:=afC g m (by omega);obtain⟨g',hg⟩:∃g',cd g 2 (2+m)=g':=⟨_,rfl⟩;have jv:g' 0 0=g 0 0:=by rw[<-hg];exact oM g 0 2 (2+m) 0 (by omega) (by omega)
   have e11:cB g' 0 1 1=cB g 0 1 1:=by unfold cB;rw[<-hg,oM g 0 2 (2+m) _ (by omega) (by omega),oM g 0 2 (2+m) _ (by omega) (by omega),oM g 1 2 (2+m) _ (by omega) (by omega),oM g 1 2 (2+m) _ (by omega) (by omega)]
   rw[Zr,hg];rw[hg]at hs;have hn:lV g' 2 2=lV g' 2 2:=rfl;have hl:=Xp g' (by rw[jv];exact h0) (by rw[e11];exact h1);have hf:dM (lV g') 2 (cB g 0 1 1) 3 3=fe g':=by
    show(if 2<3/\2<3 then cB (lV g') 2 3 3/cB g 0 1 1 else _)=_
    rw[if_pos (by omega),hl,e11,Int.mul_ediv_cancel_left _ h1]
   unfold eQ;split
   . rename_i h2
     have h3:=lS h2 3 (by omega) (by omega);rw[hf,hs]at h3;by_cases hm0:0<m<;>simp[hm0]at h3<;>simp[h3]
   . rename_i m2 h2
     have hm2:=kV h2;obtain rfl:m2=0:=by omega
     simp only[eQ];have hz:cd (dM (lV g') 2 (cB g 0 1 1)) 3 (3+0) 3 3=fe g':=by rw[<-hf];simp[cd]
     show(if((t !=decide (0<m)) !=decide (0<0))=true then-_ else _)=_
     rw[hz,hs];by_cases hm0:0<m<;>cases t<;>simp[hm0]
theorem akC (g:Nat->Nat->Int)(h0:g 0 0≠0)(h:∀a,1<=a->a<4->dM g 0 1 a 1=0):fe g=0:=by
 have h1:=h 1 (by omega) (by omega);have h2:=h 2 (by omega) (by omega);have h3:=h 3 (by omega) (by omega);rw[OC g _ _ (by omega) (by omega)]at h1 h2 h3;have e:=aeX g;have e0:g 0 0* (g 0 0*fe g)=0:=by rw[e,h1,h2,h3];grind
 rcases Int.mul_eq_zero.1 e0 with e2|e2
 . exact absurd e2 h0
 . rcases Int.mul_eq_zero.1 e2 with e3|e3
   . exact absurd e3 h0
   . exact e3
theorem aec (g:Nat->Nat->Int)(t:Bool)(h0:g 0 0≠0):eQ 4 3 1 (dM g 0 1) (g 0 0) t=if t then-fe g else fe g:=by
 unfold eQ;split
 . rename_i h
   have:=akC g h0 (lS h);simp[this]
 . rename_i m h
   have hm:=kV h;have hs:=afB g m (by omega);obtain⟨g',hg⟩:∃g',cd g 1 (1+m)=g':=⟨_,rfl⟩;have jv:g' 0 0=g 0 0:=by rw[<-hg];exact oM g 0 1 (1+m) 0 (by omega) (by omega)
   rw[Ja,hg];rw[hg]at hs;have e1:dM g' 0 1 1 1=cB g' 0 1 1:=OC g' 1 1 (by omega) (by omega);have h1:cB g' 0 1 1≠0:=by rw[<-e1,<-hg,<-Ja];have:=hm.2;unfold cd;rw[if_pos rfl];exact this
   have h2:=aed g' (t !=decide (0<m)) (by rw[jv];exact h0) h1;unfold lV at h2;rw[jv]at h2;rw[e1,h2,hs];by_cases hm0:0<m<;>cases t<;>simp[hm0]
theorem aeb (f:Nat->Nat->Int):eQ 4 4 0 f 1 false=fe f:=by
 unfold eQ;split
 . rename_i h
   have h0:=lS h 0 (by omega) (by omega);have h1:=lS h 1 (by omega) (by omega);have h2:=lS h 2 (by omega) (by omega);have h3:=lS h 3 (by omega) (by omega);unfold fe;rw[h0,h1,h2,h3];grind
 . rename_i m h
   have hm:=kV h;have hs:=afA f m (by omega);simp only[Nat.zero_add]at hm⊢;have hp:cd f 0 m 0 0≠0:=by simpa[cd]using hm.2
   rw[aec (cd f 0 m) _ hp,hs];by_cases hm0:0<m<;>simp[hm0]
theorem agb (g:Nat->Nat->Int)(h0:g 0 0≠0)(h1:cB g 0 1 1≠0):gy 4 2 2 (lV g) (cB g 0 1 1):=by
 unfold gy;split
 . trivial
 . rename_i m h
   have hm:=kV h;obtain⟨g',hg⟩:∃g',cd g 2 (2+m)=g':=⟨_,rfl⟩;have jv:g' 0 0=g 0 0:=by rw[<-hg];exact oM g 0 2 (2+m) 0 (by omega) (by omega)
   have e11:cB g' 0 1 1=cB g 0 1 1:=by unfold cB;rw[<-hg,oM g 0 2 (2+m) _ (by omega) (by omega),oM g 0 2 (2+m) _ (by omega) (by omega),oM g 1 2 (2+m) _ (by omega) (by omega),oM g 1 2 (2+m) _ (by omega) (by omega)]
   rw[Zr,hg];refine⟨λa b h2 h3 h4 h5=>?_,?_⟩
   . obtain rfl:a=3:=by omega
     obtain rfl:b=3:=by omega
     rw[Xp g' (by rw[jv];exact h0) (by rw[e11];exact h1),e11];exact Int.dvd_mul_right _ _
   . unfold gy;split
     . trivial
     . exact⟨λa b h1 h2=>by omega,by unfold gy;trivial⟩
theorem aga (f:Nat->Nat->Int):gy 4 4 0 f 1:=by
 unfold gy;split
 . trivial
 . rename_i m h
   have hm:=kV h;simp only[Nat.zero_add]at hm⊢;obtain⟨g,hg⟩:∃g,cd f 0 m=g:=⟨_,rfl⟩;have h0:g 0 0≠0:=by rw[<-hg];simpa[cd]using hm.2
   rw[hg];refine⟨λa b _ _ _ _=>Int.one_dvd _,?_⟩;unfold gy;split
   . trivial
   . rename_i m2 h2
     have hm2:=kV h2;obtain⟨g',hg'⟩:∃g',cd g 1 (1+m2)=g':=⟨_,rfl⟩;have jv:g' 0 0=g 0 0:=by rw[<-hg'];exact oM g 0 1 (1+m2) 0 (by omega) (by omega)
     have e1:dM g' 0 1 1 1=cB g' 0 1 1:=OC g' 1 1 (by omega) (by omega);have h1:cB g' 0 1 1≠0:=by rw[<-e1,<-hg',<-Ja];have:=hm2.2;unfold cd;rw[if_pos rfl];exact this
     rw[Ja,hg',e1];refine⟨λa b h3 h4 h5 h6=>?_,?_⟩
     . rw[Yl g' a b h3 h5,jv];exact Int.dvd_mul_right _ _
     . have:=agb g' (by rw[jv];exact h0) h1;unfold lV at this;rw[jv]at this;exact this
end Go.Proofs.YtdaadlblknpipaaGreatDoor
