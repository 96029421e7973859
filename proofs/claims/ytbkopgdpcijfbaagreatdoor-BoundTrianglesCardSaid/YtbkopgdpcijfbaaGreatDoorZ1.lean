/- Plain facts on numbers written in digits to the base 2^64 and on bytes,the highest first. No program here. -/
set_option linter.all false
set_option maxRecDepth 100000
set_option maxHeartbeats 16000000
namespace Go.Proofs.YtbkopgdpcijfbaaGreatDoor
def WW :Nat:=18446744073709551616
def ke :WW=18446744073709551616:=rfl
def kg :0<WW:=by decide
def mI :WW=2^64:=by decide
def dU (k:Nat):0<WW^k:=Nat.pow_pos kg
def ln (v:Nat):Nat:=if v=0 then 0 else Nat.log2 v/64+1
def mJ (k:Nat):WW^k=2^(64*k):=by rw[mI,<-Nat.pow_mul]
def eU (v:Nat):v<WW^ln v:=by
 unfold ln;split
 . subst v;simp
 . rename_i h
   rw[mJ];refine Nat.lt_of_lt_of_le (Nat.lt_log2_self (n:=v)) (Nat.pow_le_pow_right (by decide) ?_);omega
def jM {v n:Nat}(h:v<WW^n):ln v<=n:=by
 unfold ln;split
 . omega
 . rename_i h0
   rw[mJ]at h;have:=(Nat.log2_lt h0).2 h;omega
def ahm {v n:Nat}(h:v<WW^(n+1))(h':WW^n<=v):ln v=n+1:=by
 have h1:=jM h;have h2:¬ln v<=n:=λhle=>by have:=eU v;have:=Nat.pow_le_pow_right kg hle;omega
 omega
def Wx :ln 0=0:=rfl
def OQ {v:Nat}(h:0<v):0<ln v:=by unfold ln;split<;>omega
def dg (v j:Nat):Nat:=v/WW^j%WW
def kj (v j:Nat):dg v j<WW:=Nat.mod_lt _ kg
def aAG {v k:Nat}(h:v<WW^(k+1))(h0:dg v k=0):v<WW^k:=by
 unfold dg at h0;have h1:v/WW^k<WW:=by rw[Nat.div_lt_iff_lt_mul (dU k)];rw[Nat.pow_succ]at h;rwa [Nat.mul_comm]at h
 rw[Nat.mod_eq_of_lt h1]at h0;rcases Nat.lt_or_ge v (WW^k)with h2|h2
 . exact h2
 . have:=Nat.div_pos h2 (dU k);omega
def ajv {v k:Nat}(h0:dg v k≠0):WW^k<=v:=by
 rcases Nat.lt_or_ge v (WW^k)with h2|h2
 . exact absurd (by unfold dg;rw[Nat.div_eq_of_lt h2];simp) h0
 . exact h2
def ww {v k j:Nat}(h:v<WW^k)(hj:k<=j):dg v j=0:=by unfold dg;rw[Nat.div_eq_of_lt (Nat.lt_of_lt_of_le h (Nat.pow_le_pow_right kg hj))];simp
def CJ (v i:Nat):v%WW^(i+1)=v%WW^i+WW^i*dg v i:=by unfold dg;rw[Nat.pow_succ,Nat.mod_mul]
def acr {v n j:Nat}(h:j<n):dg (v%WW^n) j=dg v j:=by unfold dg;obtain⟨d,rfl⟩:∃d,n=j+1+d:=⟨n-(j+1),by omega⟩;rw[Nat.pow_add,Nat.mod_mul,Nat.pow_succ,Nat.mod_mul];rw[show v%WW^j+WW^j* (v/WW^j%WW)+WW^j*WW* (v/(WW^j*WW)%WW^d)=v%WW^j+WW^j* ((v/WW^j%WW)+WW* (v/(WW^j*WW)%WW^d))by rw[Nat.mul_add,Nat.mul_assoc,Nat.add_assoc]];rw[Nat.add_mul_div_left _ _ (dU j),Nat.div_eq_of_lt (Nat.mod_lt _ (dU j)),Nat.zero_add,Nat.add_mul_mod_self_left,Nat.mod_mod]
def cy (v u m i:Nat):Nat:=(v%WW^i+u%WW^i*m)/WW^i
def aca (v u m:Nat):cy v u m 0=0:=by simp[cy,Nat.mod_one]
def aqE (v u m i:Nat)(hm:m<WW):cy v u m i<WW:=by
 unfold cy;rw[Nat.div_lt_iff_lt_mul (dU i)];have h1:=Nat.mod_lt v (dU i);have h2:=Nat.mod_lt u (dU i);generalize v%WW^i=a at*;generalize u%WW^i=b at*;generalize WW^i=M at*;have h3:b*m<=b* (WW-1):=Nat.mul_le_mul_left _ (by omega);have h4:b* (WW-1)<=(M-1) * (WW-1):=Nat.mul_le_mul_right _ (by omega);have h5:(M-1) * (WW-1)+(M-1)=(M-1) *WW:=by
  have:WW=(WW-1)+1:=by have:=kg;omega
  rw(occs:=.pos [2]) [this];rw[Nat.mul_add,Nat.mul_one]
 have h6:(M-1) *WW<=M*WW:=Nat.mul_le_mul_right _ (by omega);have h7:(M-1) *WW+WW=M*WW:=by
  have:M=(M-1)+1:=by omega
  rw(occs:=.pos [2]) [this];rw[Nat.add_mul,Nat.one_mul]
 have:=kg;rw[Nat.mul_comm WW M];omega
def ab9 (v u m i:Nat):(dg v i+dg u i*m+cy v u m i)%WW=dg (v+u*m) i/\(dg v i+dg u i*m+cy v u m i)/WW=cy v u m (i+1):=by
 have hM:=dU i;have e1:v=v%WW^i+WW^i* (v/WW^i):=(Nat.mod_add_div v _).symm;have e2:u=u%WW^i+WW^i* (u/WW^i):=(Nat.mod_add_div u _).symm;constructor
 . unfold dg cy;have e3:(v+u*m)/WW^i=v/WW^i+u/WW^i*m+(v%WW^i+u%WW^i*m)/WW^i:=by
    conv=>lhs;rw[e1,e2]
    rw[show v%WW^i+WW^i* (v/WW^i)+(u%WW^i+WW^i* (u/WW^i)) *m=(v%WW^i+u%WW^i*m)+WW^i* (v/WW^i+u/WW^i*m)by rw[Nat.add_mul,Nat.mul_add,Nat.mul_assoc];omega]
    rw[Nat.add_mul_div_left _ _ hM];omega
   rw[e3,Nat.add_mod,Nat.add_mod (v/WW^i+u/WW^i*m),Nat.add_mod (v/WW^i%WW),Nat.add_mod (v/WW^i),Nat.mod_mod,Nat.mul_mod (u/WW^i%WW),Nat.mod_mod,<-Nat.mul_mod]
 . unfold cy;rw[CJ v,CJ u,Nat.pow_succ]
   rw[show v%WW^i+WW^i*dg v i+(u%WW^i+WW^i*dg u i) *m=(v%WW^i+u%WW^i*m)+WW^i* (dg v i+dg u i*m)by rw[Nat.add_mul,Nat.mul_add,Nat.mul_assoc];omega]
   rw[<-Nat.div_div_eq_div_mul,Nat.add_mul_div_left _ _ hM,Nat.add_comm]
def bw (v u i:Nat):Nat:=if v%WW^i<u%WW^i then 1 else 0
def apJ (v u:Nat):bw v u 0=0:=by simp[bw,Nat.mod_one]
def abE (v u i:Nat):bw v u i<=1:=by unfold bw;split<;>omega
def apI (v u i:Nat):bw v u (i+1)=if dg v i<dg u i+bw v u i then 1 else 0:=by
 have h1:=Nat.mod_lt v (dU i);have h2:=Nat.mod_lt u (dU i);unfold bw;rw[CJ v,CJ u];generalize dg v i=a;generalize dg u i=b;generalize v%WW^i=r at*;generalize u%WW^i=s at*;generalize WW^i=M at*;have key:(r+M*a<s+M*b)↔(a<b+if r<s then 1 else 0):=by
  rcases Nat.lt_trichotomy a b with h|h|h
  . have:M* (a+1)<=M*b:=Nat.mul_le_mul_left _ h;rw[Nat.mul_add]at this;constructor
    . intro _;split<;>omega
    . intro _;omega
  . subst h;split<;>omega
  . have:M* (b+1)<=M*a:=Nat.mul_le_mul_left _ h;rw[Nat.mul_add]at this;constructor
    . intro _;omega
    . intro h';exfalso;revert h';split<;>omega
 simp only[key]
def apH (v u i:Nat)(hu:u<=v):(dg v i+WW-dg u i-bw v u i)%WW=dg (v-u) i:=by
 -- the digit of the difference
 have h1:=Nat.mod_lt v (dU i);have h2:=Nat.mod_lt u (dU i);have hM:=dU i;have hb:=abE v u i;have du:=kj u i;have e1:v=v%WW^i+WW^i* (v/WW^i):=(Nat.mod_add_div v _).symm;have e2:u=u%WW^i+WW^i* (u/WW^i):=(Nat.mod_add_div u _).symm;have e3:(v-u)/WW^i+bw v u i+u/WW^i=v/WW^i:=by
  unfold bw;generalize v%WW^i=r at*;generalize u%WW^i=s at*;generalize v/WW^i=x at*;generalize u/WW^i=y at*;generalize WW^i=M at*;have hxy:y<=x:=by
   rcases Nat.lt_or_ge x y with h|h
   . have:M* (x+1)<=M*y:=Nat.mul_le_mul_left _ h;rw[Nat.mul_add]at this;omega
   . exact h
  obtain⟨d,rfl⟩:∃d,x=y+d:=⟨x-y,by omega⟩;split
  . rename_i hrs
    have hd:1<=d:=by
     rcases Nat.eq_zero_or_pos d with h|h
     . subst h;simp at e1;omega
     . exact h
    obtain⟨d',rfl⟩:∃d',d=d'+1:=⟨d-1,by omega⟩;have:v-u=(M+r-s)+M*d':=by rw[Nat.mul_add,Nat.mul_add]at e1;omega
    rw[this,Nat.add_mul_div_left _ _ hM,Nat.div_eq_of_lt (by omega)];omega
  . have:v-u=(r-s)+M*d:=by rw[Nat.mul_add]at e1;omega
    rw[this,Nat.add_mul_div_left _ _ hM,Nat.div_eq_of_lt (by omega)];omega
 unfold dg at*;generalize (v-u)/WW^i=q at*;rw[<-e3];generalize bw v u i=c at*;generalize u/WW^i=y at*;have hW:=kg
 -- (q + c + y) % W + W - y % W - c ≡ q
 have e4:((q+c+y)%WW+WW-y%WW-c)%WW=q%WW:=by
  have a1:y=y%WW+WW* (y/WW):=(Nat.mod_add_div y _).symm;have a2:(q+c+y)%WW=(q+c+y%WW)%WW:=by rw[Nat.add_mod,Nat.add_mod (q+c) (y%WW),Nat.mod_mod]
  rw[a2];generalize y%WW=z at*;have a3:q=q%WW+WW* (q/WW):=(Nat.mod_add_div q _).symm;have a4:(q+c+z)%WW=(q%WW+c+z)%WW:=by conv=>lhs;rw[a3,show q%WW+WW* (q/WW)+c+z=(q%WW+c+z)+WW* (q/WW)by omega,Nat.add_mul_mod_self_left]
  rw[a4];have hq:=Nat.mod_lt q hW;generalize q%WW=p at*;rcases Nat.lt_or_ge (p+c+z) WW with h|h
  . rw[Nat.mod_eq_of_lt h,show p+c+z+WW-z-c=p+WW by omega,Nat.add_mod_right,Nat.mod_eq_of_lt hq]
  . rcases Nat.lt_or_ge (p+c+z) (2*WW)with h'|h'
    . have:(p+c+z)%WW=p+c+z-WW:=by rw[Nat.mod_eq_sub_mod h,Nat.mod_eq_of_lt (by omega)]
      rw[this,show p+c+z-WW+WW-z-c=p by omega,Nat.mod_eq_of_lt hq]
    . exfalso;omega
 exact e4
def Fp :Nat->List UInt8->Nat
 |a,[]=>a
 |a,c::l=>Fp (a*256+c.toNat) l
def nv (l:List UInt8):Nat:=Fp 0 l
def aw9 (a:Nat)(l:List UInt8):Fp a l=a*256^l.length+nv l:=by
 unfold nv;induction l generalizing a with
 |nil=>simp[Fp]
 |cons c l ih=>simp only[Fp,List.length_cons];rw[ih,ih (0*256+c.toNat),Nat.pow_succ,Nat.add_mul,Nat.zero_mul,Nat.zero_add,<-Nat.add_assoc,Nat.mul_assoc,Nat.mul_comm 256]
def AQ :nv []=0:=rfl
def wW (c:UInt8)(l:List UInt8):nv (c::l)=c.toNat*256^l.length+nv l:=by
 show Fp (0*256+c.toNat) l=_
 rw[aw9];simp
def Pe (a b:List UInt8):nv (a++b)=nv a*256^b.length+nv b:=by
 induction a with
 |nil=>simp[AQ]
 |cons c a ih=>rw[List.cons_append,wW,wW,ih,List.length_append,Nat.pow_add,Nat.add_mul,Nat.add_assoc,Nat.mul_assoc]
def jH (l:List UInt8):nv l<256^l.length:=by
 induction l with
 |nil=>simp[AQ]
 | cons c l ih=>
   rw[wW,List.length_cons,Nat.pow_succ];have hc:c.toNat<=255:=by have:=c.toNat_lt;omega
   have:=Nat.mul_le_mul_right (256^l.length) hc;omega
def AO :Nat->Nat->List UInt8
 |0,_=>[]
 |f+1,n=>if n=0 then[]else AO f (n/256)++[UInt8.ofNat (n%256)]
def nt (n:Nat):List UInt8:=AO n n
def aw5 (f g n:Nat)(hf:n<=f)(hg:n<=g):AO f n=AO g n:=by
 induction f generalizing g n with
 | zero => obtain rfl:n=0:=by omega
           cases g<;>simp[AO]
 | succ f ih=>
   cases g with
   | zero => obtain rfl:n=0:=by omega
             simp[AO]
   | succ g=>
     simp only[AO];split
     . rfl
     . rw[ih g (n/256) (by omega) (by omega)]
def AP :nt 0=[]:=rfl
def Kt {n:Nat}(h:0<n):nt n=nt (n/256)++[UInt8.ofNat (n%256)]:=by unfold nt;obtain⟨m,rfl⟩:∃m,n=m+1:=⟨n-1,by omega⟩;rw[AO,if_neg (by omega),aw5 m ((m+1)/256) _ (by omega) (by omega)]
def MB (n:Nat):(UInt8.ofNat (n%256)).toNat=n%256:=by simp[UInt8.toNat_ofNat']
def jP (n:Nat):nv (nt n)=n:=by
 induction n using Nat.strongRecOn with
 | _ n ih=>
   rcases Nat.eq_zero_or_pos n with h|h
   . subst h;rfl
   . rw[Kt h,Pe,ih (n/256) (by omega),wW,MB];simp[AQ];omega
def Pb {n:Nat}(h:0<n):nt n≠[]:=by rw[Kt h];simp
def ayH {α:Type}{P:List α->Prop}(h0:P [])(h1:∀l c,P l->P (l++[c]))(l:List α):P l:=by
 have:∀m:List α,P m.reverse:=by
  intro m;induction m with
  |nil=>exact h0
  |cons a m ih=>rw[List.reverse_cons];exact h1 _ _ ih
 have:=this l.reverse;rwa [List.reverse_reverse]at this
def ah5 (l:List UInt8)(h:∀c,l.head?=some c->c≠0):nt (nv l)=l:=by
 revert h;refine ayH (P:=λl=>(∀c,l.head?=some c->c≠0)->nt (nv l)=l) ?_ ?_ l
 . intro _;rfl
 . intro l c ih h;have hv:nv (l++[c])=nv l*256+c.toNat:=by rw[Pe,wW];simp[AQ]
   have hc:=c.toNat_lt;have hl:∀a,l.head?=some a->a≠0:=by
    intro a ha;apply h;cases l with
    |nil=>simp at ha
    |cons x y=>simpa using ha
   have hpos:0<nv (l++[c]):=by
    rw[hv];cases l with
    |nil=>have:=h c (by simp);have:c.toNat≠0:=λh0=>this (UInt8.toNat_inj.1 (by simpa using h0));omega
    |cons x y=>have hx:=h x (by simp);have:x.toNat≠0:=λh0=>hx (UInt8.toNat_inj.1 (by simpa using h0));have h1:1*256^y.length<=x.toNat*256^y.length:=Nat.mul_le_mul_right _ (by omega);have h2:0<256^y.length:=Nat.pow_pos (by decide);rw[wW];omega
   rw[Kt hpos,hv,show(nv l*256+c.toNat)/256=nv l by omega,show(nv l*256+c.toNat)%256=c.toNat by omega,ih hl];simp
def oz {n k:Nat}(h:n<256^k):(nt n).length<=k:=by
 induction k generalizing n with
 | zero => obtain rfl:n=0:=by simpa using h
           simp[AP]
 | succ k ih=>
   rcases Nat.eq_zero_or_pos n with h0|h0
   . subst h0;simp[AP]
   . rw[Kt h0,List.length_append,List.length_singleton];have:=ih (n:=n/256) (by rw[Nat.div_lt_iff_lt_mul (by decide)];rwa [Nat.pow_succ]at h);omega
def avN (n:Nat):n<256^(nt n).length:=by have:=jH (nt n);rwa [jP]at this
def WR (n:Nat):nt n=[]↔n=0:=by
 constructor
 . intro h;rcases Nat.eq_zero_or_pos n with h0|h0
   . exact h0
   . exact absurd h (Pb h0)
 . intro h;subst h;rfl
def axc (l:List UInt8)(k:Nat)(hk:k<l.length):
 nv (l.drop (l.length-1-k))=nv (l.drop (l.length-k))+l[l.length-1-k].toNat*256^k:=by
 rw[List.drop_eq_getElem_cons (show l.length-1-k<l.length by omega),wW,Nat.add_comm];rw[show l.length-1-k+1=l.length-k by omega,List.length_drop,show l.length-(l.length-k)=k by omega]
def ML (V D q j:Nat)(h:V/WW^q+D<WW):dg (V+D*WW^q) j=if j=q then dg V q+D else dg V j:=by
 have hW:=kg;have e:(V+D*WW^q)/WW^q=V/WW^q+D:=by rw[Nat.mul_comm,Nat.add_mul_div_left _ _ (dU q)]
 rcases Nat.lt_trichotomy j q with hj|hj|hj
 . rw[if_neg (by omega)];obtain⟨d,rfl⟩:∃d,q=j+1+d:=⟨q-j-1,by omega⟩;unfold dg;rw[show D*WW^(j+1+d)=WW^j* (WW* (D*WW^d))by rw[Nat.pow_add,Nat.pow_succ];simp only[Nat.mul_comm,Nat.mul_left_comm,Nat.mul_assoc]];rw[Nat.add_mul_div_left _ _ (dU j),Nat.add_mul_mod_self_left]
 . subst hj;rw[if_pos rfl];unfold dg;rw[e,Nat.mod_eq_of_lt h,Nat.mod_eq_of_lt (by omega)]
 . rw[if_neg (by omega)];have h1:V+D*WW^q<WW^(q+1):=by rw[Nat.pow_succ,Nat.mul_comm (WW^q)];exact(Nat.div_lt_iff_lt_mul (dU q)).1 (by rw[e];exact h)
   have h2:V<WW^(q+1):=by omega
   rw[ww h1 (by omega),ww h2 (by omega)]
def axt {X C i:Nat}(h:X<2^i):X|||C*2^i=X+C*2^i:=by rw[Nat.mul_comm C,Nat.or_comm,<-Nat.two_pow_add_eq_or_of_lt h,Nat.add_comm]
def Xh (k:Nat):256^k=WW^(k/8) *2^(k%8*8):=by rw[mJ,<-Nat.pow_add,show(256:Nat)=2^8 by rfl,<-Nat.pow_mul];congr 1;omega
def apP (V C k:Nat)(hV:V<256^k)(hC:C<256):
 dg V (k/8)<2^(k%8*8)/\C*2^(k%8*8)<WW/\∀j,dg (V+C*256^k) j=if j=k/8 then dg V (k/8)+C*2^(k%8*8)else dg V j:=by
 have h1:V/WW^(k/8)<2^(k%8*8):=by rw[Xh]at hV;rw[Nat.div_lt_iff_lt_mul (dU _),Nat.mul_comm];exact hV
 have h2:2^(k%8*8) *256<=WW:=by rw[show(256:Nat)=2^8 by rfl,<-Nat.pow_add,mI];exact Nat.pow_le_pow_right (by decide) (by omega)
 have h3:C*2^(k%8*8)+2^(k%8*8)<=2^(k%8*8) *256:=by have:2^(k%8*8) * (C+1)<=2^(k%8*8) *256:=Nat.mul_le_mul_left _ (by omega);rw[Nat.mul_add,Nat.mul_comm]at this;omega
 have h4:dg V (k/8)=V/WW^(k/8):=by unfold dg;exact Nat.mod_eq_of_lt (by omega)
 refine⟨by rw[h4];exact h1,by have:=Nat.pow_pos (n:=k%8*8) (show 0<2 by decide);omega,λj=>?_⟩;rw[Xh,Nat.mul_comm (WW^(k/8)),<-Nat.mul_assoc];exact ML V _ (k/8) j (by omega)
def aq1 (u r i:Nat)(hr:r<64):dg (u/2^r) i=dg u i/2^r+dg u (i+1) *2^(64-r)%WW:=by
 unfold dg;have VC:2^r*2^(64-r)=WW:=by rw[<-Nat.pow_add,mI];congr 1;omega
 have hp:=Nat.pow_pos (n:=r) (show 0<2 by decide);have hq:=Nat.pow_pos (n:=64-r) (show 0<2 by decide);rw[Nat.div_div_eq_div_mul,Nat.mul_comm (2^r),<-Nat.div_div_eq_div_mul,Nat.pow_succ,<-Nat.div_div_eq_div_mul];generalize u/WW^i=x;rw[show x/WW%WW*2^(64-r)%WW=(x/WW) *2^(64-r)%WW by rw[Nat.mul_mod,Nat.mod_mod,<-Nat.mul_mod]];have e:x=x%WW+WW* (x/WW):=(Nat.mod_add_div x WW).symm;have hx:=Nat.mod_lt x kg;generalize x%WW=a at*;generalize x/WW=y at*;subst e;rw[<-VC]at hx⊢;generalize 2^r=p at*;generalize 2^(64-r)=q at*;rw[Nat.mul_assoc,Nat.add_mul_div_left _ _ hp];have ha:a/p<q:=by rw[Nat.div_lt_iff_lt_mul hp,Nat.mul_comm];exact hx
 -- (a/p + q*y) % (p*q) = a/p + (y*q) % (p*q)
 rw[Nat.mul_comm p q,Nat.mod_mul,Nat.add_mul_mod_self_left,Nat.mod_eq_of_lt ha,Nat.add_mul_div_left _ _ hq,Nat.div_eq_of_lt ha,Nat.zero_add];rw[Nat.mul_comm y q,Nat.mod_mul,Nat.mul_mod_right,Nat.mul_div_cancel_left _ hq,Nat.zero_add]
def ajQ (d r:Nat)(hd:d<WW)(hr:r<64):∃c,d*2^r%WW=c*2^r/\d*2^r/WW=d/2^(64-r)/\d/2^(64-r)<2^r/\c*2^r+2^r<=WW/\d*2^r=c*2^r+WW* (d/2^(64-r)):=by
 have VC:2^(64-r) *2^r=WW:=by rw[<-Nat.pow_add,mI];congr 1;omega
 have hp:=Nat.pow_pos (n:=r) (show 0<2 by decide);have hq:=Nat.pow_pos (n:=64-r) (show 0<2 by decide);rw[<-VC]at hd⊢;generalize 2^r=p at*;generalize 2^(64-r)=q at*;refine⟨d%q,?_,?_,?_,?_,?_⟩
 . rw[Nat.mul_mod_mul_right]
 . rw[Nat.mul_div_mul_right _ _ hp]
 . rw[Nat.div_lt_iff_lt_mul hq,Nat.mul_comm];exact hd
 . have:=Nat.mod_lt d hq;have:(d%q+1) *p<=q*p:=Nat.mul_le_mul_right _ this;rw[Nat.add_mul]at this;omega
 . have e:=(Nat.mod_add_div d q).symm;conv=>lhs;rw[e]
   rw[Nat.add_mul,Nat.mul_assoc,Nat.mul_assoc,Nat.mul_comm (d/q)]
def aAV (v n i:Nat):∃c,c*2^(n%64)=dg v i*2^(n%64)%WW/\dg (v%WW^i*2^n) (i+n/64)<2^(n%64)/\c*2^(n%64)+2^(n%64)<=WW/\
 dg (v%WW^i*2^n) (i+n/64+1)=0/\dg v i/2^(64-n%64)<WW/\
 ∀j,dg (v%WW^(i+1) *2^n) j=if j=i+n/64+1 then dg v i/2^(64-n%64)else if j=i+n/64 then dg (v%WW^i*2^n) (i+n/64)+c*2^(n%64)else dg (v%WW^i*2^n) j:=by
 have hr:n%64<64:=Nat.mod_lt _ (by decide);obtain⟨c,h1,h2,h3,h4,h5⟩:=ajQ (dg v i) (n%64) (kj v i) hr;have hn:2^n=2^(n%64) *WW^(n/64):=by rw[mJ,<-Nat.pow_add];congr 1;omega
 have hv:=Nat.mod_lt v (dU i);have hp:=Nat.pow_pos (n:=n%64) (show 0<2 by decide);have hpW:2^(n%64)<=WW:=by rw[mI];exact Nat.pow_le_pow_right (by decide) (by omega)
 refine⟨c,h1.symm,?_⟩;have eA:v%WW^(i+1) *2^n=v%WW^i*2^n+c*2^(n%64) *WW^(i+n/64)+dg v i/2^(64-n%64) *WW^(i+n/64+1):=by
  have h6:dg v i*2^(n%64) *WW^(i+n/64)=(c*2^(n%64)+WW* (dg v i/2^(64-n%64))) *WW^(i+n/64):=by rw[h5]
  rw[CJ,hn];rw[Nat.pow_succ WW (i+n/64)];rw[Nat.add_mul]at h6;rw[Nat.add_mul,Nat.add_assoc];congr 1;rw[Nat.pow_add WW i]at*;have e1:WW^i*dg v i* (2^(n%64) *WW^(n/64))=dg v i*2^(n%64) * (WW^i*WW^(n/64)):=by simp only[Nat.mul_comm,Nat.mul_left_comm,Nat.mul_assoc]
  rw[e1,h6];congr 1;simp only[Nat.mul_comm,Nat.mul_left_comm,Nat.mul_assoc]
 have atd:v%WW^i*2^n/WW^(i+n/64)<2^(n%64):=by rw[Nat.div_lt_iff_lt_mul (dU _),hn,Nat.pow_add,<-Nat.mul_assoc,<-Nat.mul_assoc,Nat.mul_comm (2^(n%64))];exact Nat.mul_lt_mul_of_pos_right (Nat.mul_lt_mul_of_pos_right hv hp) (dU _)
 have atJ:dg (v%WW^i*2^n) (i+n/64)=v%WW^i*2^n/WW^(i+n/64):=by unfold dg;exact Nat.mod_eq_of_lt (by omega)
 have hVW:v%WW^i*2^n<WW^(i+n/64+1):=by rw[Nat.pow_succ,Nat.mul_comm (WW^_)];exact(Nat.div_lt_iff_lt_mul (dU _)).1 (by omega)
 have hd1:dg (v%WW^i*2^n) (i+n/64+1)=0:=ww hVW (Nat.le_refl _);have hhi:dg v i/2^(64-n%64)<WW:=by omega
 refine⟨by rw[atJ];exact atd,h4,hd1,hhi,λj=>?_⟩;have hV2:v%WW^i*2^n+c*2^(n%64) *WW^(i+n/64)<WW^(i+n/64+1):=by rw[Nat.pow_succ,Nat.mul_comm (WW^(i+n/64)) WW];refine(Nat.div_lt_iff_lt_mul (dU _)).1 ?_;rw[Nat.mul_comm (c*2^(n%64)),Nat.add_mul_div_left _ _ (dU _)];omega
 rw[eA,ML _ _ (i+n/64+1) j (by rw[Nat.div_eq_of_lt hV2];omega)];rw[ML _ (c*2^(n%64)) (i+n/64) _ (by omega),ML _ (c*2^(n%64)) (i+n/64) _ (by omega)];by_cases hj:j=i+n/64+1
 . rw[if_pos hj,if_pos hj,if_neg (by omega),hd1,Nat.zero_add]
 . rw[if_neg hj,if_neg hj]
def acw (h n1 n0 u1:Nat)(h1:2147483648<=n1)(h2:n1<4294967296)(h0:n0<4294967296)(hh:h<n1*4294967296+n0)(hu:u1<4294967296):
 (h*4294967296+u1)/(n1*4294967296+n0)<=h/n1/\h/n1<=4294967297/\h/n1*n1+h%n1=h/\h%n1<4294967296:=by
 have hd:=Nat.div_add_mod h n1;have hm:=Nat.mod_lt h (show 0<n1 by omega);generalize h%n1=m at*;generalize hq:h/n1=q at*;have e:(n1*4294967296+n0) * (q+1)=n1*q*4294967296+n1*4294967296+n0* (q+1):=by grind
 have e2:q*n1=n1*q:=Nat.mul_comm _ _;refine⟨?_,?_,by omega,by omega⟩
 . have:(h*4294967296+u1)/(n1*4294967296+n0)<q+1:=by refine Nat.div_lt_of_lt_mul ?_;rw[e];generalize n0* (q+1)=z;generalize n1*q=P at*;omega
   omega
 . rcases Nat.lt_or_ge q 4294967298 with h3|h3
   . omega
   . have:n1*4294967298<=n1*q:=Nat.mul_le_mul_left _ h3;omega
def acx (q r h n1 n0:Nat)(hJ:q*n1+r=h):q* (n1*4294967296+n0)+r*4294967296=h*4294967296+q*n0:=by subst hJ;grind
def Ix (q r h n1 n0 u1:Nat)(hy:0<n1)(hJ:q*n1+r=h)(hq:(h*4294967296+u1)/(n1*4294967296+n0)<=q)(hc:q*n0<=4294967296*r+u1):
 (h*4294967296+u1)/(n1*4294967296+n0)=q:=by
 have e:=acx q r h n1 n0 hJ;refine Nat.le_antisymm hq ((Nat.le_div_iff_mul_le (by omega)).2 ?_);generalize q* (n1*4294967296+n0)=a at*;generalize q*n0=b at*;omega
def MO (q r h n1 n0 u1:Nat)(hy:0<n1)(h0:n0<4294967296)(hJ:q*n1+r=h)(hq:(h*4294967296+u1)/(n1*4294967296+n0)<=q)(hT:q<=4294967296)(hr:4294967296<=r):
 (h*4294967296+u1)/(n1*4294967296+n0)=q:=by
 refine Ix q r h n1 n0 u1 hy hJ hq ?_;have:q*n0<=4294967296*4294967295:=Nat.mul_le_mul hT (by omega);omega
def MP (q r h n1 n0 u1:Nat)(hh:h<n1*4294967296+n0)(hu:u1<4294967296)(hJ:q*n1+r=h)(hq:(h*4294967296+u1)/(n1*4294967296+n0)<=q)(hc:4294967296<=q\/4294967296*r+u1<q*n0):
 0<q/\(q-1) *n1+(r+n1)=h/\(h*4294967296+u1)/(n1*4294967296+n0)<=q-1:=by
 have hq0:0<q:=by
  rcases Nat.eq_zero_or_pos q with h3|h3
  . subst h3;rcases hc with hc|hc
    . omega
    . rw[Nat.zero_mul]at hc;omega
  . exact h3
 obtain⟨k,rfl⟩:∃k,q=k+1:=⟨q-1,by omega⟩;have e:=acx (k+1) r h n1 n0 hJ;refine⟨hq0,?_,?_⟩
 . rw[Nat.add_sub_cancel,<-hJ,Nat.add_mul,Nat.one_mul];omega
 . rw [Nat.add_sub_cancel];have:(h*4294967296+u1)/(n1*4294967296+n0)<k+1:=by
    refine Nat.div_lt_of_lt_mul ?_;rw[Nat.mul_comm (n1*4294967296+n0) (k+1)];rcases hc with hc|hc
    . have h3:4294967296* (n1*4294967296+n0)<=(k+1) * (n1*4294967296+n0):=Nat.mul_le_mul_right _ hc;generalize (k+1) * (n1*4294967296+n0)=a at*;omega
    . generalize (k+1) * (n1*4294967296+n0)=a at*;generalize (k+1) *n0=b at*;omega
   omega
def arb (h u1 u0 y q1:Nat)(hy:0<y)(hq1:(h*4294967296+u1)/y=q1):
 (h*18446744073709551616+(u1*4294967296+u0))/y=q1*4294967296+((h*4294967296+u1)%y*4294967296+u0)/y:=by
 have hd:=Nat.div_add_mod (h*4294967296+u1) y;rw[hq1]at hd;have e:h*18446744073709551616+(u1*4294967296+u0)=((h*4294967296+u1)%y*4294967296+u0)+y* (q1*4294967296):=by
  have:y* (q1*4294967296)=y*q1*4294967296:=by grind
  rw[this];omega
 rw[e,Nat.add_mul_div_left _ _ hy];omega
def aco (A low k j:Nat)(hl:low<WW^k):dg (A*WW^k+low) j=if j<k then dg low j else dg A (j-k):=by
 unfold dg;split
 . rename_i hj
   obtain⟨m,rfl⟩:∃m,k=j+1+m:=⟨k-(j+1),by omega⟩;have e:A*WW^(j+1+m)+low=low+WW^j* (WW* (A*WW^m)):=by rw[show j+1+m=j+(1+m)by omega,Nat.pow_add,Nat.pow_add,Nat.pow_one];grind
   rw[e,Nat.add_mul_div_left _ _ (dU j),Nat.add_mul_mod_self_left]
 . rename_i hj
   obtain⟨m,rfl⟩:∃m,j=k+m:=⟨j-k,by omega⟩;rw[Nat.add_sub_cancel_left,Nat.pow_add,<-Nat.div_div_eq_div_mul,Nat.add_comm,Nat.add_mul_div_right _ _ (dU k),Nat.div_eq_of_lt hl,Nat.zero_add]
def asJ {P by' n:Nat}(hn:0<n)(hP:P<by'*WW)(hb1:0<dg by' (n-1))(SB:by'<WW^n):P/by'<=(if dg P n<dg by' (n-1)then(dg P n*WW+dg P (n-1))/dg by' (n-1)else WW-1):=by
 obtain⟨k,rfl⟩:∃k,n=k+1:=⟨n-1,by omega⟩;rw[Nat.add_sub_cancel]at*;have hby:0<by':=by
  rcases Nat.eq_zero_or_pos by' with h|h
  . subst h;unfold dg at hb1;simp at hb1
  . exact h
 have hq:P/by'<WW:=Nat.div_lt_of_lt_mul hP;split
 . have kU:P<WW^(k+1+1):=by exact Nat.lt_trans hP (by rw[Nat.pow_succ];exact Nat.mul_lt_mul_of_pos_right SB kg)
   have e1:P/WW^k=dg P (k+1) *WW+dg P k:=by unfold dg;have h1:P/WW^(k+1)%WW=P/WW^(k+1):=Nat.mod_eq_of_lt (by rw[Nat.div_lt_iff_lt_mul (dU _)];rw[Nat.pow_succ,Nat.mul_comm]at kU;exact kU);rw[h1,Nat.pow_succ,<-Nat.div_div_eq_div_mul,Nat.mul_comm];exact(Nat.div_add_mod _ _).symm
   have e2:by'/WW^k=dg by' k:=by unfold dg;exact(Nat.mod_eq_of_lt (by rw[Nat.div_lt_iff_lt_mul (dU _)];rw[Nat.pow_succ,Nat.mul_comm]at SB;exact SB)).symm
   rw[<-e1,<-e2];rw[<-e2]at hb1;refine(Nat.le_div_iff_mul_le hb1).2 ?_;refine(Nat.le_div_iff_mul_le (dU k)).2 ?_;have h3:by'/WW^k*WW^k<=by':=Nat.div_mul_le_self _ _;have h4:P/by'*by'<=P:=Nat.div_mul_le_self _ _;rw[Nat.mul_assoc];exact Nat.le_trans (Nat.mul_le_mul_left _ h3) h4
 . have:=kg;omega
def dW (n:Nat)(f:Nat->Nat->Dyadic):Dyadic:=match n with
 |0=>1
 |1=>f 0 0
 |2=>f 0 0*f 1 1-f 0 1*f 1 0
 |3=>f 0 0* (f 1 1*f 2 2-f 1 2*f 2 1)-f 0 1* (f 1 0*f 2 2-f 1 2*f 2 0)+f 0 2* (f 1 0*f 2 1-f 1 1*f 2 0)
 | 4=>f 0 0* (f 1 1* (f 2 2*f 3 3-f 2 3*f 3 2)-f 1 2* (f 2 1*f 3 3-f 2 3*f 3 1)+f 1 3* (f 2 1*f 3 2-f 2 2*f 3 1))
   -f 0 1* (f 1 0* (f 2 2*f 3 3-f 2 3*f 3 2)-f 1 2* (f 2 0*f 3 3-f 2 3*f 3 0)+f 1 3* (f 2 0*f 3 2-f 2 2*f 3 0))
   +f 0 2* (f 1 0* (f 2 1*f 3 3-f 2 3*f 3 1)-f 1 1* (f 2 0*f 3 3-f 2 3*f 3 0)+f 1 3* (f 2 0*f 3 1-f 2 1*f 3 0))
   -f 0 3* (f 1 0* (f 2 1*f 3 2-f 2 2*f 3 1)-f 1 1* (f 2 0*f 3 2-f 2 2*f 3 0)+f 1 2* (f 2 0*f 3 1-f 2 1*f 3 0))
 |_=>0
def bK (n:Nat)(p:Nat->Nat->Dyadic):Dyadic:=dW n λa b=>p (a+1) b-p 0 b
def Iz (n:Nat)(p:Nat->Nat->Dyadic):bK n p=dW n λa b=>p (a+1) b-p 0 b:=rfl
def dI (p:Nat->Nat->Dyadic)(v:Nat)(x:Nat->Dyadic):Nat->Nat->Dyadic:=λa b=>if a=v then x b else p a b
def jN (p:Nat->Nat->Dyadic)(h:Dyadic)(i j v:Nat):Nat->Nat->Dyadic:=λa b=>if a=v then(p i b+p j b) *h else p a b
def ajP (p:Nat->Nat->Dyadic)(v:Nat):dI p v (p v)=p:=by
 funext a b;unfold dI;split
 . rename_i h;rw[h]
 . rfl
def ajO (p:Nat->Nat->Dyadic)(i j:Nat)(x y:Nat->Dyadic)(h:i≠j):dI (dI p i x) j y=dI (dI p j y) i x:=by
 funext a b;unfold dI
 by_cases h1:a=j
 . rw[if_pos h1,if_neg (by omega),if_pos h1]
 . rw[if_neg h1];by_cases h2:a=i
   . rw[if_pos h2,if_pos h2]
   . rw[if_neg h2,if_neg h2,if_neg h1]
def art (p:Nat->Nat->Dyadic)(i j:Nat)(hij:i<j)(hj:j<=1)(x y:Nat->Dyadic):bK 1 (dI (dI p i x) j y)= -bK 1 (dI (dI p i y) j x):=by
 have hc:(i=0/\j=1):=by omega
 rcases hc with⟨rfl,rfl⟩<;>(simp[bK,dW,dI];grind)
def aru (p:Nat->Nat->Dyadic)(i j:Nat)(hij:i<j)(hj:j<=2)(x y:Nat->Dyadic):bK 2 (dI (dI p i x) j y)= -bK 2 (dI (dI p i y) j x):=by
 have hc:(i=0/\j=1)\/(i=0/\j=2)\/(i=1/\j=2):=by omega
 rcases hc with⟨rfl,rfl⟩ |⟨rfl,rfl⟩ |⟨rfl,rfl⟩<;>(simp[bK,dW,dI];grind)
def arv (p:Nat->Nat->Dyadic)(i j:Nat)(hij:i<j)(hj:j<=3)(x y:Nat->Dyadic):bK 3 (dI (dI p i x) j y)= -bK 3 (dI (dI p i y) j x):=by
 have hc:(i=0/\j=1)\/(i=0/\j=2)\/(i=0/\j=3)\/(i=1/\j=2)\/(i=1/\j=3)\/(i=2/\j=3):=by omega
 rcases hc with⟨rfl,rfl⟩ |⟨rfl,rfl⟩ |⟨rfl,rfl⟩ |⟨rfl,rfl⟩ |⟨rfl,rfl⟩ |⟨rfl,rfl⟩<;>(simp[bK,dW,dI];grind)
def arw (p:Nat->Nat->Dyadic)(i j:Nat)(hij:i<j)(hj:j<=4)(x y:Nat->Dyadic):bK 4 (dI (dI p i x) j y)= -bK 4 (dI (dI p i y) j x):=by
 have hc:(i=0/\j=1)\/(i=0/\j=2)\/(i=0/\j=3)\/(i=0/\j=4)\/(i=1/\j=2)\/(i=1/\j=3)\/(i=1/\j=4)\/(i=2/\j=3)\/(i=2/\j=4)\/(i=3/\j=4):=by omega
 rcases hc with⟨rfl,rfl⟩ |⟨rfl,rfl⟩ |⟨rfl,rfl⟩ |⟨rfl,rfl⟩ |⟨rfl,rfl⟩ |⟨rfl,rfl⟩ |⟨rfl,rfl⟩ |⟨rfl,rfl⟩ |⟨rfl,rfl⟩ |⟨rfl,rfl⟩<;>(simp[bK,dW,dI];grind)
def ars (n:Nat)(hn:1<=n)(bZ:n<=4)(p:Nat->Nat->Dyadic)(i j:Nat)(hij:i≠j)(hi:i<=n)(hj:j<=n)(x y:Nat->Dyadic):bK n (dI (dI p i x) j y)= -bK n (dI (dI p i y) j x):=by
 have h1:∀i j x y,i<j->j<=n->bK n (dI (dI p i x) j y)= -bK n (dI (dI p i y) j x):=by
  intro i j x y h1 h2;have hc:n=1\/n=2\/n=3\/n=4:=by omega
  rcases hc with rfl|rfl|rfl|rfl
  . exact art p i j h1 h2 x y
  . exact aru p i j h1 h2 x y
  . exact arv p i j h1 h2 x y
  . exact arw p i j h1 h2 x y
 rcases Nat.lt_or_gt_of_ne hij with h2|h2
 . exact h1 i j x y h2 hj
 . rw[ajO p i j x y hij,ajO p i j y x hij];exact h1 j i y x h2 hi
def arq (n:Nat)(hn:1<=n)(bZ:n<=4)(p:Nat->Nat->Dyadic)(i j:Nat)(hij:i≠j)(hi:i<=n)(hj:j<=n)(x:Nat->Dyadic):bK n (dI (dI p i x) j x)=0:=by have:=ars n hn bZ p i j hij hi hj x x;grind
def arp (n:Nat)(hn:1<=n)(bZ:n<=4)(p:Nat->Nat->Dyadic)(i j:Nat)(hij:i≠j)(hi:i<=n)(hj:j<=n):bK n (dI p j (p i))=0:=by have:=arq n hn bZ p i j hij hi hj (p i);rwa [ajP]at this
def sP (f:Nat->Nat->Int)(n k:Nat):Option Nat:=(List.range (n-k)).find? λi=>f (k+i) k !=0
def bY (f:Nat->Nat->Int)(k m:Nat):Nat->Nat->Int:=λa b=>f (if a=k then m else if a=m then k else a) b
def cz (g:Nat->Nat->Int)(k a b:Nat):Int:=g a b*g k k-g a k*g k b
def dz (g:Nat->Nat->Int)(k:Nat)(last:Int):Nat->Nat->Int:=λa b=>if k<a/\k<b then cz g k a b/last else g a b
def eX (n:Nat):Nat->Nat->(Nat->Nat->Int)->Int->Bool->Int
 |0,_,_,last,turned=>if turned then-last else last
 | l+1,k,f,last,turned=>match sP f n k with
   |none=>0
   |some m=>eX n l (k+1) (dz (bY f k (k+m)) k last) (bY f k (k+m) k k) (turned !=decide (0<m))
def iz (n:Nat):Nat->Nat->(Nat->Nat->Int)->Int->Prop
 |0,_,_,_=>True
 | l+1,k,f,last=>match sP f n k with
   |none=>True
   |some m=>(∀a b,k<a->a<n->k<b->b<n->last∣cz (bY f k (k+m)) k a b)/\iz n l (k+1) (dz (bY f k (k+m)) k last) (bY f k (k+m) k k)
def ny {f:Nat->Nat->Int}{n k m:Nat}(h:sP f n k=some m):k+m<n/\f (k+m) k≠0:=by unfold sP at h;have h1:=List.find?_some h;have h2:=List.mem_of_find?_eq_some h;rw[List.mem_range]at h2;refine⟨by omega,?_⟩;simpa using h1
def oG {f:Nat->Nat->Int}{n k:Nat}(h:sP f n k=none):∀a,k<=a->a<n->f a k=0:=by intro a h1 h2;unfold sP at h;rw[List.find?_eq_none]at h;have:=h (a-k) (by rw[List.mem_range];omega);rw[show k+(a-k)=a by omega]at this;simpa using this
def BP (f:Nat->Nat->Int):Int:=f 0 0*f 1 1-f 0 1*f 1 0
def jC (f:Nat->Nat->Int):Int:=f 0 0* (f 1 1*f 2 2-f 1 2*f 2 1)-f 0 1* (f 1 0*f 2 2-f 1 2*f 2 0)+f 0 2* (f 1 0*f 2 1-f 1 1*f 2 0)
def aoU (f:Nat->Nat->Int):eX 1 1 0 f 1 false=f 0 0:=by
 unfold eX;split
 . rename_i h
   exact(oG h 0 (by omega) (by omega)).symm
 . rename_i m h
   have:=ny h;obtain rfl:m=0:=by omega
   simp[eX,bY]
def aoV (f:Nat->Nat->Int):eX 2 2 0 f 1 false=BP f:=by
 unfold eX;split
 . rename_i h
   have h0:=oG h 0 (by omega) (by omega);have h1:=oG h 1 (by omega) (by omega);simp[BP,h0,h1]
 . rename_i m h
   have hm:=ny h;unfold eX;split
   . rename_i h2
     have h1:=oG h2 1 (by omega) (by omega);obtain rfl|rfl:m=0\/m=1:=by omega
     . simp[dz,cz,bY]at h1;simp[BP];grind
     . simp[dz,cz,bY]at h1;simp[BP];grind
   . rename_i m2 h2
     have hm2:=ny h2;obtain rfl:m2=0:=by omega
     obtain rfl|rfl:m=0\/m=1:=by omega
     . simp[eX,dz,cz,bY,BP];grind
     . simp[eX,dz,cz,bY,BP];grind
def aqV (f:Nat->Nat->Int)(m:Nat)(hm:m<3):jC (bY f 0 m)=if 0<m then-jC f else jC f:=by
 obtain rfl|rfl|rfl:m=0\/m=1\/m=2:=by omega
 . simp[jC,bY]
 . simp[jC,bY];grind
 . simp[jC,bY];grind
def ah6 (g:Nat->Nat->Int)(m:Nat)(hm:m<2):cz (bY (dz g 0 1) 1 (1+m)) 1 2 2=g 0 0* (if 0<m then-jC g else jC g):=by
 obtain rfl|rfl:m=0\/m=1:=by omega
 . simp[cz,dz,bY,jC];grind
 . simp[cz,dz,bY,jC];grind
def axO (g:Nat->Nat->Int)(h0:g 0 0≠0)(h:∀a,1<=a->a<3->dz g 0 1 a 1=0):jC g=0:=by
 have h1:=h 1 (by omega) (by omega);have h2:=h 2 (by omega) (by omega);simp only[dz,cz]at h1 h2;rw[if_pos (by omega),Int.ediv_one]at h1 h2;have e:g 0 0*jC g=0:=by
  have e1:g 0 0* (g 0 0*jC g)=(g 1 1*g 0 0-g 1 0*g 0 1) * (g 2 2*g 0 0-g 2 0*g 0 2)-(g 1 2*g 0 0-g 1 0*g 0 2) * (g 2 1*g 0 0-g 2 0*g 0 1):=by unfold jC;grind
  rw[h1,h2,Int.zero_mul,Int.mul_zero,Int.sub_zero]at e1;rcases Int.mul_eq_zero.1 e1 with e2|e2
  . exact absurd e2 h0
  . exact e2
 rcases Int.mul_eq_zero.1 e with e2|e2
 . exact absurd e2 h0
 . exact e2
def aoX (g:Nat->Nat->Int)(t:Bool)(h0:g 0 0≠0):eX 3 2 1 (dz g 0 1) (g 0 0) t=if t then-jC g else jC g:=by
 unfold eX;split
 . rename_i h
   have:=axO g h0 (oG h);simp[this]
 . rename_i m h
   have hm:=ny h;have hn:=ah6 g m (by omega);unfold eX;split
   . rename_i h2
     have h3:=oG h2 2 (by omega) (by omega);have h4:cz (bY (dz g 0 1) 1 (1+m)) 1 2 2/g 0 0=0:=by simpa[dz]using h3
     rw[hn,Int.mul_ediv_cancel_left _ h0]at h4;split at h4<;>simp_all<;>omega
   . rename_i m2 h2
     have hm2:=ny h2;obtain rfl:m2=0:=by omega
     have h4:bY (dz (bY (dz g 0 1) 1 (1+m)) 1 (g 0 0)) 2 (2+0) 2 2=if 0<m then-jC g else jC g:=by rw[<-Int.mul_ediv_cancel_left (if 0<m then-jC g else jC g) h0,<-hn];simp[bY,dz]
     simp only[eX];show(if((t !=decide (0<m)) !=decide (0<0))=true then-_ else _)=_
     rw[h4];by_cases hm0:0<m<;>cases t<;>simp[hm0]
def aoW (f:Nat->Nat->Int):eX 3 3 0 f 1 false=jC f:=by
 unfold eX;split
 . rename_i h
   have h0:=oG h 0 (by omega) (by omega);have h1:=oG h 1 (by omega) (by omega);have h2:=oG h 2 (by omega) (by omega);simp[jC,h0,h1,h2]
 . rename_i m h
   have hm:=ny h;have hs:=aqV f m (by omega);simp only[Nat.zero_add]at hm⊢;have hp:bY f 0 m 0 0≠0:=by simpa[bY]using hm.2
   rw[aoX (bY f 0 m) _ hp,hs];by_cases hm0:0<m<;>simp[hm0]
def arL (f:Nat->Nat->Int):iz 1 1 0 f 1:=by
 unfold iz;split
 . trivial
 . exact⟨λa b h1 h2=>by omega,by unfold iz;trivial⟩
def arM (f:Nat->Nat->Int):iz 2 2 0 f 1:=by
 unfold iz;split
 . trivial
 . refine⟨λa b _ _ _ _=>Int.one_dvd _,?_⟩;unfold iz;split
   . trivial
   . exact⟨λa b h1 h2=>by omega,by unfold iz;trivial⟩
def arN (f:Nat->Nat->Int):iz 3 3 0 f 1:=by
 unfold iz;split
 . trivial
 . refine⟨λa b _ _ _ _=>Int.one_dvd _,?_⟩;unfold iz;split
   . trivial
   . rename_i m2 h2
     have hm2:=ny h2;refine⟨λa b h1 h2 h3 h4=>?_,?_⟩
     . obtain rfl:a=2:=by omega
       obtain rfl:b=2:=by omega
       rw[ah6 _ m2 (by omega)];exact Int.dvd_mul_right _ _
     . unfold iz;split
       . trivial
       . exact⟨λa b h1 h2=>by omega,by unfold iz;trivial⟩
def fp (f:Nat->Nat->Int):Int:=
 f 0 0* (f 1 1* (f 2 2*f 3 3-f 2 3*f 3 2)-f 1 2* (f 2 1*f 3 3-f 2 3*f 3 1)+f 1 3* (f 2 1*f 3 2-f 2 2*f 3 1))
 -f 0 1* (f 1 0* (f 2 2*f 3 3-f 2 3*f 3 2)-f 1 2* (f 2 0*f 3 3-f 2 3*f 3 0)+f 1 3* (f 2 0*f 3 2-f 2 2*f 3 0))
 +f 0 2* (f 1 0* (f 2 1*f 3 3-f 2 3*f 3 1)-f 1 1* (f 2 0*f 3 3-f 2 3*f 3 0)+f 1 3* (f 2 0*f 3 1-f 2 1*f 3 0))
 -f 0 3* (f 1 0* (f 2 1*f 3 2-f 2 2*f 3 1)-f 1 1* (f 2 0*f 3 2-f 2 2*f 3 0)+f 1 2* (f 2 0*f 3 1-f 2 1*f 3 0))
def AH (g:Nat->Nat->Int)(a b:Nat):Int:=g 0 0* (g 1 1*g a b-g 1 b*g a 1)-g 0 1* (g 1 0*g a b-g 1 b*g a 0)+g 0 b* (g 1 0*g a 1-g 1 1*g a 0)
def XS (g:Nat->Nat->Int)(k r s:Nat)(last:Int)(hr:k<r)(hs:k<s):bY (dz g k last) r s=dz (bY g r s) k last:=by
 funext a b
 unfold bY dz cz;have e1:(k<if a=r then s else if a=s then r else a)↔k<a:=by
  by_cases h1:a=r
  . rw[if_pos h1];omega
  . rw[if_neg h1];by_cases h2:a=s
    . rw[if_pos h2];omega
    . rw[if_neg h2]
 have e2:(if k=r then s else if k=s then r else k)=k:=by rw[if_neg (by omega),if_neg (by omega)]
 simp only[e2];by_cases h:k<a/\k<b
 . rw[if_pos h,if_pos ⟨e1.2 h.1,h.2⟩]
 . rw[if_neg h,if_neg (λh2=>h ⟨e1.1 h2.1,h2.2⟩)]
def sS (g:Nat->Nat->Int)(k r s b:Nat)(hr:k<r)(hs:k<s):bY g r s k b=g k b:=by unfold bY;rw[if_neg (by omega),if_neg (by omega)]
def aqW (f:Nat->Nat->Int)(m:Nat)(hm:m<4):fp (bY f 0 m)=if 0<m then-fp f else fp f:=by
 obtain rfl|rfl|rfl|rfl:m=0\/m=1\/m=2\/m=3:=by omega
 . simp[fp,bY]
 . simp[fp,bY];grind
 . simp[fp,bY];grind
 . simp[fp,bY];grind
def aqX (f:Nat->Nat->Int)(m:Nat)(hm:m<3):fp (bY f 1 (1+m))=if 0<m then-fp f else fp f:=by
 obtain rfl|rfl|rfl:m=0\/m=1\/m=2:=by omega
 . simp[fp,bY]
 . simp[fp,bY];grind
 . simp[fp,bY];grind
def aqY (f:Nat->Nat->Int)(m:Nat)(hm:m<2):fp (bY f 2 (2+m))=if 0<m then-fp f else fp f:=by
 obtain rfl|rfl:m=0\/m=1:=by omega
 . simp[fp,bY]
 . simp[fp,bY];grind
def ap2 (g:Nat->Nat->Int):g 0 0* (g 0 0*fp g)=cz g 0 1 1* (cz g 0 2 2*cz g 0 3 3-cz g 0 2 3*cz g 0 3 2)-cz g 0 1 2* (cz g 0 2 1*cz g 0 3 3-cz g 0 2 3*cz g 0 3 1)+cz g 0 1 3* (cz g 0 2 1*cz g 0 3 2-cz g 0 2 2*cz g 0 3 1):=by unfold cz fp;grind
def ah9 (g:Nat->Nat->Int)(a b:Nat)(ha:1<a)(hb:1<b):cz (dz g 0 1) 1 a b=g 0 0*AH g a b:=by unfold cz dz AH cz;rw[if_pos (by omega),if_pos (by omega),if_pos (by omega),if_pos (by omega)];simp only[Int.ediv_one];grind
def ajm (g:Nat->Nat->Int):AH g 3 3*AH g 2 2-AH g 3 2*AH g 2 3=cz g 0 1 1*fp g:=by unfold cz AH fp;grind
def oI (g:Nat->Nat->Int):Nat->Nat->Int:=dz (dz g 0 1) 1 (g 0 0)
def KU (g:Nat->Nat->Int)(h0:g 0 0≠0)(a b:Nat)(ha:1<a)(hb:1<b):oI g a b=AH g a b:=by
 unfold oI;show(if 1<a/\1<b then cz (dz g 0 1) 1 a b/g 0 0 else _)=_
 rw[if_pos ⟨ha,hb⟩,ah9 g a b ha hb,Int.mul_ediv_cancel_left _ h0]
def WV (g:Nat->Nat->Int)(a b:Nat)(ha:0<a)(hb:0<b):dz g 0 1 a b=cz g 0 a b:=by unfold dz;rw[if_pos ⟨ha,hb⟩,Int.ediv_one]
def ajl (g:Nat->Nat->Int)(m:Nat):bY (oI g) 2 (2+m)=oI (bY g 2 (2+m)):=by unfold oI;rw[XS _ 1 2 (2+m) _ (by omega) (by omega),XS _ 0 2 (2+m) _ (by omega) (by omega),sS g 0 2 (2+m) 0 (by omega) (by omega)]
def PL (g:Nat->Nat->Int)(m:Nat):bY (dz g 0 1) 1 (1+m)=dz (bY g 1 (1+m)) 0 1:=XS _ 0 1 (1+m) _ (by omega) (by omega)
def axR (g:Nat->Nat->Int)(h0:g 0 0≠0)(h1:cz g 0 1 1≠0)(h:∀a,2<=a->a<4->oI g a 2=0):fp g=0:=by
 have h2:=h 2 (by omega) (by omega);have h3:=h 3 (by omega) (by omega);rw[KU g h0 _ _ (by omega) (by omega)]at h2 h3;have e:=ajm g;rw[h2,h3,Int.zero_mul,Int.mul_zero,Int.sub_zero]at e;rcases Int.mul_eq_zero.1 e.symm with e2|e2
 . exact absurd e2 h1
 . exact e2
def ahb (g:Nat->Nat->Int)(h0:g 0 0≠0)(_h1:cz g 0 1 1≠0):cz (oI g) 2 3 3=cz g 0 1 1*fp g:=by unfold cz;rw[KU g h0 _ _ (by omega) (by omega),KU g h0 _ _ (by omega) (by omega),KU g h0 _ _ (by omega) (by omega),KU g h0 _ _ (by omega) (by omega)];exact ajm g
def ao0 (g:Nat->Nat->Int)(t:Bool)(h0:g 0 0≠0)(h1:cz g 0 1 1≠0):eX 4 2 2 (oI g) (cz g 0 1 1) t=if t then-fp g else fp g:=by
 unfold eX;split
 . rename_i h
   have:=axR g h0 h1 (oG h);simp[this]
 . rename_i m h
   have hm:=ny h;have hs:=aqY g m (by omega);obtain⟨g',hg⟩:∃g',bY g 2 (2+m)=g':=⟨_,rfl⟩;have oZ:g' 0 0=g 0 0:=by rw[<-hg];exact sS g 0 2 (2+m) 0 (by omega) (by omega)
   have e11:cz g' 0 1 1=cz g 0 1 1:=by unfold cz;rw[<-hg,sS g 0 2 (2+m) _ (by omega) (by omega),sS g 0 2 (2+m) _ (by omega) (by omega),sS g 1 2 (2+m) _ (by omega) (by omega),sS g 1 2 (2+m) _ (by omega) (by omega)]
   rw[ajl,hg];rw[hg]at hs;have hn:oI g' 2 2=oI g' 2 2:=rfl;have hl:=ahb g' (by rw[oZ];exact h0) (by rw[e11];exact h1);have hf:dz (oI g') 2 (cz g 0 1 1) 3 3=fp g':=by
    show(if 2<3/\2<3 then cz (oI g') 2 3 3/cz g 0 1 1 else _)=_
    rw[if_pos (by omega),hl,e11,Int.mul_ediv_cancel_left _ h1]
   unfold eX;split
   . rename_i h2
     have h3:=oG h2 3 (by omega) (by omega);rw[hf,hs]at h3;by_cases hm0:0<m<;>simp[hm0]at h3<;>simp[h3]
   . rename_i m2 h2
     have hm2:=ny h2;obtain rfl:m2=0:=by omega
     simp only[eX];have hz:bY (dz (oI g') 2 (cz g 0 1 1)) 3 (3+0) 3 3=fp g':=by rw[<-hf];simp[bY]
     show(if((t !=decide (0<m)) !=decide (0<0))=true then-_ else _)=_
     rw[hz,hs];by_cases hm0:0<m<;>cases t<;>simp[hm0]
def axQ (g:Nat->Nat->Int)(h0:g 0 0≠0)(h:∀a,1<=a->a<4->dz g 0 1 a 1=0):fp g=0:=by
 have h1:=h 1 (by omega) (by omega);have h2:=h 2 (by omega) (by omega);have h3:=h 3 (by omega) (by omega);rw[WV g _ _ (by omega) (by omega)]at h1 h2 h3;have e:=ap2 g;have e0:g 0 0* (g 0 0*fp g)=0:=by rw[e,h1,h2,h3];grind
 rcases Int.mul_eq_zero.1 e0 with e2|e2
 . exact absurd e2 h0
 . rcases Int.mul_eq_zero.1 e2 with e3|e3
   . exact absurd e3 h0
   . exact e3
def aoZ (g:Nat->Nat->Int)(t:Bool)(h0:g 0 0≠0):eX 4 3 1 (dz g 0 1) (g 0 0) t=if t then-fp g else fp g:=by
 unfold eX;split
 . rename_i h
   have:=axQ g h0 (oG h);simp[this]
 . rename_i m h
   have hm:=ny h;have hs:=aqX g m (by omega);obtain⟨g',hg⟩:∃g',bY g 1 (1+m)=g':=⟨_,rfl⟩;have oZ:g' 0 0=g 0 0:=by rw[<-hg];exact sS g 0 1 (1+m) 0 (by omega) (by omega)
   rw[PL,hg];rw[hg]at hs;have e1:dz g' 0 1 1 1=cz g' 0 1 1:=WV g' 1 1 (by omega) (by omega);have h1:cz g' 0 1 1≠0:=by rw[<-e1,<-hg,<-PL];have:=hm.2;unfold bY;rw[if_pos rfl];exact this
   have h2:=ao0 g' (t !=decide (0<m)) (by rw[oZ];exact h0) h1;unfold oI at h2;rw[oZ]at h2;rw[e1,h2,hs];by_cases hm0:0<m<;>cases t<;>simp[hm0]
def aoY (f:Nat->Nat->Int):eX 4 4 0 f 1 false=fp f:=by
 unfold eX;split
 . rename_i h
   have h0:=oG h 0 (by omega) (by omega);have h1:=oG h 1 (by omega) (by omega);have h2:=oG h 2 (by omega) (by omega);have h3:=oG h 3 (by omega) (by omega);unfold fp;rw[h0,h1,h2,h3];grind
 . rename_i m h
   have hm:=ny h;have hs:=aqW f m (by omega);simp only[Nat.zero_add]at hm⊢;have hp:bY f 0 m 0 0≠0:=by simpa[bY]using hm.2
   rw[aoZ (bY f 0 m) _ hp,hs];by_cases hm0:0<m<;>simp[hm0]
def arP (g:Nat->Nat->Int)(h0:g 0 0≠0)(h1:cz g 0 1 1≠0):iz 4 2 2 (oI g) (cz g 0 1 1):=by
 unfold iz;split
 . trivial
 . rename_i m h
   have hm:=ny h;obtain⟨g',hg⟩:∃g',bY g 2 (2+m)=g':=⟨_,rfl⟩;have oZ:g' 0 0=g 0 0:=by rw[<-hg];exact sS g 0 2 (2+m) 0 (by omega) (by omega)
   have e11:cz g' 0 1 1=cz g 0 1 1:=by unfold cz;rw[<-hg,sS g 0 2 (2+m) _ (by omega) (by omega),sS g 0 2 (2+m) _ (by omega) (by omega),sS g 1 2 (2+m) _ (by omega) (by omega),sS g 1 2 (2+m) _ (by omega) (by omega)]
   rw[ajl,hg];refine⟨λa b h2 h3 h4 h5=>?_,?_⟩
   . obtain rfl:a=3:=by omega
     obtain rfl:b=3:=by omega
     rw[ahb g' (by rw[oZ];exact h0) (by rw[e11];exact h1),e11];exact Int.dvd_mul_right _ _
   . unfold iz;split
     . trivial
     . exact⟨λa b h1 h2=>by omega,by unfold iz;trivial⟩
def arO (f:Nat->Nat->Int):iz 4 4 0 f 1:=by
 unfold iz;split
 . trivial
 . rename_i m h
   have hm:=ny h;simp only[Nat.zero_add]at hm⊢;obtain⟨g,hg⟩:∃g,bY f 0 m=g:=⟨_,rfl⟩;have h0:g 0 0≠0:=by rw[<-hg];simpa[bY]using hm.2
   rw[hg];refine⟨λa b _ _ _ _=>Int.one_dvd _,?_⟩;unfold iz;split
   . trivial
   . rename_i m2 h2
     have hm2:=ny h2;obtain⟨g',hg'⟩:∃g',bY g 1 (1+m2)=g':=⟨_,rfl⟩;have oZ:g' 0 0=g 0 0:=by rw[<-hg'];exact sS g 0 1 (1+m2) 0 (by omega) (by omega)
     have e1:dz g' 0 1 1 1=cz g' 0 1 1:=WV g' 1 1 (by omega) (by omega);have h1:cz g' 0 1 1≠0:=by rw[<-e1,<-hg',<-PL];have:=hm2.2;unfold bY;rw[if_pos rfl];exact this
     rw[PL,hg',e1];refine⟨λa b h3 h4 h5 h6=>?_,?_⟩
     . rw[ah9 g' a b h3 h5,oZ];exact Int.dvd_mul_right _ _
     . have:=arP g' (by rw[oZ];exact h0) h1;unfold oI at this;rw[oZ]at this;exact this
end Go.Proofs.YtbkopgdpcijfbaaGreatDoor
