/- Plain facts on numbers written in digits to the base 2^64 and on bytes,the highest first. No program here. -/
set_option linter.all false
set_option maxRecDepth 100000
set_option maxHeartbeats 16000000
namespace Go.Proofs.YtpfgffadgkkedaaGreatDoor
def WW :Nat:=18446744073709551616
def iG :WW=18446744073709551616:=rfl
def iN :0<WW:=by decide
def kd :WW=2^64:=by decide
def dH (k:Nat):0<WW^k:=Nat.pow_pos iN
def ln (v:Nat):Nat:=if v=0 then 0 else Nat.log2 v/64+1
def ke (k:Nat):WW^k=2^(64*k):=by rw[kd,<-Nat.pow_mul]
def ej (v:Nat):v<WW^ln v:=by
 unfold ln;split
 . subst v;simp
 . rename_i h
   rw[ke];refine Nat.lt_of_lt_of_le (Nat.lt_log2_self (n:=v)) (Nat.pow_le_pow_right (by decide) ?_);omega
def iy {v n:Nat}(h:v<WW^n):ln v<=n:=by
 unfold ln;split
 . omega
 . rename_i h0
   rw[ke]at h;have:=(Nat.log2_lt h0).2 h;omega
def aa7 {v n:Nat}(h:v<WW^(n+1))(h':WW^n<=v):ln v=n+1:=by
 have h1:=iy h;have h2:¬ln v<=n:=λhle=>by have:=ej v;have:=Nat.pow_le_pow_right iN hle;omega
 omega
def Qi :ln 0=0:=rfl
def Ju {v:Nat}(h:0<v):0<ln v:=by unfold ln;split<;>omega
def dg (v j:Nat):Nat:=v/WW^j%WW
def iQ (v j:Nat):dg v j<WW:=Nat.mod_lt _ iN
def asn {v k:Nat}(h:v<WW^(k+1))(h0:dg v k=0):v<WW^k:=by
 unfold dg at h0;have h1:v/WW^k<WW:=by rw[Nat.div_lt_iff_lt_mul (dH k)];rw[Nat.pow_succ]at h;rwa [Nat.mul_comm]at h
 rw[Nat.mod_eq_of_lt h1]at h0;rcases Nat.lt_or_ge v (WW^k)with h2|h2
 . exact h2
 . have:=Nat.div_pos h2 (dH k);omega
def acS {v k:Nat}(h0:dg v k≠0):WW^k<=v:=by
 rcases Nat.lt_or_ge v (WW^k)with h2|h2
 . exact absurd (by unfold dg;rw[Nat.div_eq_of_lt h2];simp) h0
 . exact h2
def rC {v k j:Nat}(h:v<WW^k)(hj:k<=j):dg v j=0:=by unfold dg;rw[Nat.div_eq_of_lt (Nat.lt_of_lt_of_le h (Nat.pow_le_pow_right iN hj))];simp
def yg (v i:Nat):v%WW^(i+1)=v%WW^i+WW^i*dg v i:=by unfold dg;rw[Nat.pow_succ,Nat.mod_mul]
def VS {v n j:Nat}(h:j<n):dg (v%WW^n) j=dg v j:=by unfold dg;obtain⟨d,rfl⟩:∃d,n=j+1+d:=⟨n-(j+1),by omega⟩;rw[Nat.pow_add,Nat.mod_mul,Nat.pow_succ,Nat.mod_mul];rw[show v%WW^j+WW^j* (v/WW^j%WW)+WW^j*WW* (v/(WW^j*WW)%WW^d)=v%WW^j+WW^j* ((v/WW^j%WW)+WW* (v/(WW^j*WW)%WW^d))by rw[Nat.mul_add,Nat.mul_assoc,Nat.add_assoc]];rw[Nat.add_mul_div_left _ _ (dH j),Nat.div_eq_of_lt (Nat.mod_lt _ (dH j)),Nat.zero_add,Nat.add_mul_mod_self_left,Nat.mod_mod]
def cy (v u m i:Nat):Nat:=(v%WW^i+u%WW^i*m)/WW^i
def VI (v u m:Nat):cy v u m 0=0:=by simp[cy,Nat.mod_one]
def ajV (v u m i:Nat)(hm:m<WW):cy v u m i<WW:=by
 unfold cy;rw[Nat.div_lt_iff_lt_mul (dH i)];have h1:=Nat.mod_lt v (dH i);have h2:=Nat.mod_lt u (dH i);generalize v%WW^i=a at*;generalize u%WW^i=b at*;generalize WW^i=M at*;have h3:b*m<=b* (WW-1):=Nat.mul_le_mul_left _ (by omega);have h4:b* (WW-1)<=(M-1) * (WW-1):=Nat.mul_le_mul_right _ (by omega);have h5:(M-1) * (WW-1)+(M-1)=(M-1) *WW:=by
  have:WW=(WW-1)+1:=by have:=iN;omega
  rw(occs:=.pos [2]) [this];rw[Nat.mul_add,Nat.mul_one]
 have h6:(M-1) *WW<=M*WW:=Nat.mul_le_mul_right _ (by omega);have h7:(M-1) *WW+WW=M*WW:=by
  have:M=(M-1)+1:=by omega
  rw(occs:=.pos [2]) [this];rw[Nat.add_mul,Nat.one_mul]
 have:=iN;rw[Nat.mul_comm WW M];omega
def VH (v u m i:Nat):(dg v i+dg u i*m+cy v u m i)%WW=dg (v+u*m) i/\(dg v i+dg u i*m+cy v u m i)/WW=cy v u m (i+1):=by
 have hM:=dH i;have e1:v=v%WW^i+WW^i* (v/WW^i):=(Nat.mod_add_div v _).symm;have e2:u=u%WW^i+WW^i* (u/WW^i):=(Nat.mod_add_div u _).symm;constructor
 . unfold dg cy;have e3:(v+u*m)/WW^i=v/WW^i+u/WW^i*m+(v%WW^i+u%WW^i*m)/WW^i:=by
    conv=>lhs;rw[e1,e2]
    rw[show v%WW^i+WW^i* (v/WW^i)+(u%WW^i+WW^i* (u/WW^i)) *m=(v%WW^i+u%WW^i*m)+WW^i* (v/WW^i+u/WW^i*m)by rw[Nat.add_mul,Nat.mul_add,Nat.mul_assoc];omega]
    rw[Nat.add_mul_div_left _ _ hM];omega
   rw[e3,Nat.add_mod,Nat.add_mod (v/WW^i+u/WW^i*m),Nat.add_mod (v/WW^i%WW),Nat.add_mod (v/WW^i),Nat.mod_mod,Nat.mul_mod (u/WW^i%WW),Nat.mod_mod,<-Nat.mul_mod]
 . unfold cy;rw[yg v,yg u,Nat.pow_succ]
   rw[show v%WW^i+WW^i*dg v i+(u%WW^i+WW^i*dg u i) *m=(v%WW^i+u%WW^i*m)+WW^i* (dg v i+dg u i*m)by rw[Nat.add_mul,Nat.mul_add,Nat.mul_assoc];omega]
   rw[<-Nat.div_div_eq_div_mul,Nat.add_mul_div_left _ _ hM,Nat.add_comm]
def bw (v u i:Nat):Nat:=if v%WW^i<u%WW^i then 1 else 0
def ai5 (v u:Nat):bw v u 0=0:=by simp[bw,Nat.mod_one]
def Vi (v u i:Nat):bw v u i<=1:=by unfold bw;split<;>omega
def ai4 (v u i:Nat):bw v u (i+1)=if dg v i<dg u i+bw v u i then 1 else 0:=by
 have h1:=Nat.mod_lt v (dH i);have h2:=Nat.mod_lt u (dH i);unfold bw;rw[yg v,yg u];generalize dg v i=a;generalize dg u i=b;generalize v%WW^i=r at*;generalize u%WW^i=s at*;generalize WW^i=M at*;have key:(r+M*a<s+M*b)↔(a<b+if r<s then 1 else 0):=by
  rcases Nat.lt_trichotomy a b with h|h|h
  . have:M* (a+1)<=M*b:=Nat.mul_le_mul_left _ h;rw[Nat.mul_add]at this;constructor
    . intro _;split<;>omega
    . intro _;omega
  . subst h;split<;>omega
  . have:M* (b+1)<=M*a:=Nat.mul_le_mul_left _ h;rw[Nat.mul_add]at this;constructor
    . intro _;omega
    . intro h';exfalso;revert h';split<;>omega
 simp only[key]
def ai3 (v u i:Nat)(hu:u<=v):(dg v i+WW-dg u i-bw v u i)%WW=dg (v-u) i:=by
 -- the digit of the difference
 have h1:=Nat.mod_lt v (dH i);have h2:=Nat.mod_lt u (dH i);have hM:=dH i;have hb:=Vi v u i;have du:=iQ u i;have e1:v=v%WW^i+WW^i* (v/WW^i):=(Nat.mod_add_div v _).symm;have e2:u=u%WW^i+WW^i* (u/WW^i):=(Nat.mod_add_div u _).symm;have e3:(v-u)/WW^i+bw v u i+u/WW^i=v/WW^i:=by
  unfold bw;generalize v%WW^i=r at*;generalize u%WW^i=s at*;generalize v/WW^i=x at*;generalize u/WW^i=y at*;generalize WW^i=M at*;have hxy:y<=x:=by
   rcases Nat.lt_or_ge x y with h|h
   . have:M* (x+1)<=M*y:=Nat.mul_le_mul_left _ h;rw[Nat.mul_add]at this;omega
   . exact h
  obtain⟨d,rfl⟩:∃d,x=y+d:=⟨x-y,by omega⟩;split
  . rename_i hrs
    have hd:1<=d:=by
     rcases Nat.eq_zero_or_pos d with h|h
     . subst h;simp at e1;omega
     . exact h
    obtain⟨d',rfl⟩:∃d',d=d'+1:=⟨d-1,by omega⟩;have:v-u=(M+r-s)+M*d':=by rw[Nat.mul_add,Nat.mul_add]at e1;omega
    rw[this,Nat.add_mul_div_left _ _ hM,Nat.div_eq_of_lt (by omega)];omega
  . have:v-u=(r-s)+M*d:=by rw[Nat.mul_add]at e1;omega
    rw[this,Nat.add_mul_div_left _ _ hM,Nat.div_eq_of_lt (by omega)];omega
 unfold dg at*;generalize (v-u)/WW^i=q at*;rw[<-e3];generalize bw v u i=c at*;generalize u/WW^i=y at*;have hW:=iN
 -- (q + c + y) % W + W - y % W - c ≡ q
 have e4:((q+c+y)%WW+WW-y%WW-c)%WW=q%WW:=by
  have a1:y=y%WW+WW* (y/WW):=(Nat.mod_add_div y _).symm;have a2:(q+c+y)%WW=(q+c+y%WW)%WW:=by rw[Nat.add_mod,Nat.add_mod (q+c) (y%WW),Nat.mod_mod]
  rw[a2];generalize y%WW=z at*;have a3:q=q%WW+WW* (q/WW):=(Nat.mod_add_div q _).symm;have a4:(q+c+z)%WW=(q%WW+c+z)%WW:=by conv=>lhs;rw[a3,show q%WW+WW* (q/WW)+c+z=(q%WW+c+z)+WW* (q/WW)by omega,Nat.add_mul_mod_self_left]
  rw[a4];have hq:=Nat.mod_lt q hW;generalize q%WW=p at*;rcases Nat.lt_or_ge (p+c+z) WW with h|h
  . rw[Nat.mod_eq_of_lt h,show p+c+z+WW-z-c=p+WW by omega,Nat.add_mod_right,Nat.mod_eq_of_lt hq]
  . rcases Nat.lt_or_ge (p+c+z) (2*WW)with h'|h'
    . have:(p+c+z)%WW=p+c+z-WW:=by rw[Nat.mod_eq_sub_mod h,Nat.mod_eq_of_lt (by omega)]
      rw[this,show p+c+z-WW+WW-z-c=p by omega,Nat.mod_eq_of_lt hq]
    . exfalso;omega
 exact e4
def AV :Nat->List UInt8->Nat
 |a,[]=>a
 |a,c::l=>AV (a*256+c.toNat) l
def nv (l:List UInt8):Nat:=AV 0 l
def apf (a:Nat)(l:List UInt8):AV a l=a*256^l.length+nv l:=by
 unfold nv;induction l generalizing a with
 |nil=>simp[AV]
 |cons c l ih=>simp only[AV,List.length_cons];rw[ih,ih (0*256+c.toNat),Nat.pow_succ,Nat.add_mul,Nat.zero_mul,Nat.zero_add,<-Nat.add_assoc,Nat.mul_assoc,Nat.mul_comm 256]
def vP :nv []=0:=rfl
def rS (c:UInt8)(l:List UInt8):nv (c::l)=c.toNat*256^l.length+nv l:=by
 show AV (0*256+c.toNat) l=_
 rw[apf];simp
def JD (a b:List UInt8):nv (a++b)=nv a*256^b.length+nv b:=by
 induction a with
 |nil=>simp[vP]
 |cons c a ih=>rw[List.cons_append,rS,rS,ih,List.length_append,Nat.pow_add,Nat.add_mul,Nat.add_assoc,Nat.mul_assoc]
def fY (l:List UInt8):nv l<256^l.length:=by
 induction l with
 |nil=>simp[vP]
 | cons c l ih=>
   rw[rS,List.length_cons,Nat.pow_succ];have hc:c.toNat<=255:=by have:=c.toNat_lt;omega
   have:=Nat.mul_le_mul_right (256^l.length) hc;omega
def vO :Nat->Nat->List UInt8
 |0,_=>[]
 |f+1,n=>if n=0 then[]else vO f (n/256)++[UInt8.ofNat (n%256)]
def nt (n:Nat):List UInt8:=vO n n
def apb (f g n:Nat)(hf:n<=f)(hg:n<=g):vO f n=vO g n:=by
 induction f generalizing g n with
 | zero => obtain rfl:n=0:=by omega
           cases g<;>simp[vO]
 | succ f ih=>
   cases g with
   | zero => obtain rfl:n=0:=by omega
             simp[vO]
   | succ g=>
     simp only[vO];split
     . rfl
     . rw[ih g (n/256) (by omega) (by omega)]
def ym :nt 0=[]:=rfl
def Ev {n:Nat}(h:0<n):nt n=nt (n/256)++[UInt8.ofNat (n%256)]:=by unfold nt;obtain⟨m,rfl⟩:∃m,n=m+1:=⟨n-1,by omega⟩;rw[vO,if_neg (by omega),apb m ((m+1)/256) _ (by omega) (by omega)]
def Gn (n:Nat):(UInt8.ofNat (n%256)).toNat=n%256:=by simp[UInt8.toNat_ofNat']
def ib (n:Nat):nv (nt n)=n:=by
 induction n using Nat.strongRecOn with
 | _ n ih=>
   rcases Nat.eq_zero_or_pos n with h|h
   . subst h;rfl
   . rw[Ev h,JD,ih (n/256) (by omega),rS,Gn];simp[vP];omega
def Jz {n:Nat}(h:0<n):nt n≠[]:=by rw[Ev h];simp
def aqR {α:Type}{P:List α->Prop}(h0:P [])(h1:∀l c,P l->P (l++[c]))(l:List α):P l:=by
 have:∀m:List α,P m.reverse:=by
  intro m;induction m with
  |nil=>exact h0
  |cons a m ih=>rw[List.reverse_cons];exact h1 _ _ ih
 have:=this l.reverse;rwa [List.reverse_reverse]at this
def abB (l:List UInt8)(h:∀c,l.head?=some c->c≠0):nt (nv l)=l:=by
 revert h;refine aqR (P:=λl=>(∀c,l.head?=some c->c≠0)->nt (nv l)=l) ?_ ?_ l
 . intro _;rfl
 . intro l c ih h;have hv:nv (l++[c])=nv l*256+c.toNat:=by rw[JD,rS];simp[vP]
   have hc:=c.toNat_lt;have hl:∀a,l.head?=some a->a≠0:=by
    intro a ha;apply h;cases l with
    |nil=>simp at ha
    |cons x y=>simpa using ha
   have hpos:0<nv (l++[c]):=by
    rw[hv];cases l with
    |nil=>have:=h c (by simp);have:c.toNat≠0:=λh0=>this (UInt8.toNat_inj.1 (by simpa using h0));omega
    |cons x y=>have hx:=h x (by simp);have:x.toNat≠0:=λh0=>hx (UInt8.toNat_inj.1 (by simpa using h0));have h1:1*256^y.length<=x.toNat*256^y.length:=Nat.mul_le_mul_right _ (by omega);have h2:0<256^y.length:=Nat.pow_pos (by decide);rw[rS];omega
   rw[Ev hpos,hv,show(nv l*256+c.toNat)/256=nv l by omega,show(nv l*256+c.toNat)%256=c.toNat by omega,ih hl];simp
def iY {n k:Nat}(h:n<256^k):(nt n).length<=k:=by
 induction k generalizing n with
 | zero => obtain rfl:n=0:=by simpa using h
           simp[ym]
 | succ k ih=>
   rcases Nat.eq_zero_or_pos n with h0|h0
   . subst h0;simp[ym]
   . rw[Ev h0,List.length_append,List.length_singleton];have:=ih (n:=n/256) (by rw[Nat.div_lt_iff_lt_mul (by decide)];rwa [Nat.pow_succ]at h);omega
def aog (n:Nat):n<256^(nt n).length:=by have:=fY (nt n);rwa [ib]at this
def Qv (n:Nat):nt n=[]↔n=0:=by
 constructor
 . intro h;rcases Nat.eq_zero_or_pos n with h0|h0
   . exact h0
   . exact absurd h (Jz h0)
 . intro h;subst h;rfl
def api (l:List UInt8)(k:Nat)(hk:k<l.length):
 nv (l.drop (l.length-1-k))=nv (l.drop (l.length-k))+l[l.length-1-k].toNat*256^k:=by
 rw[List.drop_eq_getElem_cons (show l.length-1-k<l.length by omega),rS,Nat.add_comm];rw[show l.length-1-k+1=l.length-k by omega,List.length_drop,show l.length-(l.length-k)=k by omega]
def GD (V D q j:Nat)(h:V/WW^q+D<WW):dg (V+D*WW^q) j=if j=q then dg V q+D else dg V j:=by
 have hW:=iN;have e:(V+D*WW^q)/WW^q=V/WW^q+D:=by rw[Nat.mul_comm,Nat.add_mul_div_left _ _ (dH q)]
 rcases Nat.lt_trichotomy j q with hj|hj|hj
 . rw[if_neg (by omega)];obtain⟨d,rfl⟩:∃d,q=j+1+d:=⟨q-j-1,by omega⟩;unfold dg;rw[show D*WW^(j+1+d)=WW^j* (WW* (D*WW^d))by rw[Nat.pow_add,Nat.pow_succ];simp only[Nat.mul_comm,Nat.mul_left_comm,Nat.mul_assoc]];rw[Nat.add_mul_div_left _ _ (dH j),Nat.add_mul_mod_self_left]
 . subst hj;rw[if_pos rfl];unfold dg;rw[e,Nat.mod_eq_of_lt h,Nat.mod_eq_of_lt (by omega)]
 . rw[if_neg (by omega)];have h1:V+D*WW^q<WW^(q+1):=by rw[Nat.pow_succ,Nat.mul_comm (WW^q)];exact(Nat.div_lt_iff_lt_mul (dH q)).1 (by rw[e];exact h)
   have h2:V<WW^(q+1):=by omega
   rw[rC h1 (by omega),rC h2 (by omega)]
def apz {X C i:Nat}(h:X<2^i):X|||C*2^i=X+C*2^i:=by rw[Nat.mul_comm C,Nat.or_comm,<-Nat.two_pow_add_eq_or_of_lt h,Nat.add_comm]
def QR (k:Nat):256^k=WW^(k/8) *2^(k%8*8):=by rw[ke,<-Nat.pow_add,show(256:Nat)=2^8 by rfl,<-Nat.pow_mul];congr 1;omega
def ai8 (V C k:Nat)(hV:V<256^k)(hC:C<256):
 dg V (k/8)<2^(k%8*8)/\C*2^(k%8*8)<WW/\∀j,dg (V+C*256^k) j=if j=k/8 then dg V (k/8)+C*2^(k%8*8)else dg V j:=by
 have h1:V/WW^(k/8)<2^(k%8*8):=by rw[QR]at hV;rw[Nat.div_lt_iff_lt_mul (dH _),Nat.mul_comm];exact hV
 have h2:2^(k%8*8) *256<=WW:=by rw[show(256:Nat)=2^8 by rfl,<-Nat.pow_add,kd];exact Nat.pow_le_pow_right (by decide) (by omega)
 have h3:C*2^(k%8*8)+2^(k%8*8)<=2^(k%8*8) *256:=by have:2^(k%8*8) * (C+1)<=2^(k%8*8) *256:=Nat.mul_le_mul_left _ (by omega);rw[Nat.mul_add,Nat.mul_comm]at this;omega
 have h4:dg V (k/8)=V/WW^(k/8):=by unfold dg;exact Nat.mod_eq_of_lt (by omega)
 refine⟨by rw[h4];exact h1,by have:=Nat.pow_pos (n:=k%8*8) (show 0<2 by decide);omega,λj=>?_⟩;rw[QR,Nat.mul_comm (WW^(k/8)),<-Nat.mul_assoc];exact GD V _ (k/8) j (by omega)
def akg (u r i:Nat)(hr:r<64):dg (u/2^r) i=dg u i/2^r+dg u (i+1) *2^(64-r)%WW:=by
 unfold dg;have xP:2^r*2^(64-r)=WW:=by rw[<-Nat.pow_add,kd];congr 1;omega
 have hp:=Nat.pow_pos (n:=r) (show 0<2 by decide);have hq:=Nat.pow_pos (n:=64-r) (show 0<2 by decide);rw[Nat.div_div_eq_div_mul,Nat.mul_comm (2^r),<-Nat.div_div_eq_div_mul,Nat.pow_succ,<-Nat.div_div_eq_div_mul];generalize u/WW^i=x;rw[show x/WW%WW*2^(64-r)%WW=(x/WW) *2^(64-r)%WW by rw[Nat.mul_mod,Nat.mod_mod,<-Nat.mul_mod]];have e:x=x%WW+WW* (x/WW):=(Nat.mod_add_div x WW).symm;have hx:=Nat.mod_lt x iN;generalize x%WW=a at*;generalize x/WW=y at*;subst e;rw[<-xP]at hx⊢;generalize 2^r=p at*;generalize 2^(64-r)=q at*;rw[Nat.mul_assoc,Nat.add_mul_div_left _ _ hp];have ha:a/p<q:=by rw[Nat.div_lt_iff_lt_mul hp,Nat.mul_comm];exact hx
 -- (a/p + q*y) % (p*q) = a/p + (y*q) % (p*q)
 rw[Nat.mul_comm p q,Nat.mod_mul,Nat.add_mul_mod_self_left,Nat.mod_eq_of_lt ha,Nat.add_mul_div_left _ _ hq,Nat.div_eq_of_lt ha,Nat.zero_add];rw[Nat.mul_comm y q,Nat.mod_mul,Nat.mul_mod_right,Nat.mul_div_cancel_left _ hq,Nat.zero_add]
def adc (d r:Nat)(hd:d<WW)(hr:r<64):∃c,d*2^r%WW=c*2^r/\d*2^r/WW=d/2^(64-r)/\d/2^(64-r)<2^r/\c*2^r+2^r<=WW/\d*2^r=c*2^r+WW* (d/2^(64-r)):=by
 have xP:2^(64-r) *2^r=WW:=by rw[<-Nat.pow_add,kd];congr 1;omega
 have hp:=Nat.pow_pos (n:=r) (show 0<2 by decide);have hq:=Nat.pow_pos (n:=64-r) (show 0<2 by decide);rw[<-xP]at hd⊢;generalize 2^r=p at*;generalize 2^(64-r)=q at*;refine⟨d%q,?_,?_,?_,?_,?_⟩
 . rw[Nat.mul_mod_mul_right]
 . rw[Nat.mul_div_mul_right _ _ hp]
 . rw[Nat.div_lt_iff_lt_mul hq,Nat.mul_comm];exact hd
 . have:=Nat.mod_lt d hq;have:(d%q+1) *p<=q*p:=Nat.mul_le_mul_right _ this;rw[Nat.add_mul]at this;omega
 . have e:=(Nat.mod_add_div d q).symm;conv=>lhs;rw[e]
   rw[Nat.add_mul,Nat.mul_assoc,Nat.mul_assoc,Nat.mul_comm (d/q)]
def asE (v n i:Nat):∃c,c*2^(n%64)=dg v i*2^(n%64)%WW/\dg (v%WW^i*2^n) (i+n/64)<2^(n%64)/\c*2^(n%64)+2^(n%64)<=WW/\
 dg (v%WW^i*2^n) (i+n/64+1)=0/\dg v i/2^(64-n%64)<WW/\
 ∀j,dg (v%WW^(i+1) *2^n) j=if j=i+n/64+1 then dg v i/2^(64-n%64)else if j=i+n/64 then dg (v%WW^i*2^n) (i+n/64)+c*2^(n%64)else dg (v%WW^i*2^n) j:=by
 have hr:n%64<64:=Nat.mod_lt _ (by decide);obtain⟨c,h1,h2,h3,h4,h5⟩:=adc (dg v i) (n%64) (iQ v i) hr;have hn:2^n=2^(n%64) *WW^(n/64):=by rw[ke,<-Nat.pow_add];congr 1;omega
 have hv:=Nat.mod_lt v (dH i);have hp:=Nat.pow_pos (n:=n%64) (show 0<2 by decide);have hpW:2^(n%64)<=WW:=by rw[kd];exact Nat.pow_le_pow_right (by decide) (by omega)
 refine⟨c,h1.symm,?_⟩;have eA:v%WW^(i+1) *2^n=v%WW^i*2^n+c*2^(n%64) *WW^(i+n/64)+dg v i/2^(64-n%64) *WW^(i+n/64+1):=by
  have h6:dg v i*2^(n%64) *WW^(i+n/64)=(c*2^(n%64)+WW* (dg v i/2^(64-n%64))) *WW^(i+n/64):=by rw[h5]
  rw[yg,hn];rw[Nat.pow_succ WW (i+n/64)];rw[Nat.add_mul]at h6;rw[Nat.add_mul,Nat.add_assoc];congr 1;rw[Nat.pow_add WW i]at*;have e1:WW^i*dg v i* (2^(n%64) *WW^(n/64))=dg v i*2^(n%64) * (WW^i*WW^(n/64)):=by simp only[Nat.mul_comm,Nat.mul_left_comm,Nat.mul_assoc]
  rw[e1,h6];congr 1;simp only[Nat.mul_comm,Nat.mul_left_comm,Nat.mul_assoc]
 have al7:v%WW^i*2^n/WW^(i+n/64)<2^(n%64):=by rw[Nat.div_lt_iff_lt_mul (dH _),hn,Nat.pow_add,<-Nat.mul_assoc,<-Nat.mul_assoc,Nat.mul_comm (2^(n%64))];exact Nat.mul_lt_mul_of_pos_right (Nat.mul_lt_mul_of_pos_right hv hp) (dH _)
 have aml:dg (v%WW^i*2^n) (i+n/64)=v%WW^i*2^n/WW^(i+n/64):=by unfold dg;exact Nat.mod_eq_of_lt (by omega)
 have hVW:v%WW^i*2^n<WW^(i+n/64+1):=by rw[Nat.pow_succ,Nat.mul_comm (WW^_)];exact(Nat.div_lt_iff_lt_mul (dH _)).1 (by omega)
 have hd1:dg (v%WW^i*2^n) (i+n/64+1)=0:=rC hVW (Nat.le_refl _);have hhi:dg v i/2^(64-n%64)<WW:=by omega
 refine⟨by rw[aml];exact al7,h4,hd1,hhi,λj=>?_⟩;have hV2:v%WW^i*2^n+c*2^(n%64) *WW^(i+n/64)<WW^(i+n/64+1):=by rw[Nat.pow_succ,Nat.mul_comm (WW^(i+n/64)) WW];refine(Nat.div_lt_iff_lt_mul (dH _)).1 ?_;rw[Nat.mul_comm (c*2^(n%64)),Nat.add_mul_div_left _ _ (dH _)];omega
 rw[eA,GD _ _ (i+n/64+1) j (by rw[Nat.div_eq_of_lt hV2];omega)];rw[GD _ (c*2^(n%64)) (i+n/64) _ (by omega),GD _ (c*2^(n%64)) (i+n/64) _ (by omega)];by_cases hj:j=i+n/64+1
 . rw[if_pos hj,if_pos hj,if_neg (by omega),hd1,Nat.zero_add]
 . rw[if_neg hj,if_neg hj]
def oz (f:Nat->Nat->Int)(n k:Nat):Option Nat:=(List.range (n-k)).find? λi=>f (k+i) k !=0
def bQ (f:Nat->Nat->Int)(k m:Nat):Nat->Nat->Int:=λa b=>f (if a=k then m else if a=m then k else a) b
def bT (g:Nat->Nat->Int)(k a b:Nat):Int:=g a b*g k k-g a k*g k b
def dc (g:Nat->Nat->Int)(k:Nat)(last:Int):Nat->Nat->Int:=λa b=>if k<a/\k<b then bT g k a b/last else g a b
def ez (n:Nat):Nat->Nat->(Nat->Nat->Int)->Int->Bool->Int
 |0,_,_,last,turned=>if turned then-last else last
 | l+1,k,f,last,turned=>match oz f n k with
   |none=>0
   |some m=>ez n l (k+1) (dc (bQ f k (k+m)) k last) (bQ f k (k+m) k k) (turned !=decide (0<m))
def fU (n:Nat):Nat->Nat->(Nat->Nat->Int)->Int->Prop
 |0,_,_,_=>True
 | l+1,k,f,last=>match oz f n k with
   |none=>True
   |some m=>(∀a b,k<a->a<n->k<b->b<n->last∣bT (bQ f k (k+m)) k a b)/\fU n l (k+1) (dc (bQ f k (k+m)) k last) (bQ f k (k+m) k k)
def kF {f:Nat->Nat->Int}{n k m:Nat}(h:oz f n k=some m):k+m<n/\f (k+m) k≠0:=by unfold oz at h;have h1:=List.find?_some h;have h2:=List.mem_of_find?_eq_some h;rw[List.mem_range]at h2;refine⟨by omega,?_⟩;simpa using h1
def lj {f:Nat->Nat->Int}{n k:Nat}(h:oz f n k=none):∀a,k<=a->a<n->f a k=0:=by intro a h1 h2;unfold oz at h;rw[List.find?_eq_none]at h;have:=h (a-k) (by rw[List.mem_range];omega);rw[show k+(a-k)=a by omega]at this;simpa using this
def xb (f:Nat->Nat->Int):Int:=f 0 0*f 1 1-f 0 1*f 1 0
def gV (f:Nat->Nat->Int):Int:=f 0 0* (f 1 1*f 2 2-f 1 2*f 2 1)-f 0 1* (f 1 0*f 2 2-f 1 2*f 2 0)+f 0 2* (f 1 0*f 2 1-f 1 1*f 2 0)
def aih (f:Nat->Nat->Int):ez 1 1 0 f 1 false=f 0 0:=by
 unfold ez;split
 . rename_i h
   exact(lj h 0 (by omega) (by omega)).symm
 . rename_i m h
   have:=kF h;obtain rfl:m=0:=by omega
   simp[ez,bQ]
def aii (f:Nat->Nat->Int):ez 2 2 0 f 1 false=xb f:=by
 unfold ez;split
 . rename_i h
   have h0:=lj h 0 (by omega) (by omega);have h1:=lj h 1 (by omega) (by omega);simp[xb,h0,h1]
 . rename_i m h
   have hm:=kF h;unfold ez;split
   . rename_i h2
     have h1:=lj h2 1 (by omega) (by omega);obtain rfl|rfl:m=0\/m=1:=by omega
     . simp[dc,bT,bQ]at h1;simp[xb];grind
     . simp[dc,bT,bQ]at h1;simp[xb];grind
   . rename_i m2 h2
     have hm2:=kF h2;obtain rfl:m2=0:=by omega
     obtain rfl|rfl:m=0\/m=1:=by omega
     . simp[ez,dc,bT,bQ,xb];grind
     . simp[ez,dc,bT,bQ,xb];grind
def aka (f:Nat->Nat->Int)(m:Nat)(hm:m<3):gV (bQ f 0 m)=if 0<m then-gV f else gV f:=by
 obtain rfl|rfl|rfl:m=0\/m=1\/m=2:=by omega
 . simp[gV,bQ]
 . simp[gV,bQ];grind
 . simp[gV,bQ];grind
def abC (g:Nat->Nat->Int)(m:Nat)(hm:m<2):bT (bQ (dc g 0 1) 1 (1+m)) 1 2 2=g 0 0* (if 0<m then-gV g else gV g):=by
 obtain rfl|rfl:m=0\/m=1:=by omega
 . simp[bT,dc,bQ,gV];grind
 . simp[bT,dc,bQ,gV];grind
def apN (g:Nat->Nat->Int)(h0:g 0 0≠0)(h:∀a,1<=a->a<3->dc g 0 1 a 1=0):gV g=0:=by
 have h1:=h 1 (by omega) (by omega);have h2:=h 2 (by omega) (by omega);simp only[dc,bT]at h1 h2;rw[if_pos (by omega),Int.ediv_one]at h1 h2;have e:g 0 0*gV g=0:=by
  have e1:g 0 0* (g 0 0*gV g)=(g 1 1*g 0 0-g 1 0*g 0 1) * (g 2 2*g 0 0-g 2 0*g 0 2)-(g 1 2*g 0 0-g 1 0*g 0 2) * (g 2 1*g 0 0-g 2 0*g 0 1):=by unfold gV;grind
  rw[h1,h2,Int.zero_mul,Int.mul_zero,Int.sub_zero]at e1;rcases Int.mul_eq_zero.1 e1 with e2|e2
  . exact absurd e2 h0
  . exact e2
 rcases Int.mul_eq_zero.1 e with e2|e2
 . exact absurd e2 h0
 . exact e2
def aik (g:Nat->Nat->Int)(t:Bool)(h0:g 0 0≠0):ez 3 2 1 (dc g 0 1) (g 0 0) t=if t then-gV g else gV g:=by
 unfold ez;split
 . rename_i h
   have:=apN g h0 (lj h);simp[this]
 . rename_i m h
   have hm:=kF h;have hn:=abC g m (by omega);unfold ez;split
   . rename_i h2
     have h3:=lj h2 2 (by omega) (by omega);have h4:bT (bQ (dc g 0 1) 1 (1+m)) 1 2 2/g 0 0=0:=by simpa[dc]using h3
     rw[hn,Int.mul_ediv_cancel_left _ h0]at h4;split at h4<;>simp_all<;>omega
   . rename_i m2 h2
     have hm2:=kF h2;obtain rfl:m2=0:=by omega
     have h4:bQ (dc (bQ (dc g 0 1) 1 (1+m)) 1 (g 0 0)) 2 (2+0) 2 2=if 0<m then-gV g else gV g:=by rw[<-Int.mul_ediv_cancel_left (if 0<m then-gV g else gV g) h0,<-hn];simp[bQ,dc]
     simp only[ez];show(if((t !=decide (0<m)) !=decide (0<0))=true then-_ else _)=_
     rw[h4];by_cases hm0:0<m<;>cases t<;>simp[hm0]
def aij (f:Nat->Nat->Int):ez 3 3 0 f 1 false=gV f:=by
 unfold ez;split
 . rename_i h
   have h0:=lj h 0 (by omega) (by omega);have h1:=lj h 1 (by omega) (by omega);have h2:=lj h 2 (by omega) (by omega);simp[gV,h0,h1,h2]
 . rename_i m h
   have hm:=kF h;have hs:=aka f m (by omega);simp only[Nat.zero_add]at hm⊢;have hp:bQ f 0 m 0 0≠0:=by simpa[bQ]using hm.2
   rw[aik (bQ f 0 m) _ hp,hs];by_cases hm0:0<m<;>simp[hm0]
def akX (f:Nat->Nat->Int):fU 1 1 0 f 1:=by
 unfold fU;split
 . trivial
 . exact⟨λa b h1 h2=>by omega,by unfold fU;trivial⟩
def akY (f:Nat->Nat->Int):fU 2 2 0 f 1:=by
 unfold fU;split
 . trivial
 . refine⟨λa b _ _ _ _=>Int.one_dvd _,?_⟩;unfold fU;split
   . trivial
   . exact⟨λa b h1 h2=>by omega,by unfold fU;trivial⟩
def akZ (f:Nat->Nat->Int):fU 3 3 0 f 1:=by
 unfold fU;split
 . trivial
 . refine⟨λa b _ _ _ _=>Int.one_dvd _,?_⟩;unfold fU;split
   . trivial
   . rename_i m2 h2
     have hm2:=kF h2;refine⟨λa b h1 h2 h3 h4=>?_,?_⟩
     . obtain rfl:a=2:=by omega
       obtain rfl:b=2:=by omega
       rw[abC _ m2 (by omega)];exact Int.dvd_mul_right _ _
     . unfold fU;split
       . trivial
       . exact⟨λa b h1 h2=>by omega,by unfold fU;trivial⟩
def dI (n:Nat)(f:Nat->Nat->Dyadic):Dyadic:=match n with
 |0=>1
 |1=>f 0 0
 |2=>f 0 0*f 1 1-f 0 1*f 1 0
 |3=>f 0 0* (f 1 1*f 2 2-f 1 2*f 2 1)-f 0 1* (f 1 0*f 2 2-f 1 2*f 2 0)+f 0 2* (f 1 0*f 2 1-f 1 1*f 2 0)
 | 4=>f 0 0* (f 1 1* (f 2 2*f 3 3-f 2 3*f 3 2)-f 1 2* (f 2 1*f 3 3-f 2 3*f 3 1)+f 1 3* (f 2 1*f 3 2-f 2 2*f 3 1))
   -f 0 1* (f 1 0* (f 2 2*f 3 3-f 2 3*f 3 2)-f 1 2* (f 2 0*f 3 3-f 2 3*f 3 0)+f 1 3* (f 2 0*f 3 2-f 2 2*f 3 0))
   +f 0 2* (f 1 0* (f 2 1*f 3 3-f 2 3*f 3 1)-f 1 1* (f 2 0*f 3 3-f 2 3*f 3 0)+f 1 3* (f 2 0*f 3 1-f 2 1*f 3 0))
   -f 0 3* (f 1 0* (f 2 1*f 3 2-f 2 2*f 3 1)-f 1 1* (f 2 0*f 3 2-f 2 2*f 3 0)+f 1 2* (f 2 0*f 3 1-f 2 1*f 3 0))
 |_=>0
def dh (n:Nat)(p:Nat->Nat->Dyadic):Dyadic:=dI n λa b=>p (a+1) b-p 0 b
def GJ (n:Nat)(p:Nat->Nat->Dyadic):dh n p=dI n λa b=>p (a+1) b-p 0 b:=rfl
def dw (p:Nat->Nat->Dyadic)(v:Nat)(x:Nat->Dyadic):Nat->Nat->Dyadic:=λa b=>if a=v then x b else p a b
def ada (p:Nat->Nat->Dyadic)(v:Nat):dw p v (p v)=p:=by
 funext a b;unfold dw;split
 . rename_i h;rw[h]
 . rfl
def ac9 (p:Nat->Nat->Dyadic)(i j:Nat)(x y:Nat->Dyadic)(h:i≠j):dw (dw p i x) j y=dw (dw p j y) i x:=by
 funext a b;unfold dw
 by_cases h1:a=j
 . rw[if_pos h1,if_neg (by omega),if_pos h1]
 . rw[if_neg h1];by_cases h2:a=i
   . rw[if_pos h2,if_pos h2]
   . rw[if_neg h2,if_neg h2,if_neg h1]
def akD (p:Nat->Nat->Dyadic)(i j:Nat)(hij:i<j)(hj:j<=1)(x y:Nat->Dyadic):dh 1 (dw (dw p i x) j y)= -dh 1 (dw (dw p i y) j x):=by
 have hc:(i=0/\j=1):=by omega
 rcases hc with⟨rfl,rfl⟩<;>(simp[dh,dI,dw];grind)
def akE (p:Nat->Nat->Dyadic)(i j:Nat)(hij:i<j)(hj:j<=2)(x y:Nat->Dyadic):dh 2 (dw (dw p i x) j y)= -dh 2 (dw (dw p i y) j x):=by
 have hc:(i=0/\j=1)\/(i=0/\j=2)\/(i=1/\j=2):=by omega
 rcases hc with⟨rfl,rfl⟩ |⟨rfl,rfl⟩ |⟨rfl,rfl⟩<;>(simp[dh,dI,dw];grind)
def akF (p:Nat->Nat->Dyadic)(i j:Nat)(hij:i<j)(hj:j<=3)(x y:Nat->Dyadic):dh 3 (dw (dw p i x) j y)= -dh 3 (dw (dw p i y) j x):=by
 have hc:(i=0/\j=1)\/(i=0/\j=2)\/(i=0/\j=3)\/(i=1/\j=2)\/(i=1/\j=3)\/(i=2/\j=3):=by omega
 rcases hc with⟨rfl,rfl⟩ |⟨rfl,rfl⟩ |⟨rfl,rfl⟩ |⟨rfl,rfl⟩ |⟨rfl,rfl⟩ |⟨rfl,rfl⟩<;>(simp[dh,dI,dw];grind)
def akG (p:Nat->Nat->Dyadic)(i j:Nat)(hij:i<j)(hj:j<=4)(x y:Nat->Dyadic):dh 4 (dw (dw p i x) j y)= -dh 4 (dw (dw p i y) j x):=by
 have hc:(i=0/\j=1)\/(i=0/\j=2)\/(i=0/\j=3)\/(i=0/\j=4)\/(i=1/\j=2)\/(i=1/\j=3)\/(i=1/\j=4)\/(i=2/\j=3)\/(i=2/\j=4)\/(i=3/\j=4):=by omega
 rcases hc with⟨rfl,rfl⟩ |⟨rfl,rfl⟩ |⟨rfl,rfl⟩ |⟨rfl,rfl⟩ |⟨rfl,rfl⟩ |⟨rfl,rfl⟩ |⟨rfl,rfl⟩ |⟨rfl,rfl⟩ |⟨rfl,rfl⟩ |⟨rfl,rfl⟩<;>(simp[dh,dI,dw];grind)
def akC (n:Nat)(hn:1<=n)(bH:n<=4)(p:Nat->Nat->Dyadic)(i j:Nat)(hij:i≠j)(hi:i<=n)(hj:j<=n)(x y:Nat->Dyadic):dh n (dw (dw p i x) j y)= -dh n (dw (dw p i y) j x):=by
 have h1:∀i j x y,i<j->j<=n->dh n (dw (dw p i x) j y)= -dh n (dw (dw p i y) j x):=by
  intro i j x y h1 h2;have hc:n=1\/n=2\/n=3\/n=4:=by omega
  rcases hc with rfl|rfl|rfl|rfl
  . exact akD p i j h1 h2 x y
  . exact akE p i j h1 h2 x y
  . exact akF p i j h1 h2 x y
  . exact akG p i j h1 h2 x y
 rcases Nat.lt_or_gt_of_ne hij with h2|h2
 . exact h1 i j x y h2 hj
 . rw[ac9 p i j x y hij,ac9 p i j y x hij];exact h1 j i y x h2 hi
def akB (n:Nat)(hn:1<=n)(bH:n<=4)(p:Nat->Nat->Dyadic)(i j:Nat)(hij:i≠j)(hi:i<=n)(hj:j<=n)(x:Nat->Dyadic):dh n (dw (dw p i x) j x)=0:=by have:=akC n hn bH p i j hij hi hj x x;grind
def akA (n:Nat)(hn:1<=n)(bH:n<=4)(p:Nat->Nat->Dyadic)(i j:Nat)(hij:i≠j)(hi:i<=n)(hj:j<=n):dh n (dw p j (p i))=0:=by have:=akB n hn bH p i j hij hi hj (p i);rwa [ada]at this
def VV (h n1 n0 u1:Nat)(h1:2147483648<=n1)(h2:n1<4294967296)(h0:n0<4294967296)(hh:h<n1*4294967296+n0)(hu:u1<4294967296):
 (h*4294967296+u1)/(n1*4294967296+n0)<=h/n1/\h/n1<=4294967297/\h/n1*n1+h%n1=h/\h%n1<4294967296:=by
 have hd:=Nat.div_add_mod h n1;have hm:=Nat.mod_lt h (show 0<n1 by omega);generalize h%n1=m at*;generalize hq:h/n1=q at*;have e:(n1*4294967296+n0) * (q+1)=n1*q*4294967296+n1*4294967296+n0* (q+1):=by grind
 have e2:q*n1=n1*q:=Nat.mul_comm _ _;refine⟨?_,?_,by omega,by omega⟩
 . have:(h*4294967296+u1)/(n1*4294967296+n0)<q+1:=by refine Nat.div_lt_of_lt_mul ?_;rw[e];generalize n0* (q+1)=z;generalize n1*q=P at*;omega
   omega
 . rcases Nat.lt_or_ge q 4294967298 with h3|h3
   . omega
   . have:n1*4294967298<=n1*q:=Nat.mul_le_mul_left _ h3;omega
def VW (q r h n1 n0:Nat)(hJ:q*n1+r=h):q* (n1*4294967296+n0)+r*4294967296=h*4294967296+q*n0:=by subst hJ;grind
def CG (q r h n1 n0 u1:Nat)(hy:0<n1)(hJ:q*n1+r=h)(hq:(h*4294967296+u1)/(n1*4294967296+n0)<=q)(hc:q*n0<=4294967296*r+u1):
 (h*4294967296+u1)/(n1*4294967296+n0)=q:=by
 have e:=VW q r h n1 n0 hJ;refine Nat.le_antisymm hq ((Nat.le_div_iff_mul_le (by omega)).2 ?_);generalize q* (n1*4294967296+n0)=a at*;generalize q*n0=b at*;omega
def GH (q r h n1 n0 u1:Nat)(hy:0<n1)(h0:n0<4294967296)(hJ:q*n1+r=h)(hq:(h*4294967296+u1)/(n1*4294967296+n0)<=q)(hT:q<=4294967296)(hr:4294967296<=r):
 (h*4294967296+u1)/(n1*4294967296+n0)=q:=by
 refine CG q r h n1 n0 u1 hy hJ hq ?_;have:q*n0<=4294967296*4294967295:=Nat.mul_le_mul hT (by omega);omega
def GI (q r h n1 n0 u1:Nat)(hh:h<n1*4294967296+n0)(hu:u1<4294967296)(hJ:q*n1+r=h)(hq:(h*4294967296+u1)/(n1*4294967296+n0)<=q)(hc:4294967296<=q\/4294967296*r+u1<q*n0):
 0<q/\(q-1) *n1+(r+n1)=h/\(h*4294967296+u1)/(n1*4294967296+n0)<=q-1:=by
 have hq0:0<q:=by
  rcases Nat.eq_zero_or_pos q with h3|h3
  . subst h3;rcases hc with hc|hc
    . omega
    . rw[Nat.zero_mul]at hc;omega
  . exact h3
 obtain⟨k,rfl⟩:∃k,q=k+1:=⟨q-1,by omega⟩;have e:=VW (k+1) r h n1 n0 hJ;refine⟨hq0,?_,?_⟩
 . rw[Nat.add_sub_cancel,<-hJ,Nat.add_mul,Nat.one_mul];omega
 . rw [Nat.add_sub_cancel];have:(h*4294967296+u1)/(n1*4294967296+n0)<k+1:=by
    refine Nat.div_lt_of_lt_mul ?_;rw[Nat.mul_comm (n1*4294967296+n0) (k+1)];rcases hc with hc|hc
    . have h3:4294967296* (n1*4294967296+n0)<=(k+1) * (n1*4294967296+n0):=Nat.mul_le_mul_right _ hc;generalize (k+1) * (n1*4294967296+n0)=a at*;omega
    . generalize (k+1) * (n1*4294967296+n0)=a at*;generalize (k+1) *n0=b at*;omega
   omega
def akp (h u1 u0 y q1:Nat)(hy:0<y)(hq1:(h*4294967296+u1)/y=q1):
 (h*18446744073709551616+(u1*4294967296+u0))/y=q1*4294967296+((h*4294967296+u1)%y*4294967296+u0)/y:=by
 have hd:=Nat.div_add_mod (h*4294967296+u1) y;rw[hq1]at hd;have e:h*18446744073709551616+(u1*4294967296+u0)=((h*4294967296+u1)%y*4294967296+u0)+y* (q1*4294967296):=by
  have:y* (q1*4294967296)=y*q1*4294967296:=by grind
  rw[this];omega
 rw[e,Nat.add_mul_div_left _ _ hy];omega
def VQ (A low k j:Nat)(hl:low<WW^k):dg (A*WW^k+low) j=if j<k then dg low j else dg A (j-k):=by
 unfold dg;split
 . rename_i hj
   obtain⟨m,rfl⟩:∃m,k=j+1+m:=⟨k-(j+1),by omega⟩;have e:A*WW^(j+1+m)+low=low+WW^j* (WW* (A*WW^m)):=by rw[show j+1+m=j+(1+m)by omega,Nat.pow_add,Nat.pow_add,Nat.pow_one];grind
   rw[e,Nat.add_mul_div_left _ _ (dH j),Nat.add_mul_mod_self_left]
 . rename_i hj
   obtain⟨m,rfl⟩:∃m,j=k+m:=⟨j-k,by omega⟩;rw[Nat.add_sub_cancel_left,Nat.pow_add,<-Nat.div_div_eq_div_mul,Nat.add_comm,Nat.add_mul_div_right _ _ (dH k),Nat.div_eq_of_lt hl,Nat.zero_add]
def alG {P by' n:Nat}(hn:0<n)(hP:P<by'*WW)(hb1:0<dg by' (n-1))(Mz:by'<WW^n):P/by'<=(if dg P n<dg by' (n-1)then(dg P n*WW+dg P (n-1))/dg by' (n-1)else WW-1):=by
 obtain⟨k,rfl⟩:∃k,n=k+1:=⟨n-1,by omega⟩;rw[Nat.add_sub_cancel]at*;have hby:0<by':=by
  rcases Nat.eq_zero_or_pos by' with h|h
  . subst h;unfold dg at hb1;simp at hb1
  . exact h
 have hq:P/by'<WW:=Nat.div_lt_of_lt_mul hP;split
 . have nW:P<WW^(k+1+1):=by exact Nat.lt_trans hP (by rw[Nat.pow_succ];exact Nat.mul_lt_mul_of_pos_right Mz iN)
   have e1:P/WW^k=dg P (k+1) *WW+dg P k:=by unfold dg;have h1:P/WW^(k+1)%WW=P/WW^(k+1):=Nat.mod_eq_of_lt (by rw[Nat.div_lt_iff_lt_mul (dH _)];rw[Nat.pow_succ,Nat.mul_comm]at nW;exact nW);rw[h1,Nat.pow_succ,<-Nat.div_div_eq_div_mul,Nat.mul_comm];exact(Nat.div_add_mod _ _).symm
   have e2:by'/WW^k=dg by' k:=by unfold dg;exact(Nat.mod_eq_of_lt (by rw[Nat.div_lt_iff_lt_mul (dH _)];rw[Nat.pow_succ,Nat.mul_comm]at Mz;exact Mz)).symm
   rw[<-e1,<-e2];rw[<-e2]at hb1;refine(Nat.le_div_iff_mul_le hb1).2 ?_;refine(Nat.le_div_iff_mul_le (dH k)).2 ?_;have h3:by'/WW^k*WW^k<=by':=Nat.div_mul_le_self _ _;have h4:P/by'*by'<=P:=Nat.div_mul_le_self _ _;rw[Nat.mul_assoc];exact Nat.le_trans (Nat.mul_le_mul_left _ h3) h4
 . have:=iN;omega
def eI (f:Nat->Nat->Int):Int:=
 f 0 0* (f 1 1* (f 2 2*f 3 3-f 2 3*f 3 2)-f 1 2* (f 2 1*f 3 3-f 2 3*f 3 1)+f 1 3* (f 2 1*f 3 2-f 2 2*f 3 1))
 -f 0 1* (f 1 0* (f 2 2*f 3 3-f 2 3*f 3 2)-f 1 2* (f 2 0*f 3 3-f 2 3*f 3 0)+f 1 3* (f 2 0*f 3 2-f 2 2*f 3 0))
 +f 0 2* (f 1 0* (f 2 1*f 3 3-f 2 3*f 3 1)-f 1 1* (f 2 0*f 3 3-f 2 3*f 3 0)+f 1 3* (f 2 0*f 3 1-f 2 1*f 3 0))
 -f 0 3* (f 1 0* (f 2 1*f 3 2-f 2 2*f 3 1)-f 1 1* (f 2 0*f 3 2-f 2 2*f 3 0)+f 1 2* (f 2 0*f 3 1-f 2 1*f 3 0))
def vM (g:Nat->Nat->Int)(a b:Nat):Int:=g 0 0* (g 1 1*g a b-g 1 b*g a 1)-g 0 1* (g 1 0*g a b-g 1 b*g a 0)+g 0 b* (g 1 0*g a 1-g 1 1*g a 0)
def Rq (g:Nat->Nat->Int)(k r s:Nat)(last:Int)(hr:k<r)(hs:k<s):bQ (dc g k last) r s=dc (bQ g r s) k last:=by
 funext a b
 unfold bQ dc bT;have e1:(k<if a=r then s else if a=s then r else a)↔k<a:=by
  by_cases h1:a=r
  . rw[if_pos h1];omega
  . rw[if_neg h1];by_cases h2:a=s
    . rw[if_pos h2];omega
    . rw[if_neg h2]
 have e2:(if k=r then s else if k=s then r else k)=k:=by rw[if_neg (by omega),if_neg (by omega)]
 simp only[e2];by_cases h:k<a/\k<b
 . rw[if_pos h,if_pos ⟨e1.2 h.1,h.2⟩]
 . rw[if_neg h,if_neg (λh2=>h ⟨e1.1 h2.1,h2.2⟩)]
def oC (g:Nat->Nat->Int)(k r s b:Nat)(hr:k<r)(hs:k<s):bQ g r s k b=g k b:=by unfold bQ;rw[if_neg (by omega),if_neg (by omega)]
def akb (f:Nat->Nat->Int)(m:Nat)(hm:m<4):eI (bQ f 0 m)=if 0<m then-eI f else eI f:=by
 obtain rfl|rfl|rfl|rfl:m=0\/m=1\/m=2\/m=3:=by omega
 . simp[eI,bQ]
 . simp[eI,bQ];grind
 . simp[eI,bQ];grind
 . simp[eI,bQ];grind
def akc (f:Nat->Nat->Int)(m:Nat)(hm:m<3):eI (bQ f 1 (1+m))=if 0<m then-eI f else eI f:=by
 obtain rfl|rfl|rfl:m=0\/m=1\/m=2:=by omega
 . simp[eI,bQ]
 . simp[eI,bQ];grind
 . simp[eI,bQ];grind
def akd (f:Nat->Nat->Int)(m:Nat)(hm:m<2):eI (bQ f 2 (2+m))=if 0<m then-eI f else eI f:=by
 obtain rfl|rfl:m=0\/m=1:=by omega
 . simp[eI,bQ]
 . simp[eI,bQ];grind
def ajp (g:Nat->Nat->Int):g 0 0* (g 0 0*eI g)=bT g 0 1 1* (bT g 0 2 2*bT g 0 3 3-bT g 0 2 3*bT g 0 3 2)-bT g 0 1 2* (bT g 0 2 1*bT g 0 3 3-bT g 0 2 3*bT g 0 3 1)+bT g 0 1 3* (bT g 0 2 1*bT g 0 3 2-bT g 0 2 2*bT g 0 3 1):=by unfold bT eI;grind
def abF (g:Nat->Nat->Int)(a b:Nat)(ha:1<a)(hb:1<b):bT (dc g 0 1) 1 a b=g 0 0*vM g a b:=by unfold bT dc vM bT;rw[if_pos (by omega),if_pos (by omega),if_pos (by omega),if_pos (by omega)];simp only[Int.ediv_one];grind
def acJ (g:Nat->Nat->Int):vM g 3 3*vM g 2 2-vM g 3 2*vM g 2 3=bT g 0 1 1*eI g:=by unfold bT vM eI;grind
def lu (g:Nat->Nat->Int):Nat->Nat->Int:=dc (dc g 0 1) 1 (g 0 0)
def EN (g:Nat->Nat->Int)(h0:g 0 0≠0)(a b:Nat)(ha:1<a)(hb:1<b):lu g a b=vM g a b:=by
 unfold lu;show(if 1<a/\1<b then bT (dc g 0 1) 1 a b/g 0 0 else _)=_
 rw[if_pos ⟨ha,hb⟩,abF g a b ha hb,Int.mul_ediv_cancel_left _ h0]
def QD (g:Nat->Nat->Int)(a b:Nat)(ha:0<a)(hb:0<b):dc g 0 1 a b=bT g 0 a b:=by unfold dc;rw[if_pos ⟨ha,hb⟩,Int.ediv_one]
def acI (g:Nat->Nat->Int)(m:Nat):bQ (lu g) 2 (2+m)=lu (bQ g 2 (2+m)):=by unfold lu;rw[Rq _ 1 2 (2+m) _ (by omega) (by omega),Rq _ 0 2 (2+m) _ (by omega) (by omega),oC g 0 2 (2+m) 0 (by omega) (by omega)]
def JR (g:Nat->Nat->Int)(m:Nat):bQ (dc g 0 1) 1 (1+m)=dc (bQ g 1 (1+m)) 0 1:=Rq _ 0 1 (1+m) _ (by omega) (by omega)
def apP (g:Nat->Nat->Int)(h0:g 0 0≠0)(h1:bT g 0 1 1≠0)(h:∀a,2<=a->a<4->lu g a 2=0):eI g=0:=by
 have h2:=h 2 (by omega) (by omega);have h3:=h 3 (by omega) (by omega);rw[EN g h0 _ _ (by omega) (by omega)]at h2 h3;have e:=acJ g;rw[h2,h3,Int.zero_mul,Int.mul_zero,Int.sub_zero]at e;rcases Int.mul_eq_zero.1 e.symm with e2|e2
 . exact absurd e2 h1
 . exact e2
def aaP (g:Nat->Nat->Int)(h0:g 0 0≠0)(_h1:bT g 0 1 1≠0):bT (lu g) 2 3 3=bT g 0 1 1*eI g:=by unfold bT;rw[EN g h0 _ _ (by omega) (by omega),EN g h0 _ _ (by omega) (by omega),EN g h0 _ _ (by omega) (by omega),EN g h0 _ _ (by omega) (by omega)];exact acJ g
def ain (g:Nat->Nat->Int)(t:Bool)(h0:g 0 0≠0)(h1:bT g 0 1 1≠0):ez 4 2 2 (lu g) (bT g 0 1 1) t=if t then-eI g else eI g:=by
 unfold ez;split
 . rename_i h
   have:=apP g h0 h1 (lj h);simp[this]
 . rename_i m h
   have hm:=kF h;have hs:=akd g m (by omega);obtain⟨g',hg⟩:∃g',bQ g 2 (2+m)=g':=⟨_,rfl⟩;have lL:g' 0 0=g 0 0:=by rw[<-hg];exact oC g 0 2 (2+m) 0 (by omega) (by omega)
   have e11:bT g' 0 1 1=bT g 0 1 1:=by unfold bT;rw[<-hg,oC g 0 2 (2+m) _ (by omega) (by omega),oC g 0 2 (2+m) _ (by omega) (by omega),oC g 1 2 (2+m) _ (by omega) (by omega),oC g 1 2 (2+m) _ (by omega) (by omega)]
   rw[acI,hg];rw[hg]at hs;have hn:lu g' 2 2=lu g' 2 2:=rfl;have hl:=aaP g' (by rw[lL];exact h0) (by rw[e11];exact h1);have hf:dc (lu g') 2 (bT g 0 1 1) 3 3=eI g':=by
    show(if 2<3/\2<3 then bT (lu g') 2 3 3/bT g 0 1 1 else _)=_
    rw[if_pos (by omega),hl,e11,Int.mul_ediv_cancel_left _ h1]
   unfold ez;split
   . rename_i h2
     have h3:=lj h2 3 (by omega) (by omega);rw[hf,hs]at h3;by_cases hm0:0<m<;>simp[hm0]at h3<;>simp[h3]
   . rename_i m2 h2
     have hm2:=kF h2;obtain rfl:m2=0:=by omega
     simp only[ez];have hz:bQ (dc (lu g') 2 (bT g 0 1 1)) 3 (3+0) 3 3=eI g':=by rw[<-hf];simp[bQ]
     show(if((t !=decide (0<m)) !=decide (0<0))=true then-_ else _)=_
     rw[hz,hs];by_cases hm0:0<m<;>cases t<;>simp[hm0]
def apO (g:Nat->Nat->Int)(h0:g 0 0≠0)(h:∀a,1<=a->a<4->dc g 0 1 a 1=0):eI g=0:=by
 have h1:=h 1 (by omega) (by omega);have h2:=h 2 (by omega) (by omega);have h3:=h 3 (by omega) (by omega);rw[QD g _ _ (by omega) (by omega)]at h1 h2 h3;have e:=ajp g;have e0:g 0 0* (g 0 0*eI g)=0:=by rw[e,h1,h2,h3];grind
 rcases Int.mul_eq_zero.1 e0 with e2|e2
 . exact absurd e2 h0
 . rcases Int.mul_eq_zero.1 e2 with e3|e3
   . exact absurd e3 h0
   . exact e3
def aim (g:Nat->Nat->Int)(t:Bool)(h0:g 0 0≠0):ez 4 3 1 (dc g 0 1) (g 0 0) t=if t then-eI g else eI g:=by
 unfold ez;split
 . rename_i h
   have:=apO g h0 (lj h);simp[this]
 . rename_i m h
   have hm:=kF h;have hs:=akc g m (by omega);obtain⟨g',hg⟩:∃g',bQ g 1 (1+m)=g':=⟨_,rfl⟩;have lL:g' 0 0=g 0 0:=by rw[<-hg];exact oC g 0 1 (1+m) 0 (by omega) (by omega)
   rw[JR,hg];rw[hg]at hs;have e1:dc g' 0 1 1 1=bT g' 0 1 1:=QD g' 1 1 (by omega) (by omega);have h1:bT g' 0 1 1≠0:=by rw[<-e1,<-hg,<-JR];have:=hm.2;unfold bQ;rw[if_pos rfl];exact this
   have h2:=ain g' (t !=decide (0<m)) (by rw[lL];exact h0) h1;unfold lu at h2;rw[lL]at h2;rw[e1,h2,hs];by_cases hm0:0<m<;>cases t<;>simp[hm0]
def ail (f:Nat->Nat->Int):ez 4 4 0 f 1 false=eI f:=by
 unfold ez;split
 . rename_i h
   have h0:=lj h 0 (by omega) (by omega);have h1:=lj h 1 (by omega) (by omega);have h2:=lj h 2 (by omega) (by omega);have h3:=lj h 3 (by omega) (by omega);unfold eI;rw[h0,h1,h2,h3];grind
 . rename_i m h
   have hm:=kF h;have hs:=akb f m (by omega);simp only[Nat.zero_add]at hm⊢;have hp:bQ f 0 m 0 0≠0:=by simpa[bQ]using hm.2
   rw[aim (bQ f 0 m) _ hp,hs];by_cases hm0:0<m<;>simp[hm0]
def ak1 (g:Nat->Nat->Int)(h0:g 0 0≠0)(h1:bT g 0 1 1≠0):fU 4 2 2 (lu g) (bT g 0 1 1):=by
 unfold fU;split
 . trivial
 . rename_i m h
   have hm:=kF h;obtain⟨g',hg⟩:∃g',bQ g 2 (2+m)=g':=⟨_,rfl⟩;have lL:g' 0 0=g 0 0:=by rw[<-hg];exact oC g 0 2 (2+m) 0 (by omega) (by omega)
   have e11:bT g' 0 1 1=bT g 0 1 1:=by unfold bT;rw[<-hg,oC g 0 2 (2+m) _ (by omega) (by omega),oC g 0 2 (2+m) _ (by omega) (by omega),oC g 1 2 (2+m) _ (by omega) (by omega),oC g 1 2 (2+m) _ (by omega) (by omega)]
   rw[acI,hg];refine⟨λa b h2 h3 h4 h5=>?_,?_⟩
   . obtain rfl:a=3:=by omega
     obtain rfl:b=3:=by omega
     rw[aaP g' (by rw[lL];exact h0) (by rw[e11];exact h1),e11];exact Int.dvd_mul_right _ _
   . unfold fU;split
     . trivial
     . exact⟨λa b h1 h2=>by omega,by unfold fU;trivial⟩
def ak0 (f:Nat->Nat->Int):fU 4 4 0 f 1:=by
 unfold fU;split
 . trivial
 . rename_i m h
   have hm:=kF h;simp only[Nat.zero_add]at hm⊢;obtain⟨g,hg⟩:∃g,bQ f 0 m=g:=⟨_,rfl⟩;have h0:g 0 0≠0:=by rw[<-hg];simpa[bQ]using hm.2
   rw[hg];refine⟨λa b _ _ _ _=>Int.one_dvd _,?_⟩;unfold fU;split
   . trivial
   . rename_i m2 h2
     have hm2:=kF h2;obtain⟨g',hg'⟩:∃g',bQ g 1 (1+m2)=g':=⟨_,rfl⟩;have lL:g' 0 0=g 0 0:=by rw[<-hg'];exact oC g 0 1 (1+m2) 0 (by omega) (by omega)
     have e1:dc g' 0 1 1 1=bT g' 0 1 1:=QD g' 1 1 (by omega) (by omega);have h1:bT g' 0 1 1≠0:=by rw[<-e1,<-hg',<-JR];have:=hm2.2;unfold bQ;rw[if_pos rfl];exact this
     rw[JR,hg',e1];refine⟨λa b h3 h4 h5 h6=>?_,?_⟩
     . rw[abF g' a b h3 h5,lL];exact Int.dvd_mul_right _ _
     . have:=ak1 g' (by rw[lL];exact h0) h1;unfold lu at this;rw[lL]at this;exact this
end Go.Proofs.YtpfgffadgkkedaaGreatDoor
