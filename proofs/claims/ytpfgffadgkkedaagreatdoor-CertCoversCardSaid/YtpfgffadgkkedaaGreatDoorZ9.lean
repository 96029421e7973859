/- Package dyad: Make,Form,Sign,Shift,Of,Neg,Abs. -/
import Derived.Test.YtpfgffadgkkedaaGreatDoorZ7
import Derived.Test.YtpfgffadgkkedaaGreatDoorZ8
import Derived.Test.YtpfgffadgkkedaaGreatDoorZ6
import Derived.Test.YtpfgffadgkkedaaGreatDoorZ1
set_option linter.all false
set_option maxRecDepth 100000
set_option maxHeartbeats 16000000
namespace Go.Proofs.YtpfgffadgkkedaaGreatDoor
open Go.RowKit
attribute [local go_sem ↓] Go.wp_at_zero Go.wp_at_succ
abbrev bT (d:Dyadic):Value:=.agg #[ag (az (dN d)),ah (nt (dN d).natAbs),af (dE d)]
def alm :(⟨#[]⟩:ByteArray)=bs []:=rfl
def auW (s:Bool)(l:List UInt8)(n:Nat)(Z:Int)(hZ:iv s l/2^n=Z)(w:World)(hl:l.length<=34359738368)(hn:n<=549755813888)(hT:aB w):
 Cv 209 #[.agg #[ag s,ah l],af (-(n:Int))] w (cS Z):=by
 rcases Nat.eq_zero_or_pos n with h|h
 . subst h;subst hZ;have:=VQ s l 0 w zo zo;simpa using this
 . subst hZ;exact agj s l n w hl h zo hT
def avW (v k:Nat)(h:v<2^k):tz v<=k:=by
 rcases Nat.eq_zero_or_pos v with h0|h0
 . subst h0;exact Nat.zero_le _
 . obtain⟨m,hm⟩:=af1 v h0;rcases Nat.lt_or_ge k (tz v)with h1|h1
   . exfalso
     have h2:=Nat.pow_le_pow_right (show 0<2 by decide) (Nat.le_of_lt h1);have h3:2^tz v<=2^tz v* (2*m+1):=Nat.le_mul_of_pos_right _ zo;omega
   . exact h1
def afY (n:Int):tz n.natAbs=n.trailingZeros:=by
 unfold tz;rcases Int.natAbs_eq n with h|h
 . rw[<-h]
 . conv=>rhs;rw[h]
   rw[Int.trailingZeros_neg]
def Rc (s:Bool)(l:List UInt8)(e:Int)(h:iv s l=0):dval (s,l,e)=0:=by unfold dval;simp only[h];exact xq _
def Rb (s:Bool)(l:List UInt8)(e:Int)(h:iv s l≠0):dN (dval (s,l,e))=iv s l/2^tz (nv l)/\dE (dval (s,l,e))=e+(tz (nv l):Int):=by have:=Zy (k:=-e) h;unfold dval;rw[show tz (nv l)=(iv s l).trailingZeros by rw[<-uf s l];exact afY _];exact⟨this.1,by rw[this.2];omega⟩
def yP (s:Bool)(l:List UInt8)(e:Int)(D:Dyadic)(hD:dval (s,l,e)=D)(w:World)(hl:l.length<=34359738368)(he: -1099511627776<=e/\e<=1099511627776)(hT:aB w):
 Cv 124 #[.agg #[ag s,ah l],af e] w (bT D):=by
 have jV:Hid (l.length<=1099511627776):=by show _<=_;omega
 have zQ:Hid (l.length<=68719476736):=by show _<=_;omega
 by_cases h0:iv s l=0
 . have h1:=Rc s l e h0;rw[hD]at h1;subst h1;clear hD;have h2:eF (iv s l)=0:=by rw[h0];rfl
   have H2:=aj h2;clear h2;have Hv:Hid (bT 0=.agg #[ag false,.string (bs []),af 0]):=rfl;go_enter Tryz.func124,Tryz.ntmps124;have Hb:=hbz w;go_wp2_with fail;refine gP w (Hb.an trivial) 43 [ag s,ah l] 45 [ag false,.string (bs []),af 0] λW aG ae ai=>?_;go_wp2_with fail;refine aK ae (JF s l _ jV.out) λw1 ae ai=>?_;rw[H2.out];have Hb:=ae.2.2.1;have r0:w1.cell? ⟨w.heap.size+1,0,none⟩=some (ag false):=ae.2.1.out.cell 0;have r1:w1.cell? ⟨w.heap.size+1,1,none⟩=some (.string (bs [])):=ae.2.1.out.cell 1;have r2:w1.cell? ⟨w.heap.size+1,2,none⟩=some (af 0):=ae.2.1.out.cell 2;go_wp2;exact bodyPost_ret (v:=.agg #[ag false,.string (bs []),af 0]) (by simp[results,Tryz.results124,go_sem,r0,r1,r2,alm,ai]) rfl ⟨by rw[Hv.out],cK⟩
 . obtain⟨h1,h2⟩:=Rb s l e h0;rw[hD]at h1 h2;clear hD;have hg0:eF (iv s l)≠0:=by unfold eF;split<;>(try split)<;>omega
   have Hg:Hid (∃g,eF (iv s l)=g/\g≠0):=⟨_,rfl,hg0⟩;obtain⟨g,hg,hg0⟩:=Hg.out;have Hg:=aj hg;clear hg;have hn:tz (nv l)<=549755813888:=Nat.le_trans (avW (nv l) (8*l.length) (by have:=ia l;rwa [show(256:Nat)=2^8 by rfl,<-Nat.pow_mul]at this)) zo;obtain⟨n,hn0⟩:=au (tz (nv l));rw[hn0]at h1 h2 hn;have zS:=aj hn0;clear hn0;obtain⟨Z,hZ⟩:=au (dN D);obtain⟨E,hE⟩:=au (dE D);rw[hZ]at h1;rw[hE]at h2;obtain⟨HZ,HE⟩:=aH hZ hE;clear hZ hE;have H1:=aj h1.symm;clear h1;have hwn:IntKind.i64.wrap (-(n:Int))= -(n:Int):=by rw[IntKind.wrap_i64];omega
   have hwe:IntKind.i64.wrap (e+(n:Int))=E:=by rw[IntKind.wrap_i64];omega
   clear h0 h2;go_enter Tryz.func124,Tryz.ntmps124;have Hb:=hbz w;go_wp2_with fail;refine gP w (Hb.an trivial) 43 [ag s,ah l] 45 [ag false,.string (bs []),af 0] λW aG ae ai=>?_;go_wp2_with fail;refine aK ae (JF s l _ jV.out) λw1 ae ai=>?_;rw[Hg.out];have HT:=aj (hT.below ae.2.2.1.out);go_wp2_with fail;refine aK ae (Uv l _ zQ.out HT.out) λw2 ae ai=>?_;rw[zS.out];replace HT:=aj (hT.below ae.2.2.1.out);go_wp2_with fail;refine aK ae (auW s l n Z H1.out _ hl hn HT.out) λw3 ae ai=>?_;have Hb:=ae.2.2.1;have r0:w3.cell? ⟨w.heap.size+1,0,none⟩=some (ag false):=ae.2.1.out.cell 0;have r1:w3.cell? ⟨w.heap.size+1,1,none⟩=some (.string (bs [])):=ae.2.1.out.cell 1;have r2:w3.cell? ⟨w.heap.size+1,2,none⟩=some (af 0):=ae.2.1.out.cell 2;go_wp2;exact bodyPost_ret (v:=.agg #[ag (az Z),ah (nt Z.natAbs),af E]) (by simp[results,Tryz.results124,go_sem,r0,r1,r2,ai]) rfl ⟨by rw[<-HZ.out,<-HE.out],cK⟩
def Ok.len {s:Bool}{l:List UInt8}{e:Int}(h:Ok (s,l,e)):l.length<=268435456:=h.1
def Ok.exp {s:Bool}{l:List UInt8}{e:Int}(h:Ok (s,l,e)): -268435456<=e/\e<=268435456:=h.2
def rE (s:Bool)(l:List UInt8)(e:Int)(D:Dyadic)(hD:dval (s,l,e)=D)(w:World)(hx:Ok (s,l,e))(hT:aB w):
 Cv 155 #[.agg #[ag s,ah l,af e]] w (bT D):=by
 have HD:=aj hD;clear hD;have h1:=hx.len;have h2:=hx.exp;clear hx;have Hl:Hid (l.length<=34359738368):=by show _<=_;omega
 have He:Hid (-1099511627776<=e/\e<=1099511627776):=by show _/\_;omega
 go_enter Tryz.func155,Tryz.ntmps155;have Hb:=hbz w;go_wp2_with fail;refine gP w (Hb.an trivial) 45 [ag s,ah l,af e] 45 [ag false,.string (bs []),af 0] λW aG ae ai=>?_;have HT:=aj (hT.below ae.2.2.1.out);go_wp2_with fail;refine aK ae (yP s l e D HD.out _ Hl.out He.out HT.out) λw1 ae ai=>?_;have Hb:=ae.2.2.1;have r0:w1.cell? ⟨w.heap.size+1,0,none⟩=some (ag false):=ae.2.1.out.cell 0;have r1:w1.cell? ⟨w.heap.size+1,1,none⟩=some (.string (bs [])):=ae.2.1.out.cell 1;have r2:w1.cell? ⟨w.heap.size+1,2,none⟩=some (af 0):=ae.2.1.out.cell 2;go_wp2;exact bodyPost_ret (v:=bT D) (by simp[results,Tryz.results155,go_sem,r0,r1,r2,ai]) rfl ⟨rfl,cK⟩
def Ns (s:Bool)(l:List UInt8)(e n:Int)(D:Dyadic)(hD:dval (s,l,e+n)=D)(w:World)(hx:Ok (s,l,e))(hn: -268435456<=n/\n<=268435456)(hT:aB w):
 Cv 83 #[.agg #[ag s,ah l,af e],af n] w (bT D):=by
 have h1:=hx.len;have h2:=hx.exp;clear hx;obtain⟨z,hz⟩:=au (e+n);have hwe:IntKind.i64.wrap (e+n)=z:=by rw[IntKind.wrap_i64];omega
 rw[hz]at hD;have HD:=aj hD;clear hD;have Hl:Hid (l.length<=34359738368):=by show _<=_;omega
 have He:Hid (-1099511627776<=z/\z<=1099511627776):=by show _/\_;omega
 clear hz;go_enter Tryz.func83,Tryz.ntmps83;have Hb:=hbz w;go_wp2_with fail;refine gP w (Hb.an trivial) 45 [ag s,ah l,af e] 45 [ag false,.string (bs []),af 0] λW aG ae ai=>?_;have HT:=aj (hT.below ae.2.2.1.out);go_wp2_with fail;refine aK ae (yP s l z D HD.out _ Hl.out He.out HT.out) λw1 ae ai=>?_;have Hb:=ae.2.2.1;have r0:w1.cell? ⟨w.heap.size+1,0,none⟩=some (ag false):=ae.2.1.out.cell 0;have r1:w1.cell? ⟨w.heap.size+1,1,none⟩=some (.string (bs [])):=ae.2.1.out.cell 1;have r2:w1.cell? ⟨w.heap.size+1,2,none⟩=some (af 0):=ae.2.1.out.cell 2;go_wp2;exact bodyPost_ret (v:=bT D) (by simp[results,Tryz.results83,go_sem,r0,r1,r2,ai]) rfl ⟨rfl,cK⟩
def Vu (s:Bool)(l:List UInt8)(e:Int):eF (iv s l)=eF (dN (dval (s,l,e))):=by
 by_cases h0:iv s l=0
 . rw[Rc s l e h0,h0,QS]
 . rw[(Rb s l e h0).1];obtain⟨q,hq⟩:(2:Int)^tz (nv l)∣iv s l:=by rw[show tz (nv l)=(iv s l).trailingZeros by rw[<-uf s l];exact afY _];exact Int.two_pow_trailingZeros_dvd h0
   have hp:(0:Int)<2^tz (nv l):=by
    have:((2^tz (nv l):Nat):Int)>0:=by have:=Nat.pow_pos (n:=tz (nv l)) (show 0<2 by decide);omega
    simpa[Int.natCast_pow]using this
   generalize (2:Int)^tz (nv l)=p at*;rw[hq,Int.mul_ediv_cancel_left _ zo];unfold eF;rcases Int.lt_trichotomy q 0 with h|h|h
   . have:=Int.mul_neg_of_pos_of_neg hp h;simp only[h,this,if_true]
   . subst h;simp
   . have:=Int.mul_pos hp h;rw[if_neg zo,if_neg zo,if_neg zo,if_neg zo]
abbrev bg (d:Dyadic):Int:=eF (dN d)
def nV (s:Bool)(l:List UInt8)(e:Int)(g:Int)(hg:bg (dval (s,l,e))=g)(w:World)(hx:Ok (s,l,e)):
 Cv 27 #[.agg #[ag s,ah l,af e]] w (af g):=by
 have h1:=hx.len;clear hx;have Hg:Hid (eF (iv s l)=g):=by show _=_;rw[<-hg];exact Vu s l e
 have Hl:Hid (l.length<=1099511627776):=by show _<=_;omega
 clear hg;go_enter Tryz.func27,Tryz.ntmps27;have Hb:=hbz w;go_wp2_with fail;refine cF w (Hb.an trivial) 45 [ag s,ah l,af e] λW aG ae ai=>?_;go_wp2_with fail;refine aK ae (JF s l _ Hl.out) λw1 ae ai=>?_;rw[Hg.out];go_wp2;go_ret;exact⟨rfl,ae.2.1.out⟩
def Aq (n e:Int):dval (az n,nt n.natAbs,e)=Dyadic.ofIntWithPrec n (-e):=by unfold dval;simp only[fu]
def CV (n:Int)(D:Dyadic)(hD:Dyadic.ofIntWithPrec n 0=D)(w:World)(hn: -9223372036854775808<=n/\n<=9223372036854775807)(hT:aB w):
 Cv 54 #[af n] w (bT D):=by
 obtain⟨N,hN⟩:=au n;have HD:Hid (dval (az N,nt N.natAbs,0)=D):=by show _=_;rw[Aq,<-hN];exact hD
 have Hl:Hid ((nt N.natAbs).length<=34359738368):=by
  show _<=_
  exact Nat.le_trans (kC (k:=8) zo) zd
 have HN:=aj hN;clear hN hD;go_enter Tryz.func54,Tryz.ntmps54;have Hb:=hbz w;go_wp2_with fail;refine cF w (Hb.an trivial) 45 [ag false,.string (bs []),af 0] λW aG ae ai=>?_;go_wp2_with fail;refine aK ae (VP n N HN.out _ hn.1 hn.2) λw1 ae ai=>?_;have HT:=aj (hT.below ae.2.1.out);go_wp2_with fail;refine aK ae (yP (az N) (nt N.natAbs) 0 D HD.out _ Hl.out zo HT.out) λw2 ae ai=>?_;have Hb:=ae.2.1;have r0:w2.cell? ⟨w.heap.size,0,none⟩=some (ag false):=ae.1.out.cell 0;have r1:w2.cell? ⟨w.heap.size,1,none⟩=some (.string (bs [])):=ae.1.out.cell 1;have r2:w2.cell? ⟨w.heap.size,2,none⟩=some (af 0):=ae.1.out.cell 2;go_wp2;exact bodyPost_ret (v:=bT D) (by simp[results,Tryz.results54,go_sem,r0,r1,r2,ai]) rfl ⟨rfl,cK⟩
def Li (s:Bool)(l:List UInt8)(e:Int)(D:Dyadic)(hD: -dval (s,l,e)=D)(w:World)(hx:Ok (s,l,e))(hT:aB w):
 Cv 127 #[.agg #[ag s,ah l,af e]] w (bT D):=by
 have h1:=hx.len;have h2:=hx.exp;clear hx;obtain⟨N,hN⟩:=au (-(iv s l));have HD:Hid (dval (az N,nt N.natAbs,e)=D):=by
  show _=_
  rw[Aq,<-hN,<-hD];unfold dval;rw[Ji]
 have Hl:Hid ((nt N.natAbs).length<=34359738368):=by show _<=_;rw[<-hN];exact Je s l _ zo
 have jV:Hid (l.length<=1099511627776):=by show _<=_;omega
 have He:Hid (-1099511627776<=e/\e<=1099511627776):=by show _/\_;omega
 have HN:=aj hN;clear hN hD;go_enter Tryz.func127,Tryz.ntmps127;have Hb:=hbz w;go_wp2_with fail;refine gP w (Hb.an trivial) 45 [ag s,ah l,af e] 45 [ag false,.string (bs []),af 0] λW aG ae ai=>?_;refine cQ 6 ae (cJ 7 0xc0a0409070301) ?_;refine bo ?_;refine bP ae (NI s l N HN.out _ jV.out) λw1 ae=>?_;refine bP ae (yP (az N) (nt N.natAbs) e D HD.out _ Hl.out He.out (hT.below ae.2.2.1.out)) λw2 ae=>?_;have ai:=qC ae;refine qOp λK hK=>?_;go_simp;refine hK _ _ (λh=>absurd h zd) ?_
 refine cg (aN w2 (w.heap.size+1) 0 (bE D)) aR ?_;intro w3 hs0;have ae:=bC hs0 ae;simp only[bD,List.set]at ae;have ai:=qC ae;refine cP ae λai=>?_;have Hb:=ae.2.2.1;have r0:w3.cell? ⟨w.heap.size+1,0,none⟩=some (ag (az (dN D))):=ae.2.1.out.cell 0;have r1:w3.cell? ⟨w.heap.size+1,1,none⟩=some (ah (nt (dN D).natAbs)):=ae.2.1.out.cell 1;have r2:w3.cell? ⟨w.heap.size+1,2,none⟩=some (af (dE D)):=ae.2.1.out.cell 2;go_wp2;exact bodyPost_ret (v:=bT D) (by simp[results,Tryz.results127,go_sem,r0,r1,r2,ai]) rfl ⟨rfl,cK⟩
def aB.drew {w:World}(h:aB w):aB w.drew:=h
def aB.alloc {w:World}(h:aB w)(o:Obj):aB (w.alloc o):=λj hj=>aM (h j hj)
def oC (v k:Int):Int:=if 0<=k then v*2^k.toNat else v/2^(-k).toNat
def awn (s:Bool)(l:List UInt8)(k Z:Int)(hZ:oC (iv s l) k=Z)(w:World)(hl:l.length<=34359738368)(hk: -549755813888<=k/\k<=549755813888)(hT:aB w):
 Cv 209 #[.agg #[ag s,ah l],af k] w (cS Z):=by
 subst hZ;unfold oC;split
 . rename_i h
   have:=VQ s l k.toNat w zo zo;rw[Int.toNat_of_nonneg h]at this;exact this
 . rename_i h
   have:=agj s l (-k).toNat w hl zo zo hT;rw[Int.toNat_of_nonneg zo,Int.neg_neg]at this;exact this
def Eh (s:Bool)(l:List UInt8)(e g Z:Int)(hZ:oC (iv s l) (e-g)=Z)(w:World)(hl:l.length<=34359738368)(hk: -549755813888<=e-g/\e-g<=549755813888)(hT:aB w):
 Cv 235 #[af g,.agg #[ag s,ah l,af e]] w (cS Z):=by
 obtain⟨k,fG⟩:=au (e-g);have hwe:IntKind.i64.wrap (e-g)=k:=by rw[IntKind.wrap_i64];omega
 rw[fG]at hZ hk;have HZ:=aj hZ;clear hZ fG;go_enter Tryz.func235,Tryz.ntmps235;have Hb:=hbz w;go_wp2_with fail;refine gP w (Hb.an trivial) 45 [ag s,ah l,af e] 43 [ag false,.string (bs [])] λW aG ae ai=>?_;have HT:=aj (hT.below ae.2.2.1.out);go_wp2_with fail;refine aK ae (awn s l k Z HZ.out _ hl hk HT.out) λw1 ae ai=>?_;have Hb:=ae.2.2.1;have r0:w1.cell? ⟨w.heap.size+1,0,none⟩=some (ag false):=ae.2.1.out.cell 0;have r1:w1.cell? ⟨w.heap.size+1,1,none⟩=some (.string (bs [])):=ae.2.1.out.cell 1;go_wp2;exact bodyPost_ret (v:=cS Z) (by simp[results,Tryz.results235,go_sem,r0,r1,ai]) rfl ⟨rfl,cK⟩
def vp (A B:Dyadic):Int:=if A=0 then dE B else if B=0 then dE A else min (dE A) (dE B)
def vw (A:Dyadic):A=Dyadic.ofIntWithPrec (dN A) (-(dE A)):=by have:=bu A;unfold dval canon at this;simp only[fu]at this;exact this.symm
def aeY (A:Dyadic)(g:Int)(h:A=0\/g<=dE A):A=Dyadic.ofIntWithPrec (oC (dN A) (dE A-g)) (-g):=by
 rcases h with h|h
 . subst h;have:oC (dN 0) (dE 0-g)=0:=by unfold oC;rw[QS];split<;>simp
   rw[this,xq]
 . unfold oC;rw[if_pos zo];have:=rT (dN A) (dE A-g).toNat (-(dE A));rw[show-(dE A)+((dE A-g).toNat:Int)= -g by omega]at this;rw[this];exact vw A
def arD (A B:Dyadic):(A=0\/vp A B<=dE A)/\(B=0\/vp A B<=dE B):=by
 unfold vp;split
 . exact⟨.inl ‹_›,.inr zo⟩
 . split
   . exact⟨.inr zo,.inl ‹_›⟩
   . exact⟨.inr zo,.inr zo⟩
def aeR {A:Dyadic}:A=0\/((nt (dN A).natAbs)≠[]/\A≠0):=by
 by_cases h:A=0
 . exact .inl h
 . refine .inr ⟨?_,h⟩;intro h2;apply h;have:(dN A).natAbs=0:=by rw[<-jl (dN A).natAbs,h2];rfl
   rw[vw A,show dN A=0 by omega,xq]
def Ok.parts {x:Raw}(h:Ok x):(nt (dN (dval x)).natAbs).length<=1073741824/\ -4294967296<=dE (dval x)/\dE (dval x)<=4294967296:=by obtain⟨B,hB,hs⟩:∃B,B<=4294967296/\Sm B (dval x):=⟨4294967296,Nat.le_refl _,h.sm⟩;obtain⟨h1,h2,h3⟩:=hs.parts;exact⟨lv h1 zo,by clear h1;omega,by clear h1;omega⟩
def ad5 (s:Bool)(l:List UInt8)(e:Int)(t:Bool)(m:List UInt8)(f:Int)(A B:Dyadic)(hA:dval (s,l,e)=A)(hB:dval (t,m,f)=B)(g X Y:Int)(hg:vp A B=g)(hX:oC (dN A) (dE A-g)=X)(hY:oC (dN B) (dE B-g)=Y)
 (w:World) (hx:Ok (s,l,e)) (hy:Ok (t,m,f)) (hT:aB w):
 Cv 166 #[.agg #[ag s,ah l,af e],.agg #[ag t,ah m,af f]] w (.agg #[af g,ag (az X),ah (nt X.natAbs),ag (az Y),ah (nt Y.natAbs)]):=by
 have pA:=hx.parts;rw[hA]at pA;have pB:=hy.parts;rw[hB]at pB;obtain⟨HA,HB⟩:=aH hA hB;clear hA hB;obtain⟨a,ha⟩:=au (nt (dN A).natAbs);obtain⟨p,hp⟩:=au (az (dN A));obtain⟨i,hi⟩:=au (dE A);obtain⟨b,hb⟩:=au (nt (dN B).natAbs);obtain⟨q,hq⟩:=au (az (dN B));obtain⟨j,hj⟩:=au (dE B);have GD:oC (iv p a) (i-g)=X:=by rw[<-hp,<-ha,fu,<-hi];exact hX
 have hY2:oC (iv q b) (j-g)=Y:=by rw[<-hq,<-hb,fu,<-hj];exact hY
 have Xt:Hid (∀W,aB W->Cv 155 #[.agg #[ag s,ah l,af e]] W (.agg #[ag p,ah a,af i])):=by intro W hW;rw[<-hp,<-ha,<-hi];exact rE s l e A HA.out W hx hW
 have Xu:Hid (∀W,aB W->Cv 155 #[.agg #[ag t,ah m,af f]] W (.agg #[ag q,ah b,af j])):=by intro W hW;rw[<-hq,<-hb,<-hj];exact rE t m f B HB.out W hy hW
 have hlv:(A=0/\g=j)\/(A≠0/\B=0/\g=i)\/(A≠0/\B≠0/\g=min i j):=by
  rw[<-hg];unfold vp;by_cases h1:A=0
  . simp[h1,hj]
  . by_cases h2:B=0<;>simp[h1,h2,hi,hj]
 rw[ha,hi]at pA;rw[hb,hj]at pB;have zA:A=0->(p=false/\a=[]/\i=0):=by rintro rfl;exact⟨hp.symm,ha.symm,hi.symm⟩
 have zB:B=0->(q=false/\b=[]/\j=0):=by rintro rfl;exact⟨hq.symm,hb.symm,hj.symm⟩
 have nA:A≠0->a≠[]:=by intro h;rw[<-ha];rcases aeR (A:=A)with h2|h2;exact absurd h2 h;exact h2.1
 have nB:B≠0->b≠[]:=by intro h;rw[<-hb];rcases aeR (A:=B)with h2|h2;exact absurd h2 h;exact h2.1
 have hgi: -549755813888<=i-g/\i-g<=549755813888:=by rcases hlv with⟨_,h⟩ |⟨_,_,h⟩ |⟨_,_,h⟩<;>omega
 have hgj: -549755813888<=j-g/\j-g<=549755813888:=by rcases hlv with⟨_,h⟩ |⟨_,_,h⟩ |⟨_,_,h⟩<;>omega
 obtain⟨HX,HY⟩:=aH GD hY2;have La:Hid (a.length<=34359738368):=by show _<=_;omega
 have Lb:Hid (b.length<=34359738368):=by show _<=_;omega
 obtain⟨OU,OV⟩:=aH hgi hgj;clear GD hY2 hX hY hg ha hp hi hb hq hj hgi hgj HA HB hx hy;go_enter Tryz.func166,Tryz.ntmps166;have Hb:=hbz w;go_wp2_with fail;refine yZ w (Hb.an trivial) 45 [ag s,ah l,af e] 45 [ag t,ah m,af f] 187 [af 0,ag false,.string (bs []),ag false,.string (bs [])] λW aG ae ai=>?_;have HT:=aj (hT.below ae.2.2.2.1.out);refine cQ 4 ae (cJ 6 0xa0806020501) ?_;refine bo ?_;refine bP ae (Xt.out _ (qU HT.out)) λw1 ae=>?_;refine bP ae (Xu.out _ (qU (hT.below ae.2.2.2.1.out))) λw2 ae=>?_;have ai:=qC ae;refine qOp λK hK=>?_;go_simp;refine hK _ _ (λh=>absurd h zd) ?_
 refine cg (aN w2 (w.heap.size) 0 [ag p,ah a,af i]) aR ?_;intro w3 hs0;have ae:=bC hs0 ae;simp only[bD,List.set]at ae;have ai:=qC ae;have ai:=qC ae;refine qOp λK hK=>?_;go_simp;refine hK _ _ (λh=>absurd h zd) ?_
 refine cg (aN w3 (w.heap.size+1) 0 [ag q,ah b,af j]) aR ?_;intro w4 hs0;have ae:=bC hs0 ae;simp only[bD,List.set]at ae;have ai:=qC ae;refine cP ae λai=>?_;have zY:=ae.2.2.1;clear HT Xt Xu;rcases hlv with⟨h1,h2⟩ |⟨h1,h3,h2⟩ |⟨h1,h3,h2⟩
 . obtain⟨rfl,rfl,rfl⟩:=zA h1;subst h2;have z1:(bs []).toList=[]:=fY _;clear zA zB nA nB pA pB;have Hx:=ae.1;have Hy:=ae.2.1;have Hr:=ae.2.2.1;have Hb:=ae.2.2.2.1;obtain⟨ae,ai⟩:=qZ (Hx.an<|Hy.an<|Hr.an trivial);have aG:=qL (Hb.an ae);go_wp2_with fail;refine cF w4 (Hb.an ae) 187 [af g,ag false,.string (bs []),ag false,.string (bs [])] λW5 aG ae ai=>?_;have hns:w.heap.size+1+1<w4.heap.size:=zY.out.lt;obtain⟨Hn,Hb,Hx,Hy,Hr,_⟩:=ae;obtain⟨x0,kY,x1,kZ,x2,oO⟩:=Hx.out.g3;obtain⟨y0,gm,y1,gp,y2,iE⟩:=Hy.out.g3;obtain⟨r0,aZ,r1,bf,r2,mS,r3,oM,r4,oN⟩:=Hr.out.g5;obtain⟨n0,mf,n1,mg,n2,mh,n3,nZ,n4,oc⟩:=Hn.out.g5;refine fx (λw'=>aJ w' (w.heap.size) 0 (ag false)/\aJ w' (w.heap.size) 1 (.string (bs []))/\aJ w' (w.heap.size) 2 (af 0)/\aJ w' (w.heap.size+1) 0 (ag q)/\aJ w' (w.heap.size+1) 1 (ah b)/\aJ w' (w.heap.size+1) 2 (af g)/\aJ w' (w4.heap.size) 0 (af g)) (λi=>Nat.blt i 11) [(0,true),(1,true),(2,true),(4,true),(5,true),(6,true),(3,false),(8,true),(7,false),(9,false),(10,true),(11,false)] zk zk rfl zk zc ⟨x0,x1,x2,y0,y1,y2,n0⟩ ?_;iterate 6 (refine pT rfl rfl ?_ (by intro w' ⟨q0,q1,q2,q3,q4,q5,q6⟩;go_simp;try with_reducible rfl))
   refine aO rfl rfl (λK hK=>?_);go_simp;with_reducible refine(Eh false [] 0 g X HX.out _ La.out OU.out (by first|exact(hT.below Hb.out) |exact aB.drew (hT.below Hb.out) |exact aB.alloc (hT.below Hb.out) _|exact aB.drew (aB.alloc (hT.below Hb.out) _) |exact aB.alloc (aB.drew (hT.below Hb.out)) _)).mono ?_
   rintro e w6 ⟨rfl,hq⟩;have ak:Bw W5 w6:=by first|exact hq|exact cM hq
   obtain⟨Hx,x0,kY,x1,kZ,x2,oO⟩:=mC Hx ak;obtain⟨Hy,y0,gm,y1,gp,y2,iE⟩:=mC Hy ak;replace Hr:=kB Hr ak;replace Hn:=kB Hn ak;obtain⟨r0,aZ,r1,bf,r2,mS,r3,oM,r4,oN⟩:=Hr.out.g5;obtain⟨n0,mf,n1,mg,n2,mh,n3,nZ,n4,oc⟩:=Hn.out.g5;replace Hb:=bj Hb ak;refine hK _ _ (λ_=>⟨x0,x1,x2,y0,y1,y2,n0⟩) ?_
   refine pT rfl rfl ?_
   refine aO rfl rfl (λK hK=>?_);go_simp;with_reducible refine(Eh q b g g Y HY.out _ Lb.out OV.out (by first|exact(hT.below Hb.out) |exact aB.drew (hT.below Hb.out) |exact aB.alloc (hT.below Hb.out) _|exact aB.drew (aB.alloc (hT.below Hb.out) _) |exact aB.alloc (aB.drew (hT.below Hb.out)) _)).mono ?_
   rintro e w7 ⟨rfl,hq⟩;have ak:Bw w6 w7:=by first|exact hq|exact cM hq
   obtain⟨Hx,x0,kY,x1,kZ,x2,oO⟩:=mC Hx ak;obtain⟨Hy,y0,gm,y1,gp,y2,iE⟩:=mC Hy ak;replace Hr:=kB Hr ak;replace Hn:=kB Hn ak;obtain⟨r0,aZ,r1,bf,r2,mS,r3,oM,r4,oN⟩:=Hr.out.g5;obtain⟨n0,mf,n1,mg,n2,mh,n3,nZ,n4,oc⟩:=Hn.out.g5;replace Hb:=bj Hb ak;refine hK _ _ (λ_=>⟨x0,x1,x2,y0,y1,y2,n0⟩) ?_
   refine aO rfl rfl (λK hK=>?_);go_simp;refine hK _ _ (λ_=>⟨(aC zf (aC zf x0)),(aC zf (aC zf x1)),(aC zf (aC zf x2)),(aC zf (aC zf y0)),(aC zf (aC zf y1)),(aC zf (aC zf y2)),(aC zf (aC zf n0))⟩) ?_
   refine cg (aN w7 (w4.heap.size) 1 [ag (az X),ah (nt X.natAbs)]) aR ?_;intro w8 hs;replace Hx:=kS Hx hs zo;replace Hy:=kS Hy hs zo;replace Hr:=kS Hr hs zo;replace Hn:Hid (ar w8 (w4.heap.size) 187 [af g,ag (az X),ah (nt X.natAbs),ag false,.string (bs [])]):=yM Hn hs;obtain⟨x0,kY,x1,kZ,x2,oO⟩:=Hx.out.g3;obtain⟨y0,gm,y1,gp,y2,iE⟩:=Hy.out.g3;obtain⟨r0,aZ,r1,bf,r2,mS,r3,oM,r4,oN⟩:=Hr.out.g5;obtain⟨n0,mf,n1,mg,n2,mh,n3,nZ,n4,oc⟩:=Hn.out.g5;replace Hb:=bS Hb hs ZS;clear hs;refine pT rfl rfl ?_
   refine aO rfl rfl (λK hK=>?_);go_simp;refine hK _ _ (λh=>absurd h zd) ?_
   refine cg (aN w8 (w4.heap.size) 3 [ag (az Y),ah (nt Y.natAbs)]) aR ?_;intro w9 hs;replace Hx:=kS Hx hs zo;replace Hy:=kS Hy hs zo;replace Hr:=kS Hr hs zo;replace Hn:Hid (ar w9 (w4.heap.size) 187 [af g,ag (az X),ah (nt X.natAbs),ag (az Y),ah (nt Y.natAbs)]):=yM Hn hs;obtain⟨x0,kY,x1,kZ,x2,oO⟩:=Hx.out.g3;obtain⟨y0,gm,y1,gp,y2,iE⟩:=Hy.out.g3;obtain⟨r0,aZ,r1,bf,r2,mS,r3,oM,r4,oN⟩:=Hr.out.g5;obtain⟨n0,mf,n1,mg,n2,mh,n3,nZ,n4,oc⟩:=Hn.out.g5;replace Hb:=bS Hb hs ZS;clear hs;simp only[bH];go_wp2;exact bodyPost_ret (v:=.agg #[af g,ag (az X),ah (nt X.natAbs),ag (az Y),ah (nt Y.natAbs)]) (by simp[results,Tryz.results166,go_sem,r0,r1,r2,r3,r4]) rfl ⟨rfl,cK⟩
 . obtain⟨rfl,rfl,rfl⟩:=zB h3;subst h2;have z1:(bs []).toList=[]:=fY _;have z2:¬(bs a).toList=[]:=by rw[fY];exact nA h1
   clear zA zB nA nB pA pB;have Hx:=ae.1;have Hy:=ae.2.1;have Hr:=ae.2.2.1;have Hb:=ae.2.2.2.1;obtain⟨ae,ai⟩:=qZ (Hx.an<|Hy.an<|Hr.an trivial);have aG:=qL (Hb.an ae);go_wp2_with fail;refine cF w4 (Hb.an ae) 187 [af g,ag false,.string (bs []),ag false,.string (bs [])] λW5 aG ae ai=>?_;have hns:w.heap.size+1+1<w4.heap.size:=zY.out.lt;obtain⟨Hn,Hb,Hx,Hy,Hr,_⟩:=ae;obtain⟨x0,kY,x1,kZ,x2,oO⟩:=Hx.out.g3;obtain⟨y0,gm,y1,gp,y2,iE⟩:=Hy.out.g3;obtain⟨r0,aZ,r1,bf,r2,mS,r3,oM,r4,oN⟩:=Hr.out.g5;obtain⟨n0,mf,n1,mg,n2,mh,n3,nZ,n4,oc⟩:=Hn.out.g5;refine fx (λw'=>aJ w' (w.heap.size) 0 (ag p)/\aJ w' (w.heap.size) 1 (ah a)/\aJ w' (w.heap.size) 2 (af g)/\aJ w' (w.heap.size+1) 0 (ag false)/\aJ w' (w.heap.size+1) 1 (.string (bs []))/\aJ w' (w.heap.size+1) 2 (af 0)/\aJ w' (w4.heap.size) 0 (af g)) (λi=>Nat.blt i 11) [(0,true),(1,true),(2,true),(4,true),(5,true),(6,true),(3,false),(8,true),(7,false),(9,false),(10,true),(11,false)] zk zk rfl zk zc ⟨x0,x1,x2,y0,y1,y2,n0⟩ ?_;iterate 6 (refine pT rfl rfl ?_ (by intro w' ⟨q0,q1,q2,q3,q4,q5,q6⟩;go_simp;try with_reducible rfl))
   refine aO rfl rfl (λK hK=>?_);go_simp;with_reducible refine(Eh p a g g X HX.out _ La.out OU.out (by first|exact(hT.below Hb.out) |exact aB.drew (hT.below Hb.out) |exact aB.alloc (hT.below Hb.out) _|exact aB.drew (aB.alloc (hT.below Hb.out) _) |exact aB.alloc (aB.drew (hT.below Hb.out)) _)).mono ?_
   rintro e w6 ⟨rfl,hq⟩;have ak:Bw W5 w6:=by first|exact hq|exact cM hq
   obtain⟨Hx,x0,kY,x1,kZ,x2,oO⟩:=mC Hx ak;obtain⟨Hy,y0,gm,y1,gp,y2,iE⟩:=mC Hy ak;replace Hr:=kB Hr ak;replace Hn:=kB Hn ak;obtain⟨r0,aZ,r1,bf,r2,mS,r3,oM,r4,oN⟩:=Hr.out.g5;obtain⟨n0,mf,n1,mg,n2,mh,n3,nZ,n4,oc⟩:=Hn.out.g5;replace Hb:=bj Hb ak;refine hK _ _ (λ_=>⟨x0,x1,x2,y0,y1,y2,n0⟩) ?_
   refine pT rfl rfl ?_
   refine aO rfl rfl (λK hK=>?_);go_simp;with_reducible refine(Eh false [] 0 g Y HY.out _ Lb.out OV.out (by first|exact(hT.below Hb.out) |exact aB.drew (hT.below Hb.out) |exact aB.alloc (hT.below Hb.out) _|exact aB.drew (aB.alloc (hT.below Hb.out) _) |exact aB.alloc (aB.drew (hT.below Hb.out)) _)).mono ?_
   rintro e w7 ⟨rfl,hq⟩;have ak:Bw w6 w7:=by first|exact hq|exact cM hq
   obtain⟨Hx,x0,kY,x1,kZ,x2,oO⟩:=mC Hx ak;obtain⟨Hy,y0,gm,y1,gp,y2,iE⟩:=mC Hy ak;replace Hr:=kB Hr ak;replace Hn:=kB Hn ak;obtain⟨r0,aZ,r1,bf,r2,mS,r3,oM,r4,oN⟩:=Hr.out.g5;obtain⟨n0,mf,n1,mg,n2,mh,n3,nZ,n4,oc⟩:=Hn.out.g5;replace Hb:=bj Hb ak;refine hK _ _ (λ_=>⟨x0,x1,x2,y0,y1,y2,n0⟩) ?_
   refine aO rfl rfl (λK hK=>?_);go_simp;refine hK _ _ (λ_=>⟨(aC zf (aC zf x0)),(aC zf (aC zf x1)),(aC zf (aC zf x2)),(aC zf (aC zf y0)),(aC zf (aC zf y1)),(aC zf (aC zf y2)),(aC zf (aC zf n0))⟩) ?_
   refine cg (aN w7 (w4.heap.size) 1 [ag (az X),ah (nt X.natAbs)]) aR ?_;intro w8 hs;replace Hx:=kS Hx hs zo;replace Hy:=kS Hy hs zo;replace Hr:=kS Hr hs zo;replace Hn:Hid (ar w8 (w4.heap.size) 187 [af g,ag (az X),ah (nt X.natAbs),ag false,.string (bs [])]):=yM Hn hs;obtain⟨x0,kY,x1,kZ,x2,oO⟩:=Hx.out.g3;obtain⟨y0,gm,y1,gp,y2,iE⟩:=Hy.out.g3;obtain⟨r0,aZ,r1,bf,r2,mS,r3,oM,r4,oN⟩:=Hr.out.g5;obtain⟨n0,mf,n1,mg,n2,mh,n3,nZ,n4,oc⟩:=Hn.out.g5;replace Hb:=bS Hb hs ZS;clear hs;refine pT rfl rfl ?_
   refine aO rfl rfl (λK hK=>?_);go_simp;refine hK _ _ (λh=>absurd h zd) ?_
   refine cg (aN w8 (w4.heap.size) 3 [ag (az Y),ah (nt Y.natAbs)]) aR ?_;intro w9 hs;replace Hx:=kS Hx hs zo;replace Hy:=kS Hy hs zo;replace Hr:=kS Hr hs zo;replace Hn:Hid (ar w9 (w4.heap.size) 187 [af g,ag (az X),ah (nt X.natAbs),ag (az Y),ah (nt Y.natAbs)]):=yM Hn hs;obtain⟨x0,kY,x1,kZ,x2,oO⟩:=Hx.out.g3;obtain⟨y0,gm,y1,gp,y2,iE⟩:=Hy.out.g3;obtain⟨r0,aZ,r1,bf,r2,mS,r3,oM,r4,oN⟩:=Hr.out.g5;obtain⟨n0,mf,n1,mg,n2,mh,n3,nZ,n4,oc⟩:=Hn.out.g5;replace Hb:=bS Hb hs ZS;clear hs;simp only[bH];go_wp2;exact bodyPost_ret (v:=.agg #[af g,ag (az X),ah (nt X.natAbs),ag (az Y),ah (nt Y.natAbs)]) (by simp[results,Tryz.results166,go_sem,r0,r1,r2,r3,r4]) rfl ⟨rfl,cK⟩
 . have z1:¬(bs b).toList=[]:=by rw[fY];exact nB h3
   have z2:¬(bs a).toList=[]:=by rw[fY];exact nA h1
   have z3:min i j=g:=h2.symm;clear zA zB nA nB pA pB h2;have Hx:=ae.1;have Hy:=ae.2.1;have Hr:=ae.2.2.1;have Hb:=ae.2.2.2.1;obtain⟨ae,ai⟩:=qZ (Hx.an<|Hy.an<|Hr.an trivial);have aG:=qL (Hb.an ae);go_wp2_with fail;refine cF w4 (Hb.an ae) 187 [af g,ag false,.string (bs []),ag false,.string (bs [])] λW5 aG ae ai=>?_;have hns:w.heap.size+1+1<w4.heap.size:=zY.out.lt;obtain⟨Hn,Hb,Hx,Hy,Hr,_⟩:=ae;obtain⟨x0,kY,x1,kZ,x2,oO⟩:=Hx.out.g3;obtain⟨y0,gm,y1,gp,y2,iE⟩:=Hy.out.g3;obtain⟨r0,aZ,r1,bf,r2,mS,r3,oM,r4,oN⟩:=Hr.out.g5;obtain⟨n0,mf,n1,mg,n2,mh,n3,nZ,n4,oc⟩:=Hn.out.g5;refine fx (λw'=>aJ w' (w.heap.size) 0 (ag p)/\aJ w' (w.heap.size) 1 (ah a)/\aJ w' (w.heap.size) 2 (af i)/\aJ w' (w.heap.size+1) 0 (ag q)/\aJ w' (w.heap.size+1) 1 (ah b)/\aJ w' (w.heap.size+1) 2 (af j)/\aJ w' (w4.heap.size) 0 (af g)) (λi=>Nat.blt i 11) [(0,true),(1,true),(2,true),(4,true),(5,true),(6,true),(3,false),(8,true),(7,false),(9,false),(10,true),(11,false)] zk zk rfl zk zc ⟨x0,x1,x2,y0,y1,y2,n0⟩ ?_;iterate 6 (refine pT rfl rfl ?_ (by intro w' ⟨q0,q1,q2,q3,q4,q5,q6⟩;go_simp;try with_reducible rfl))
   refine aO rfl rfl (λK hK=>?_);go_simp;with_reducible refine(Eh p a i g X HX.out _ La.out OU.out (by first|exact(hT.below Hb.out) |exact aB.drew (hT.below Hb.out) |exact aB.alloc (hT.below Hb.out) _|exact aB.drew (aB.alloc (hT.below Hb.out) _) |exact aB.alloc (aB.drew (hT.below Hb.out)) _)).mono ?_
   rintro e w6 ⟨rfl,hq⟩;have ak:Bw W5 w6:=by first|exact hq|exact cM hq
   obtain⟨Hx,x0,kY,x1,kZ,x2,oO⟩:=mC Hx ak;obtain⟨Hy,y0,gm,y1,gp,y2,iE⟩:=mC Hy ak;replace Hr:=kB Hr ak;replace Hn:=kB Hn ak;obtain⟨r0,aZ,r1,bf,r2,mS,r3,oM,r4,oN⟩:=Hr.out.g5;obtain⟨n0,mf,n1,mg,n2,mh,n3,nZ,n4,oc⟩:=Hn.out.g5;replace Hb:=bj Hb ak;refine hK _ _ (λ_=>⟨x0,x1,x2,y0,y1,y2,n0⟩) ?_
   refine pT rfl rfl ?_
   refine aO rfl rfl (λK hK=>?_);go_simp;with_reducible refine(Eh q b j g Y HY.out _ Lb.out OV.out (by first|exact(hT.below Hb.out) |exact aB.drew (hT.below Hb.out) |exact aB.alloc (hT.below Hb.out) _|exact aB.drew (aB.alloc (hT.below Hb.out) _) |exact aB.alloc (aB.drew (hT.below Hb.out)) _)).mono ?_
   rintro e w7 ⟨rfl,hq⟩;have ak:Bw w6 w7:=by first|exact hq|exact cM hq
   obtain⟨Hx,x0,kY,x1,kZ,x2,oO⟩:=mC Hx ak;obtain⟨Hy,y0,gm,y1,gp,y2,iE⟩:=mC Hy ak;replace Hr:=kB Hr ak;replace Hn:=kB Hn ak;obtain⟨r0,aZ,r1,bf,r2,mS,r3,oM,r4,oN⟩:=Hr.out.g5;obtain⟨n0,mf,n1,mg,n2,mh,n3,nZ,n4,oc⟩:=Hn.out.g5;replace Hb:=bj Hb ak;refine hK _ _ (λ_=>⟨x0,x1,x2,y0,y1,y2,n0⟩) ?_
   refine aO rfl rfl (λK hK=>?_);go_simp;refine hK _ _ (λ_=>⟨(aC zf (aC zf x0)),(aC zf (aC zf x1)),(aC zf (aC zf x2)),(aC zf (aC zf y0)),(aC zf (aC zf y1)),(aC zf (aC zf y2)),(aC zf (aC zf n0))⟩) ?_
   refine cg (aN w7 (w4.heap.size) 1 [ag (az X),ah (nt X.natAbs)]) aR ?_;intro w8 hs;replace Hx:=kS Hx hs zo;replace Hy:=kS Hy hs zo;replace Hr:=kS Hr hs zo;replace Hn:Hid (ar w8 (w4.heap.size) 187 [af g,ag (az X),ah (nt X.natAbs),ag false,.string (bs [])]):=yM Hn hs;obtain⟨x0,kY,x1,kZ,x2,oO⟩:=Hx.out.g3;obtain⟨y0,gm,y1,gp,y2,iE⟩:=Hy.out.g3;obtain⟨r0,aZ,r1,bf,r2,mS,r3,oM,r4,oN⟩:=Hr.out.g5;obtain⟨n0,mf,n1,mg,n2,mh,n3,nZ,n4,oc⟩:=Hn.out.g5;replace Hb:=bS Hb hs ZS;clear hs;refine pT rfl rfl ?_
   refine aO rfl rfl (λK hK=>?_);go_simp;refine hK _ _ (λh=>absurd h zd) ?_
   refine cg (aN w8 (w4.heap.size) 3 [ag (az Y),ah (nt Y.natAbs)]) aR ?_;intro w9 hs;replace Hx:=kS Hx hs zo;replace Hy:=kS Hy hs zo;replace Hr:=kS Hr hs zo;replace Hn:Hid (ar w9 (w4.heap.size) 187 [af g,ag (az X),ah (nt X.natAbs),ag (az Y),ah (nt Y.natAbs)]):=yM Hn hs;obtain⟨x0,kY,x1,kZ,x2,oO⟩:=Hx.out.g3;obtain⟨y0,gm,y1,gp,y2,iE⟩:=Hy.out.g3;obtain⟨r0,aZ,r1,bf,r2,mS,r3,oM,r4,oN⟩:=Hr.out.g5;obtain⟨n0,mf,n1,mg,n2,mh,n3,nZ,n4,oc⟩:=Hn.out.g5;replace Hb:=bS Hb hs ZS;clear hs;simp only[bH];go_wp2;exact bodyPost_ret (v:=.agg #[af g,ag (az X),ah (nt X.natAbs),ag (az Y),ah (nt Y.natAbs)]) (by simp[results,Tryz.results166,go_sem,r0,r1,r2,r3,r4]) rfl ⟨rfl,cK⟩
def YH (X Y:Int)(n:Nat)(hX:(nt X.natAbs).length<=n)(hY:(nt Y.natAbs).length<=n):(nt (X+Y).natAbs).length<=n+1:=by have h1:=ia (nt X.natAbs);have h2:=ia (nt Y.natAbs);rw[jl]at h1 h2;have h3:=Nat.lt_of_lt_of_le h1 (Nat.pow_le_pow_right (show 0<256 by decide) hX);have h4:=Nat.lt_of_lt_of_le h2 (Nat.pow_le_pow_right (show 0<256 by decide) hY);refine kC ?_;rw[Nat.pow_succ];omega
def ar8 (X Y:Int)(m n:Nat)(hX:(nt X.natAbs).length<=m)(hY:(nt Y.natAbs).length<=n):(nt (X*Y).natAbs).length<=m+n:=by have h1:=ia (nt X.natAbs);have h2:=ia (nt Y.natAbs);rw[jl]at h1 h2;have h3:=Nat.lt_of_lt_of_le h1 (Nat.pow_le_pow_right (show 0<256 by decide) hX);have h4:=Nat.lt_of_lt_of_le h2 (Nat.pow_le_pow_right (show 0<256 by decide) hY);refine kC ?_;rw[Int.natAbs_mul,Nat.pow_add];exact Nat.mul_lt_mul'' h3 h4
def afx (v k:Int)(a b:Nat)(hv:v.natAbs<2^a)(hk:k<=b):(oC v k).natAbs<2^(a+b):=by
 have h0:v.natAbs<2^(a+b):=Nat.lt_of_lt_of_le hv (Nat.pow_le_pow_right zd zo);unfold oC;split
 . rw[Int.natAbs_mul,Int.natAbs_pow,Nat.pow_add];refine Nat.lt_of_le_of_lt (Nat.mul_le_mul_left _ (Nat.pow_le_pow_right zd (show k.toNat<=b by omega))) ?_;exact Nat.mul_lt_mul_of_pos_right hv (Nat.pow_pos zd)
 . have hp:(0:Int)<2^(-k).toNat:=by
    have:((2^(-k).toNat:Nat):Int)>0:=by have:=Nat.pow_pos (n:=(-k).toNat) (show 0<2 by decide);omega
    simpa[Int.natCast_pow]using this
   generalize (2:Int)^(-k).toNat=p at*;have:(v/p).natAbs<=v.natAbs:=by
    rcases Int.le_total 0 v with h|h
    . have h1:=Int.ediv_nonneg h (by omega:(0:Int)<=p);have h2:=Int.ediv_le_self p h;omega
    . have h1:v<=v/p:=by rw[Int.le_ediv_iff_mul_le hp];have:=Int.mul_le_mul_of_nonpos_left h (show(1:Int)<=p by omega);omega
      have h2:v/p<=0:=by have:=Int.ediv_le_ediv hp h;simpa using this
      omega
   omega
def aen {x y:Raw}(hx:Ok x)(hy:Ok y)(A B:Dyadic)(hA:dval x=A)(hB:dval y=B):∃g X Y,vp A B=g/\oC (dN A) (dE A-g)=X/\oC (dN B) (dE B-g)=Y/\A=Dyadic.ofIntWithPrec X (-g)/\B=Dyadic.ofIntWithPrec Y (-g)/\
 (nt X.natAbs).length<=17179869183/\(nt Y.natAbs).length<=17179869183/\ -1099511627776<=g/\g<=1099511627776:=by
 subst hA hB;obtain⟨M,hM,sx,sy⟩:∃M,M<=4294967296/\Sm M (dval x)/\Sm M (dval y):=⟨4294967296,Nat.le_refl _,hx.sm,hy.sm⟩;obtain⟨a1,a2,a3⟩:=sx.parts;obtain⟨b1,b2,b3⟩:=sy.parts;generalize dval x=A at*;generalize dval y=B at*;obtain⟨h1,h2⟩:=arD A B;have hg: -(M:Int)<=vp A B/\vp A B<=M:=by
  clear a1 b1;unfold vp;split
  . omega
  . split<;>omega
 refine⟨vp A B,_,_,rfl,rfl,rfl,aeY A _ h1,aeY B _ h2,?_,?_,?_,?_⟩
 . exact lv (afx _ _ _ (2*M) a1 (by clear a1 b1;omega)) zo
 . exact lv (afx _ _ _ (2*M) b1 (by clear a1 b1;omega)) zo
 . clear a1 b1;omega
 . clear a1 b1;omega
def aV (x:Raw):List Value:=[ag x.1,ah x.2.1,af x.2.2]
def lW :List Raw->Dyadic
 |[]=>0
 |x::xs=>dval x+lW xs
def anf (xs ys:List Raw):lW (xs++ys)=lW xs+lW ys:=by
 induction xs with
 |nil=>simp only[List.nil_append,lW];grind
 |cons x xs ih=>simp only[List.cons_append,lW,ih];grind
def anh (xs:List Raw)(k:Nat)(hk:k<xs.length):lW (xs.take (k+1))=lW (xs.take k)+dval xs[k]:=by rw[List.take_succ_eq_append_getElem hk,anf];simp only[lW];grind
def kX :List Raw->Dyadic
 |[]=>1
 |x::xs=>dval x*kX xs
def anb (xs ys:List Raw):kX (xs++ys)=kX xs*kX ys:=by
 induction xs with
 |nil=>simp only[List.nil_append,kX];grind
 |cons x xs ih=>simp only[List.cons_append,kX,ih];grind
def ane (xs:List Raw)(k:Nat)(hk:k<xs.length):kX (xs.take (k+1))=kX (xs.take k) *dval xs[k]:=by rw[List.take_succ_eq_append_getElem hk,anb];simp only[kX];grind
def awg (X Y N:Int)(hN:X+Y=N)(b cap:Nat)(ty:TypeId)(w:World)(hl:(nt X.natAbs).length<=34359738368)(hm:(nt Y.natAbs).length<=34359738368)
 (ha:ar w b ty [ag (az X),ah (nt X.natAbs),ag (az Y),ah (nt Y.natAbs)]):
 Cv 167 #[.slice (some ⟨b,0,none⟩) 2 cap] w (cS N):=by
 have:=agc (az X) (nt X.natAbs) (az Y) (nt Y.natAbs) b cap ty w hl hm ha;rw[fu,fu,hN]at this;exact this
def agf (s:Bool)(l:List UInt8)(t:Bool)(m:List UInt8)(N:Int)(hN:iv s l*iv t m=N)(b cap:Nat)(ty:TypeId)(w:World)(hl:l.length<=17179869184)(hm:m.length<=17179869184)
 (ha:ar w b ty [ag s,ah l,ag t,ah m]):
 Cv 126 #[.slice (some ⟨b,0,none⟩) 2 cap] w (cS N):=by
 have:=awl [(s,l),(t,m)] (some ⟨b,0,none⟩) cap w (by simp[qI];omega) zm (At.azW ha);have e:gY [(s,l),(t,m)]=N:=by rw[<-hN];simp[gY]
 rw[e]at this;exact this
def amy (xs:List Raw)(a:Option Addr)(cap:Nat)(w:World)(hl:∀x∈xs,Ok x)(hS:∀k,Ok (canon (lW (xs.take k))))(hx:xs.length<=1048576)
 (ha:At w a (xs.flatMap aV)) (hT:aB w):
 Cv 85 #[.slice a xs.length cap] w (bT (lW xs)):=by
 have Hl:=aj hl;clear hl;have HS:=aj hS;clear hS;have Ha:=aj ha;clear ha;have lJ:=aj hT;clear hT;go_enter Tryz.func85,Tryz.ntmps85;have Hb:=hbz w;go_wp2_with fail;refine gP w (Hb.an trivial) 45 [ag false,.string (bs []),af 0] 45 [ag false,.string (bs []),af 0] λW aG ae ai=>?_
 go_loopw[5,6,9] (λ_ _ i wr=>∃(k:Nat),k<=xs.length/\i=af k/\ar wr w.heap.size 45 [ag false,.string (bs []),af 0]/\
  ar wr (w.heap.size+1) 45 (aV (canon (lW (xs.take k))))/\Bw w wr) (λ_ _ i _=>xs.length-(intOf i).toNat)
 case atStart=>exact⟨0,Nat.zero_le _,rfl,ae.1.out,ae.2.1.out,ae.2.2.1.out⟩
 case round=>
  obtain⟨k,hk,rfl,qr,qs,hb⟩:=hrel;obtain⟨Hr,Hs,Hb⟩:=bM qr qs hb;clear qr qs hb;by_cases hlt:k<xs.length
  . obtain ⟨b,o,hab,hcs⟩:=(Ha.out.below Hb.out).elem (f:=aV) (sz:=3) (fun _=>rfl) zd k hlt;have hc0:wr.cell? ⟨b,o+k*3,none⟩=some (ag xs[k].1):=hcs 0 zd;have hc1:wr.cell? ⟨b,o+k*3+1,none⟩=some (.string (bs xs[k].2.1)):=hcs 1 zd;have hc2:wr.cell? ⟨b,o+k*3+2,none⟩=some (af xs[k].2.2):=hcs 2 zd;have aX:=ud xs.length cap k (k:Int) hab hlt rfl;have bN:=aj (anh xs k hlt);have lI:Hid (Ok xs[k]):=Hl.out _ (List.getElem_mem hlt);have kL:=aj (HS.out k);clear hcs hab;generalize xs[k]=x at*;obtain⟨t1,l1,e1⟩:=x;generalize hS:lW (xs.take k)=S at*;clear hS;obtain⟨g,X,Y,hg,hX,hY,eA,eB,lX,lY,hg1,hg2⟩:=aen kL.out lI.out S (dval (t1,l1,e1)) (bu S) rfl;obtain⟨N,hN⟩:=au (X+Y);obtain⟨D,hD⟩:=au (S+dval (t1,l1,e1));have HD:Hid (dval (az N,nt N.natAbs,g)=D):=by
     show _=_
     rw[Aq,<-hD,<-hN,<-vv,<-eA,<-eB]
    have OY:Hid ((nt N.natAbs).length<=34359738368):=by show _<=_;rw[<-hN];exact Nat.le_trans (YH X Y _ lX lY) zd
    rw[hD]at bN;have xK:Hid (∀W,aB W->Cv 166 #[bT S,.agg #[ag t1,ah l1,af e1]] W (.agg #[af g,ag (az X),ah (nt X.natAbs),ag (az Y),ah (nt Y.natAbs)])):=λW hW=>
     ad5 _ _ _ t1 l1 e1 S (dval (t1,l1,e1)) (bu S) rfl g X Y hg hX hY W kL.out lI.out hW
    have LX:Hid ((nt X.natAbs).length<=34359738368):=by show _<=_;omega
    have LY:Hid ((nt Y.natAbs).length<=34359738368):=by show _<=_;omega
    have Hg:Hid (-1099511627776<=g/\g<=1099511627776):=⟨hg1,hg2⟩;have HN:=aj hN;clear eA eB hg hX hY lX lY hN hD hg1 hg2 kL lI;unfold aV canon at Hs;simp only at Hs;obtain⟨ae,ai⟩:=qZ (Hr.an<|Hs.an trivial);have aG:=qL (Hb.an ae);go_wp2_with fail;refine cF wr (Hb.an ae) 45 [ag t1,ah l1,af e1] λW1 aG ae ai=>?_;have HT:=aj (lJ.out.below ae.2.1.out);go_wp2_with fail;refine aK ae (xK.out _ HT.out) λw1 ae ai=>?_;have aG:=qL ae;go_wp2_with fail;refine cF w1 ae 187 [af g,ag (az X),ah (nt X.natAbs),ag (az Y),ah (nt Y.natAbs)] λW2 aG ae ai=>?_;refine cQ 9 ae (cJ 10 0x12100a080f0d07050301) ?_;refine bo ?_;refine nC 43 [ag (az X),ah (nt X.natAbs),ag (az Y),ah (nt Y.natAbs)] ae λW3 aG ae=>?_;refine bP ae (awg X Y N HN.out W2.heap.size 2 43 _ LX.out LY.out ae.1.out) λw3 ae=>?_;refine bP ae (yP (az N) (nt N.natAbs) g D HD.out _ OY.out Hg.out (qU (lJ.out.below ae.2.2.2.1.out))) λw4 ae=>?_;have ai:=qC ae;refine qOp λK hK=>?_;go_simp;refine hK _ _ (λh=>absurd h zd) ?_
    refine cg (aN w4 (w.heap.size+1) 0 [ag (az (dN D)),ah (nt (dN D).natAbs),af (dE D)]) aR ?_;intro w5 hs0;have ae:=bC hs0 ae;simp only[bD,List.set]at ae;have ai:=qC ae;refine cP ae λai=>?_;go_wp2;go_roundw;case rel=>
     refine⟨k+1,by omega,by go_num,ae.2.2.2.2.1.out,?_,ae.2.2.2.1.out⟩;rw[bN.out];exact ae.2.2.2.2.2.1.out
    case measure=>exact bi
  . obtain rfl:k=xs.length:=by omega
    rw[List.take_length]at Hs;unfold aV canon at Hs;simp only at Hs;obtain⟨ae,ai⟩:=qZ (Hr.an<|Hs.an trivial);have r0:wr.cell? ⟨w.heap.size,0,none⟩=some (ag false):=ae.1.out.cell 0;have r1:wr.cell? ⟨w.heap.size,1,none⟩=some (.string (bs [])):=ae.1.out.cell 1;have r2:wr.cell? ⟨w.heap.size,2,none⟩=some (af 0):=ae.1.out.cell 2;go_wp2;exact bodyPost_ret (v:=bT (lW xs)) (by simp[results,Tryz.results85,go_sem,r0,r1,r2,ai]) rfl ⟨rfl,cK⟩
def Sm.one :Sm 1 1:=⟨2,by rfl,by decide⟩
def ang {B:Nat}(xs:List Raw)(h:∀x∈xs,Sm B (dval x)):Sm (B+xs.length) (lW xs):=by
 induction xs with
 |nil=>exact Sm.zero _
 |cons x xs ih=>have h1:=h x zm;have h2:=ih (λy hy=>h y (by simp[hy]));exact(Sm.add (h1.mono (by omega:B<=B+xs.length)) h2)
def anc {B:Nat}(xs:List Raw)(h:∀x∈xs,Sm B (dval x)):Sm (B*xs.length+1) (kX xs):=by
 induction xs with
 |nil=>exact Sm.one
 |cons x xs ih=>have h1:=h x zm;have h2:=ih (λy hy=>h y (by simp[hy]));have:=Sm.mul h1 h2;rw[show B* (x::xs).length+1=B+(B*xs.length+1)by rw[List.length_cons,Nat.mul_add];omega];exact this
def Fit (B:Nat)(x:Raw):Prop:=Ok x/\Sm B (dval x)
def Fit.mono {A B:Nat}{x:Raw}(h:Fit A x)(hAB:A<=B):Fit B x:=⟨h.1,h.2.mono hAB⟩
def Sm.fit {B:Nat}{d:Dyadic}(h:Sm B d)(hB:B<=268435456):Fit B (canon d):=⟨h.ok hB,by rw[bu];exact h⟩
def amz (xs:List Raw)(B:Nat)(S:Dyadic)(hS:lW xs=S)(a:Option Addr)(cap:Nat)(w:World)(hl:∀x∈xs,Fit B x)(hB:B+xs.length<=268435456)(hx:xs.length<=1048576)
 (ha:At w a (xs.flatMap aV)) (hT:aB w):
 Cv 85 #[.slice a xs.length cap] w (bT S):=by
 subst hS;refine amy xs a cap w (λx h=>(hl x h).1) (λk=>?_) hx ha hT;refine Sm.ok (B:=B+xs.length) (Sm.mono (ang (B:=B) _ (λx h=>(hl x (List.mem_of_mem_take h)).2)) ?_) hB;rw[List.length_take];omega
def amF (xs:List Raw)(a:Option Addr)(cap:Nat)(w:World)(hl:∀x∈xs,Ok x)(hS:∀k,Ok (canon (kX (xs.take k))))(hx:xs.length<=1048576)
 (ha:At w a (xs.flatMap aV)) (hT:aB w):
 Cv 55 #[.slice a xs.length cap] w (bT (kX xs)):=by
 have Hl:=aj hl;clear hl;have HS:=aj hS;clear hS;have Ha:=aj ha;clear ha;have lJ:=aj hT;clear hT;obtain⟨I,hI⟩:∃I:Dyadic,1=I:=⟨_,rfl⟩;have HI:Hid (Dyadic.ofIntWithPrec 1 0=I):=by show _=_;rw[<-hI];rfl
 have HI1:=aj hI;clear hI;go_enter Tryz.func55,Tryz.ntmps55;have Hb:=hbz w;go_wp2_with fail;refine cF w (Hb.an trivial) 45 [ag false,.string (bs []),af 0] λW aG ae ai=>?_;have HT:=aj (lJ.out.below ae.2.1.out);go_wp2_with fail;refine aK ae (CV 1 I HI.out _ zo HT.out) λw2 ae ai=>?_;have aG:=qL ae;go_wp2_with fail;refine cF w2 ae 45 [ag (az (dN I)),ah (nt (dN I).natAbs),af (dE I)] λW2 aG ae ai=>?_
 go_loopw[5,9] (λ_ i wr=>∃(k:Nat),k<=xs.length/\i=af k/\ar wr w.heap.size 45 [ag false,.string (bs []),af 0]/\
  ar wr w2.heap.size 45 (aV (canon (kX (xs.take k))))/\Bw w wr) (λ_ i _=>xs.length-(intOf i).toNat)
 case atStart=>
  refine⟨0,Nat.zero_le _,rfl,ae.2.1.out,?_,ae.2.2.1.out⟩;have e:kX (xs.take 0)=I:=by rw[<-HI1.out];rfl
  rw[e];exact ae.1.out
 case round=>
  obtain⟨k,hk,rfl,qr,qs,hb⟩:=hrel;obtain⟨Hr,Hs,Hb⟩:=bM qr qs hb;clear qr qs hb HT;by_cases hlt:k<xs.length
  . obtain ⟨b,o,hab,hcs⟩:=(Ha.out.below Hb.out).elem (f:=aV) (sz:=3) (fun _=>rfl) zd k hlt;have hc0:wr.cell? ⟨b,o+k*3,none⟩=some (ag xs[k].1):=hcs 0 zd;have hc1:wr.cell? ⟨b,o+k*3+1,none⟩=some (.string (bs xs[k].2.1)):=hcs 1 zd;have hc2:wr.cell? ⟨b,o+k*3+2,none⟩=some (af xs[k].2.2):=hcs 2 zd;have aX:=ud xs.length cap k (k:Int) hab hlt rfl;have bN:=aj (ane xs k hlt);have lI:Hid (Ok xs[k]):=Hl.out _ (List.getElem_mem hlt);have kL:=aj (HS.out k);clear hcs hab;generalize xs[k]=x at*;obtain⟨t1,l1,e1⟩:=x;generalize hS:kX (xs.take k)=S at*;clear hS;obtain⟨N,hN⟩:=au (dN S*iv t1 l1);obtain⟨D,hD⟩:=au (S*dval (t1,l1,e1));obtain⟨g,hg⟩:=au (dE S+e1);have HD:Hid (dval (az N,nt N.natAbs,g)=D):=by
     show _=_
     rw[Aq,<-hD,<-hN];conv=>rhs;rw[vw S]
     unfold dval;rw[yX];congr 1;simp only;omega
    have o1:=kL.out.exp;have o2:=lI.out.exp;have o3:=kL.out.len;have o4:=lI.out.len;have OY:Hid ((nt N.natAbs).length<=34359738368):=by
     show _<=_
     have h2:=Je t1 l1 268435456 o4;rw[Int.natAbs_neg]at h2;rw[<-hN];exact Nat.le_trans (ar8 (dN S) (iv t1 l1) _ _ o3 h2) zd
    rw[hD]at bN;have LX:Hid ((nt (dN S).natAbs).length<=17179869184):=by show _<=_;omega
    have LY:Hid (l1.length<=17179869184):=by show _<=_;omega
    have Hg:Hid (-1099511627776<=g/\g<=1099511627776):=by show _/\_;omega
    have hwg:IntKind.i64.wrap (dE S+e1)=g:=by rw[IntKind.wrap_i64];omega
    have HN:Hid (iv (az (dN S)) (nt (dN S).natAbs) *iv t1 l1=N):=by show _=_;rw[fu];exact hN
    clear hg hN hD kL lI o1 o2 o3 o4;unfold aV canon at Hs;simp only at Hs;have hrs:w.heap.size<w2.heap.size:=zo;obtain⟨ae,ai⟩:=qZ (Hr.an<|Hs.an trivial);have aG:=qL (Hb.an ae);go_wp2_with fail;refine cF wr (Hb.an ae) 45 [ag t1,ah l1,af e1] λW1 aG ae ai=>?_;refine cQ 12 ae (cJ 13 0x18160a081513110f0d07050301) ?_;refine bo ?_;refine nC 43 [ag (az (dN S)),ah (nt (dN S).natAbs),ag t1,ah l1] ae λW3 aG ae=>?_;refine bP ae (agf (az (dN S)) (nt (dN S).natAbs) t1 l1 N HN.out W1.heap.size 2 43 _ LX.out LY.out ae.1.out) λw3 ae=>?_;refine bP ae (yP (az N) (nt N.natAbs) g D HD.out _ OY.out Hg.out (qU (lJ.out.below ae.2.2.1.out))) λw4 ae=>?_;have ai:=qC ae;refine qOp λK hK=>?_;go_simp;refine hK _ _ (λh=>absurd h zd) ?_
    refine cg (aN w4 (w2.heap.size) 0 [ag (az (dN D)),ah (nt (dN D).natAbs),af (dE D)]) aR ?_;intro w5 hs0;have ae:=bC hs0 ae;simp only[bD,List.set]at ae;have ai:=qC ae;refine cP ae λai=>?_;go_wp2;go_roundw;case rel=>
     refine⟨k+1,by omega,by go_num,ae.2.2.2.1.out,?_,ae.2.2.1.out⟩;rw[bN.out];exact ae.2.2.2.2.1.out
    case measure=>exact bi
  . obtain rfl:k=xs.length:=by omega
    rw[List.take_length]at Hs;unfold aV canon at Hs;simp only at Hs;obtain⟨ae,ai⟩:=qZ (Hr.an<|Hs.an trivial);have r0:wr.cell? ⟨w.heap.size,0,none⟩=some (ag false):=ae.1.out.cell 0;have r1:wr.cell? ⟨w.heap.size,1,none⟩=some (.string (bs [])):=ae.1.out.cell 1;have r2:wr.cell? ⟨w.heap.size,2,none⟩=some (af 0):=ae.1.out.cell 2;go_wp2;exact bodyPost_ret (v:=bT (kX xs)) (by simp[results,Tryz.results55,go_sem,r0,r1,r2,ai]) rfl ⟨rfl,cK⟩
def amG (xs:List Raw)(B:Nat)(S:Dyadic)(hS:kX xs=S)(a:Option Addr)(cap:Nat)(w:World)(hl:∀x∈xs,Fit B x)(hB:B*xs.length+1<=268435456)(hx:xs.length<=1048576)
 (ha:At w a (xs.flatMap aV)) (hT:aB w):
 Cv 55 #[.slice a xs.length cap] w (bT S):=by
 subst hS;refine amF xs a cap w (λx h=>(hl x h).1) (λk=>?_) hx ha hT;refine Sm.ok (B:=B*xs.length+1) (Sm.mono (anc (B:=B) _ (λx h=>(hl x (List.mem_of_mem_take h)).2)) ?_) hB;rw[List.length_take];have:B*min k xs.length<=B*xs.length:=Nat.mul_le_mul_left _ zo;omega
def yb (s:Bool)(l:List UInt8)(e:Int)(t:Bool)(m:List UInt8)(f:Int)(S:Dyadic)(B:Nat)(hS:dval (s,l,e)+dval (t,m,f)=S)(b cap:Nat)(ty:TypeId)(w:World)(hx:Fit B (s,l,e))(hy:Fit B (t,m,f))(hB:B+2<=268435456)
 (ha:ar w b ty [ag s,ah l,af e,ag t,ah m,af f]) (hT:aB w):
 Cv 85 #[.slice (some ⟨b,0,none⟩) 2 cap] w (bT S):=
 amz [(s,l,e),(t,m,f)] B S (by rw[<-hS];simp only[lW];grind) _ cap w (by intro x h;simp at h;rcases h with rfl|rfl;exact hx;exact hy) hB zm (At.azW ha) hT
def Am (s:Bool)(l:List UInt8)(e:Int)(t:Bool)(m:List UInt8)(f:Int)(S:Dyadic)(B:Nat)(hS:dval (s,l,e) *dval (t,m,f)=S)(b cap:Nat)(ty:TypeId)(w:World)(hx:Fit B (s,l,e))(hy:Fit B (t,m,f))(hB:2*B+1<=268435456)
 (ha:ar w b ty [ag s,ah l,af e,ag t,ah m,af f]) (hT:aB w):
 Cv 55 #[.slice (some ⟨b,0,none⟩) 2 cap] w (bT S):=
 amG [(s,l,e),(t,m,f)] B S (by rw[<-hS];simp only[kX];grind) _ cap w (by intro x h;simp at h;rcases h with rfl|rfl;exact hx;exact hy) zi zm (At.azW ha) hT
def Ao (s:Bool)(l:List UInt8)(e:Int)(t:Bool)(m:List UInt8)(f:Int)(S:Dyadic)(B:Nat)(hS:dval (s,l,e)-dval (t,m,f)=S)(w:World)(hx:Fit B (s,l,e))(hy:Fit B (t,m,f))(hB:B+2<=268435456)(hT:aB w):
 Cv 56 #[.agg #[ag s,ah l,af e],.agg #[ag t,ah m,af f]] w (bT S):=by
 obtain⟨D,hD⟩:=au (-dval (t,m,f));have Hn:Hid (Fit B (dx D)):=by rw[<-hD];exact(hy.2.neg).fit zo
 have HS:Hid (dval (s,l,e)+dval (dx D)=S):=by show _+dval (canon D)=_;rw[bu,<-hD,<-hS];grind
 obtain⟨Hyo,HD,rp,kR⟩:=cG hy.1 hD hx hy;clear hD hx hy hS;go_enter Tryz.func56,Tryz.ntmps56;have Hb:=hbz w;go_wp2_with fail;refine yZ w (Hb.an trivial) 45 [ag s,ah l,af e] 45 [ag t,ah m,af f] 45 [ag false,.string (bs []),af 0] λW aG ae ai=>?_;refine cQ 5 ae (cJ 6 0xa0806040301) ?_;refine bo ?_;refine bP ae (Li t m f D HD.out _ Hyo.out (qU (hT.below ae.2.2.2.1.out))) λw1 ae=>?_;refine nC 45 [ag s,ah l,af e,ag (az (dN D)),ah (nt (dN D).natAbs),af (dE D)] ae λW1 aG ae=>?_;refine bP ae (yb s l e (az (dN D)) (nt (dN D).natAbs) (dE D) S B HS.out w1.heap.size 2 45 _ rp.out Hn.out hB ae.1.out (qU (hT.below ae.2.2.2.2.1.out))) λw2 ae=>?_;have ai:=qC ae;refine qOp λK hK=>?_;go_simp;refine hK _ _ (λh=>absurd h zd) ?_
 refine cg (aN w2 (w.heap.size+1+1) 0 (bE S)) aR ?_;intro w3 hs0;have ae:=bC hs0 ae;simp only[bD,List.set]at ae;have ai:=qC ae;refine cP ae λai=>?_;have Hb:=ae.2.2.2.2.1;have r0:w3.cell? ⟨w.heap.size+1+1,0,none⟩=some (ag (az (dN S))):=ae.2.2.2.1.out.cell 0;have r1:w3.cell? ⟨w.heap.size+1+1,1,none⟩=some (ah (nt (dN S).natAbs)):=ae.2.2.2.1.out.cell 1;have r2:w3.cell? ⟨w.heap.size+1+1,2,none⟩=some (af (dE S)):=ae.2.2.2.1.out.cell 2;go_wp2;exact bodyPost_ret (v:=bT S) (by simp[results,Tryz.results56,go_sem,r0,r1,r2,ai]) rfl ⟨rfl,cK⟩
def QY (n k:Int):bg (Dyadic.ofIntWithPrec n k)=eF n:=by have h:=Vu (az n) (nt n.natAbs) (-k);rw[Aq,fu,Int.neg_neg]at h;exact h.symm
def Al (s:Bool)(l:List UInt8)(e:Int)(t:Bool)(m:List UInt8)(f:Int)(c:Int)(hc:bg (dval (s,l,e)-dval (t,m,f))=c)(w:World)(hx:Ok (s,l,e))(hy:Ok (t,m,f))(hT:aB w):
 Cv 184 #[.agg #[ag s,ah l,af e],.agg #[ag t,ah m,af f]] w (af c):=by
 obtain⟨g,X,Y,hg,hX,hY,eA,eB,lX,lY,hg1,hg2⟩:=aen hx hy _ _ rfl rfl;have Sy:eF (X-Y)=c:=by rw[<-hc,eA,eB,show ∀a b:Dyadic,a-b=a+ -b from λa b=>by grind,Ji,vv,QY];rfl
 obtain⟨u,hu⟩:=au (bg (dval (s,l,e)));obtain⟨v,hv⟩:=au (bg (dval (t,m,f)));have hu2:eF X=u:=by rw[<-hu,eA,QY]
 have hv2:eF Y=v:=by rw[<-hv,eB,QY]
 have ru: -1<=u/\u<=1:=by rw[<-hu2];unfold eF;split<;>(try split)<;>omega
 have rv: -1<=v/\v<=1:=by rw[<-hv2];unfold eF;split<;>(try split)<;>omega
 have xK:Hid (∀W,aB W->Cv 166 #[.agg #[ag s,ah l,af e],.agg #[ag t,ah m,af f]] W (.agg #[af g,ag (az X),ah (nt X.natAbs),ag (az Y),ah (nt Y.natAbs)])):=λW hW=>
  ad5 s l e t m f _ _ rfl rfl g X Y hg hX hY W hx hy hW
 have Hcm:Hid (∀W,Cv 239 #[cS X,cS Y] W (af c)):=λW=>by
  have:=awi (az X) (nt X.natAbs) (az Y) (nt Y.natAbs) W zo zo (by rw[fu,fu,Int.sub_eq_add_neg];exact Nat.le_trans (YH X (-Y) 17179869183 lX (by rw[Int.natAbs_neg];exact lY)) zd)
  rw[fu,fu,Sy]at this;exact this
 have hcl:¬u=v->max (-1) (min 1 (u-v))=c:=by intro hne;rw[<-Sy];rw[<-hu2,<-hv2]at hne⊢;unfold eF at*;split<;>split<;>(try split)<;>(try split)<;>(try split)<;>omega
 have hwr:IntKind.i64.wrap (u-v)=u-v:=by rw[IntKind.wrap_i64];omega
 obtain⟨Hu,Hv,rp,kR⟩:=cG hu hv hx hy;clear hu hv hu2 hv2 hx hy Sy hc eA eB hX hY hg;go_enter Tryz.func184,Tryz.ntmps184;have Hb:=hbz w;go_wp2_with fail;refine gP w (Hb.an trivial) 45 [ag s,ah l,af e] 45 [ag t,ah m,af f] λW aG ae ai=>?_;refine cQ 999 ae (cJ 6 0xb0906020501) ?_;refine bo ?_;refine bP ae (nV s l e u Hu.out _ rp.out) λw1 ae=>?_;refine bP ae (nV t m f v Hv.out _ kR.out) λw2 ae=>?_;refine bo ?_;refine cP ae λai=>?_;by_cases wV:u=v
 . subst wV;clear hcl;go_wp2_with fail;have HT:=aj (hT.below ae.2.2.1.out);go_wp2_with fail;refine aK ae (xK.out _ HT.out) λw3 ae ai=>?_;have aG:=qL ae;go_wp2_with fail;refine cF w3 ae 187 [af g,ag (az X),ah (nt X.natAbs),ag (az Y),ah (nt Y.natAbs)] λW4 aG ae ai=>?_;go_wp2_with fail;refine aK ae (Hcm.out _) λw5 ae ai=>?_;go_wp2;go_ret;exact⟨rfl,ae.2.2.2.1.out⟩
 . have hcl:=hcl wV;have ayK:(u !=v)=true:=by simp[wV]
   go_wp2;go_ret;exact⟨rfl,ae.2.2.1.out⟩
def amx (s:Bool)(l:List UInt8)(e:Int)(D:Dyadic)(hD:(if bg (dval (s,l,e))<0 then-dval (s,l,e)else dval (s,l,e))=D)(w:World)(hx:Ok (s,l,e))(hT:aB w):
 Cv 123 #[.agg #[ag s,ah l,af e]] w (bT D):=by
 obtain⟨u,hu⟩:=au (bg (dval (s,l,e)));have rp:=aj hx;clear hx;have Hu:=aj hu;rw[hu]at hD;clear hu;by_cases h:u<0
 . rw[if_pos h]at hD;have HD:=aj hD;clear hD;go_enter Tryz.func123,Tryz.ntmps123;have Hb:=hbz w;go_wp2_with fail;refine gP w (Hb.an trivial) 45 [ag s,ah l,af e] 45 [ag false,.string (bs []),af 0] λW aG ae ai=>?_;go_wp2_with fail;refine aK ae (nV s l e u Hu.out _ rp.out) λw1 ae ai=>?_;have HT:=aj (hT.below ae.2.2.1.out);go_wp2_with fail;refine aK ae (Li s l e D HD.out _ rp.out HT.out) λw2 ae ai=>?_;have Hb:=ae.2.2.1;have r0:w2.cell? ⟨w.heap.size+1,0,none⟩=some (ag false):=ae.2.1.out.cell 0;have r1:w2.cell? ⟨w.heap.size+1,1,none⟩=some (.string (bs [])):=ae.2.1.out.cell 1;have r2:w2.cell? ⟨w.heap.size+1,2,none⟩=some (af 0):=ae.2.1.out.cell 2;go_wp2;exact bodyPost_ret (v:=bT D) (by simp[results,Tryz.results123,go_sem,r0,r1,r2,ai]) rfl ⟨rfl,cK⟩
 . rw[if_neg h]at hD;have HD:=aj hD;clear hD;have h2:0<=u:=by omega
   go_enter Tryz.func123,Tryz.ntmps123;have Hb:=hbz w;go_wp2_with fail;refine gP w (Hb.an trivial) 45 [ag s,ah l,af e] 45 [ag false,.string (bs []),af 0] λW aG ae ai=>?_;go_wp2_with fail;refine aK ae (nV s l e u Hu.out _ rp.out) λw1 ae ai=>?_;have HT:=aj (hT.below ae.2.2.1.out);go_wp2_with fail;refine aK ae (rE s l e D HD.out _ rp.out HT.out) λw2 ae ai=>?_;have Hb:=ae.2.2.1;have r0:w2.cell? ⟨w.heap.size+1,0,none⟩=some (ag false):=ae.2.1.out.cell 0;have r1:w2.cell? ⟨w.heap.size+1,1,none⟩=some (.string (bs [])):=ae.2.1.out.cell 1;have r2:w2.cell? ⟨w.heap.size+1,2,none⟩=some (af 0):=ae.2.1.out.cell 2;go_wp2;exact bodyPost_ret (v:=bT D) (by simp[results,Tryz.results123,go_sem,r0,r1,r2,ai]) rfl ⟨rfl,cK⟩
end Go.Proofs.YtpfgffadgkkedaaGreatDoor
namespace Go.Proofs.YtpfgffadgkkedaaGreatDoor
def UJ (n k:Int):Dyadic.ofIntWithPrec n k<0↔n<0:=by
 rw[<-Dyadic.toRat_lt_toRat_iff,Dyadic.toRat_ofIntWithPrec_eq_mul_two_pow,Dyadic.toRat_zero];have h2:(0:Rat)<2^(-k):=Rat.zpow_pos zd;constructor
 . intro h;by_cases h3:n<0
   . exact h3
   . exfalso
     have h4:(0:Rat)<=(n:Rat):=by exact_mod_cast Int.not_lt.1 h3
     have h5:=Rat.mul_nonneg h4 (Rat.le_of_lt h2);grind
 . intro h;have h4:(n:Rat)<0:=by exact_mod_cast h
   have:=Rat.mul_lt_mul_of_pos_right h4 h2;grind
def pQ (X:Dyadic):bg X<0↔X<0:=by
 conv=>rhs;rw[vw X]
 rw[UJ];unfold bg eF;split
 . rename_i h;simp[h]
 . rename_i h
   split<;>simp<;>omega
def QX (X:Dyadic):bg X=0↔X=0:=by
 constructor
 . intro h;have h1:dN X=0:=by
    unfold bg eF at h;by_cases h1:dN X<0
    . rw[if_pos h1]at h;cases h
    . rw[if_neg h1]at h;by_cases h2:dN X=0
      . exact h2
      . rw[if_neg h2]at h;cases h
   have h2:=vw X;rw[h1,xq]at h2;exact h2
 . rintro rfl;rfl
def lD (X:Dyadic):Dyadic:=Dyadic.ofIntWithPrec (bg X) 0
def Nr (X:Dyadic):lD X=if X<0 then-1 else if X=0 then 0 else 1:=by
 unfold lD;have h1:=pQ X;have h2:=QX X;have h3:bg X= -1\/bg X=0\/bg X=1:=by
  unfold bg eF;split
  . exact .inl rfl
  . split
    . exact .inr (.inl rfl)
    . exact .inr (.inr rfl)
 rcases h3 with h|h|h
 . rw[if_pos (h1.1 zo),h];rfl
 . rw[if_neg (λh4=>by have:=h1.2 h4;omega),if_pos (h2.1 h),h];rfl
 . rw[if_neg (λh4=>by have:=h1.2 h4;omega),if_neg (λh4=>by have:=h2.2 h4;omega),h];rfl
def fK (n:Nat)(p:Nat->Nat->Dyadic)(x:Nat->Dyadic)(k:Nat):Dyadic:=lD (bL n p) *bL n (bK p k x)
def fU (n:Nat)(p:Nat->Nat->Dyadic)(x:Nat->Dyadic):Prop:=∀k,k<=n->¬fK n p x k<0
def apg (n:Nat)(hn:1<=n)(aS:n<=4)(p:Nat->Nat->Dyadic)(h:Dyadic)(hh:h+h=1)(i j:Nat)(hij:i≠j)(hi:i<=n)(hj:j<=n)(x:Nat->Dyadic)(k:Nat)(hk:k<=n):
 bL n (bK (bK p j λb=>(p i b+p j b) *h) k x)=if k=j then bL n (bK p j x)else if k=i then(bL n (bK p i x)-bL n (bK p j x)) *h else bL n (bK p k x) *h:=by
 by_cases hkj:k=j
 . subst hkj;rw[if_pos rfl,av3]
 . rw[if_neg hkj,Jz _ j k _ _ (λe=>hkj e.symm)];by_cases uX:k=i
   . subst uX;rw[if_pos rfl,Lv n hn aS _ h hh j hj (p k) (p j)];rw[ZT n hn aS p k j hij hk hj x (p k),zw,Jz p k j x (p j) hij,zw];grind
   . rw[if_neg uX,Lv n hn aS _ h hh j hj (p i) (p j)];have e1:bL n (bK (bK p k x) j (p i))=0:=by have:=Gc n hn aS (bK p k x) i j hij hi hj;rwa [av2 p k i x (λe=>uX e.symm)]at this
     rw[e1,Jz p k j x (p j) hkj,zw];grind
def auT (X h:Dyadic)(hh:h+h=1):lD (X*h)=lD X:=by
 have e:X*h+X*h=X:=by grind
 rw[Nr,Nr];have h1:X*h<0↔X<0:=by grind
 have h2:X*h=0↔X=0:=by grind
 simp only[h1,h2]
def adU (n:Nat)(hn:1<=n)(aS:n<=4)(p:Nat->Nat->Dyadic)(h:Dyadic)(hh:h+h=1)(i j:Nat)(hij:i≠j)(hi:i<=n)(hj:j<=n)(x:Nat->Dyadic):
 fU n (bK p j λb=>(p i b+p j b) *h) x↔(∀k,k<=n->k≠i->¬fK n p x k<0)/\¬fK n p x i-fK n p x j<0:=by
 have hd:bL n (bK p j λb=>(p i b+p j b) *h)=bL n p*h:=by rw[Lv n hn aS p h hh j hj (p i) (p j),zw,Gc n hn aS p i j hij hi hj];grind
 have hw:∀k,k<=n->fK n (bK p j λb=>(p i b+p j b) *h) x k=if k=j then fK n p x j else if k=i then(fK n p x i-fK n p x j) *h else fK n p x k*h:=by
  intro k hk;unfold fK;rw[hd,auT _ _ hh,apg n hn aS p h hh i j hij hi hj x k hk];split
  . rfl
  . split
    . grind
    . grind
 have hp:∀y:Dyadic,y*h<0↔y<0:=by
  intro y;have e:y*h+y*h=y:=by grind
  grind
 unfold fU;constructor
 . intro h1;refine⟨λk hk uX=>?_,?_⟩
   . have:=h1 k hk;rw[hw k hk]at this;by_cases e:k=j
     . subst e;rwa [if_pos rfl]at this
     . rw[if_neg e,if_neg uX,hp]at this;exact this
   . have:=h1 i hi;rw[hw i hi,if_neg hij,if_pos rfl,hp]at this;exact this
 . rintro⟨h1,h2⟩ k hk;rw[hw k hk];by_cases e:k=j
   . rw[if_pos e];exact h1 j hj (λe=>hij e.symm)
   . rw[if_neg e];by_cases e2:k=i
     . rw[if_pos e2,hp];exact h2
     . rw[if_neg e2,hp];exact h1 k hk e2
def aqC (n:Nat)(hn:1<=n)(aS:n<=4)(p:Nat->Nat->Dyadic)(h:Dyadic)(hh:h+h=1)(i j:Nat)(hij:i≠j)(hi:i<=n)(hj:j<=n)(x:Nat->Dyadic):
 fU n p x↔fU n (yR p h i j j) x\/fU n (yR p h i j i) x:=by
 have e2:yR p h i j i=bK p i λb=>(p j b+p i b) *h:=by rw[Uq];congr 1;funext b;grind
 rw[Uq,e2,adU n hn aS p h hh i j hij hi hj x,adU n hn aS p h hh j i (λe=>hij e.symm) hj hi x];constructor
 . intro h1;by_cases h2:fK n p x i-fK n p x j<0
   . right;exact⟨λk hk _=>h1 k hk,by grind⟩
   . left;exact⟨λk hk _=>h1 k hk,h2⟩
 . rintro(⟨h1,h2⟩ |⟨h1,h2⟩) k hk
   . by_cases e:k=i
     . have:=h1 j hj (λe=>hij e.symm);subst e;grind
     . exact h1 k hk e
   . by_cases e:k=j
     . have:=h1 i hi hij;subst e;grind
     . exact h1 k hk e
def mE (e:Nat->Nat->Dyadic)(r c:Nat):Nat->Nat->Dyadic:=λa b=>e (if a<r then a else a+1) (if b<c then b else b+1)
def Eb (n:Nat)(e:Nat->Nat->Dyadic)(y:Nat->Dyadic)(i:Nat):Nat->Dyadic
 |0=>0
 |k+1=>Eb n e y i k+y k* (if(k+i)%2=1 then-dJ (n-1) (mE e i k)else dJ (n-1) (mE e i k))
def aqX (n:Nat)(hn:1<=n)(aS:n<=4)(e:Nat->Nat->Dyadic)(y:Nat->Dyadic)(i:Nat)(hi:i<n):Eb n e y i n=dJ n λa b=>if a=i then y b else e a b:=by
 have hc:(n=1/\i=0)\/(n=2/\i=0)\/(n=2/\i=1)\/(n=3/\i=0)\/(n=3/\i=1)\/(n=3/\i=2)\/(n=4/\i=0)\/(n=4/\i=1)\/(n=4/\i=2)\/(n=4/\i=3):=by omega
 rcases hc with⟨rfl,rfl⟩ |⟨rfl,rfl⟩ |⟨rfl,rfl⟩ |⟨rfl,rfl⟩ |⟨rfl,rfl⟩ |⟨rfl,rfl⟩ |⟨rfl,rfl⟩ |⟨rfl,rfl⟩ |⟨rfl,rfl⟩ |⟨rfl,rfl⟩<;>(simp[Eb,dJ,mE];try grind)
def anr (n:Nat)(p:Nat->Nat->Dyadic)(x:Nat->Dyadic)(i:Nat):bL n (bK p (i+1) x)=dJ n λa b=>if a=i then x b-p 0 b else p (a+1) b-p 0 b:=by
 unfold bL bK;congr 1;funext a b
 by_cases h:a=i
 . rw[if_pos h,if_pos zo,if_neg zo]
 . rw[if_neg h,if_neg zo,if_neg zo]
def dF (f:Nat->Dyadic):Nat->Dyadic
 |0=>0
 |k+1=>dF f k+f k
def awK (n:Nat)(hn:1<=n)(aS:n<=4)(p:Nat->Nat->Dyadic)(x:Nat->Dyadic):bL n (bK p 0 x)=bL n p-dF (λi=>bL n (bK p (i+1) x)) n:=by
 have hc:n=1\/n=2\/n=3\/n=4:=by omega
 rcases hc with rfl|rfl|rfl|rfl<;>(simp[dF,bL,dJ,bK];grind)
end Go.Proofs.YtpfgffadgkkedaaGreatDoor
namespace Go.Proofs.YtpfgffadgkkedaaGreatDoor
open Go.RowKit
attribute [local go_sem ↓] Go.wp_at_zero Go.wp_at_succ
def df (l:List UInt8)(v:Int):Bool:=(l.all λc=>decide (c.toNat<=127))&&decide ((l.length:Int)=v)
def Ee (l:List UInt8)(v:Int)(w:World)(hl:l.length<=9223372036854775807):
 Cv 154 #[ah l,af v] w (ag (df l v)):=by
 obtain⟨n,hn⟩:=au l.length;have hsz:(bs l).size=n:=by rw[mR,hn]
 obtain⟨M,hM⟩:=au (df l v);rw[hM];obtain⟨HM,Hn⟩:=aH hM hn;rw[hn]at hl;clear hM hn;go_enter Tryz.func154,Tryz.ntmps154;have Hb:=hbz w;go_wp2_with fail;go_loopw[8] (λx wr=>∃k:Nat,k<=n/\x=af (k:Int)/\((l.take k).all λc=>decide (c.toNat<=127))=true/\Bw w wr) (λx _=>n-(intOf x).toNat);case atStart=>exact⟨0,Nat.zero_le _,rfl,rfl,Hb.out⟩
 case round=>
  clear Hb;obtain⟨k,hk,rfl,hall,pb⟩:=hrel;obtain⟨fP,Hb⟩:=aH hall pb;clear hall pb;by_cases hlt:k<n
  . have hk2:k<l.length:=by rw[Hn.out];exact hlt
    have ix:=vk l (k:Int) k hk2 rfl;obtain⟨c,hc⟩:∃c:Nat,(l[k]).toNat=c:=⟨_,rfl⟩;rw[hc]at ix;by_cases h1:127<c
    . have h2:(127:Int)<(c:Int):=by omega
      have uY:M=false:=by
       rw[<-HM.out];unfold df;have:(l.all λc=>decide (c.toNat<=127))=false:=by rw[List.all_eq_false];exact⟨l[k],List.getElem_mem hk2,by simp;omega⟩
       rw[this];rfl
      subst uY;go_wp2;exact bodyPost_ret (v:=ag false) (by simp[results,Tryz.results154,go_sem]) rfl ⟨rfl,cK⟩
    . have h2:¬(127:Int)<(c:Int):=by omega
      have bN:Hid (((l.take (k+1)).all λc=>decide (c.toNat<=127))=true):=by
       show _=_
       rw[List.take_succ_eq_append_getElem hk2,List.all_append,fP.out];simp;omega
      clear hc;go_wp2;go_roundw;case rel=>exact⟨k+1,by omega,by go_num,bN.out,Hb.out⟩
      case measure=>exact bi
  . obtain rfl:k=n:=by omega
    have hme:M=decide ((k:Int)=v):=by rw[<-HM.out];have h:=fP.out;rw[List.take_of_length_le (by rw[Hn.out];exact Nat.le_refl _)]at h;unfold df;rw[h,Hn.out,Bool.true_and]
    have Pg:=aj hme;clear hme;go_wp2;refine bodyPost_ret (results_tmp rfl _ _ _) rfl ⟨?_,Hb.out⟩;rw[Pg.out];by_cases h:(k:Int)=v<;>simp[h]
def LD (v:Int)(w:World):
 Cv 153 #[af v] w (ag (decide (0<=v/\v<=12))):=by
 have Hb:=hbz w;go_enter Tryz.func153,Tryz.ntmps153;by_cases h1:0<=v
 . by_cases h2:v<=12
   . go_wp2;refine bodyPost_ret (results_tmp rfl _ _ _) rfl ⟨?_,Hb.out⟩;simp[h2];omega
   . go_wp2;refine bodyPost_ret (results_tmp rfl _ _ _) rfl ⟨?_,Hb.out⟩;simp[h2]
 . go_wp2;refine bodyPost_ret (results_tmp rfl _ _ _) rfl ⟨?_,Hb.out⟩;simp;omega
end Go.Proofs.YtpfgffadgkkedaaGreatDoor
namespace Go.Proofs.YtpfgffadgkkedaaGreatDoor
open Go.RowKit
def aso (l m:List UInt8)(w:World)(hl:l.length<=68719476736)(hm:m.length<=68719476736)(hlt:nv l<nv m):
 Cv 280 #[ah l,ah m] w (.tuple #[.string (bs []),ah (nt (nv l)),ag true]):=by
 have h1:=λW=>ny l W zo;have h2:=λW=>ny m W zo;have Ih:=MW (show 0<nv m by omega);have Mv:=ji (KL l);have Mw:=ji (KL m);have ki:=eU (nv l);have wD:=eU (nv m);obtain⟨X,hX⟩:=au (nv l);obtain⟨Y,hY⟩:=au (nv m);rw[hX]at h1 hlt Mv ki⊢;rw[hY]at h2 hlt Mw wD Ih;obtain⟨lx,AW⟩:=au (ln X);obtain⟨ly,AX⟩:=au (ln Y);obtain⟨cx,lh⟩:=au ((l.length+7)/8);obtain⟨cy,yu⟩:=au ((m.length+7)/8);rw[AW]at h1 Mv ki;rw[AX]at h2 Mw wD Ih;rw[lh]at h1 Mv;rw[yu]at h2 Mw;have apv:cx<=8589934593:=by omega
 have Mg:cy<=8589934593:=by omega
 have mW:di X Y= -1:=by unfold di;rw[if_pos hlt]
 obtain⟨H1,H2,ut,Oe⟩:=cG h1 h2 ki wD;clear h1 h2 ki wD hX hY AW AX lh yu hlt;have apU:((ly:Int)==0)=false:=by simp;omega
 go_enter Tryz.func280,Tryz.ntmps280;go_wp2_with fail;refine(H1.out w).mono ?_;rintro e w1 ⟨rfl,bQ,hb1,fN⟩;obtain⟨eG,bI⟩:=aH bQ hb1;clear bQ hb1;go_wp2_with fail;refine(H2.out w1).mono ?_;rintro e w2 ⟨rfl,eP,hb2,Dy⟩;obtain⟨fA,bW⟩:=aH eP (aF bI.out hb2);replace eG:=aj (eG.out.below hb2);clear eP hb2;go_wp2_with fail;refine(Br w.heap.size 0 lx cx X w1.heap.size 0 ly cy Y w2 zo fN (eG.out.lim _ fN) ut.out zo Dy (fA.out.lim _ Dy) Oe.out).mono ?_;rintro e w3 ⟨rfl,hb3⟩;replace eG:=aj (eG.out.below hb3);have dW:=aj (aF bW.out hb3);clear hb3;rw[mW];go_wp2_with fail;refine(zq w.heap.size 0 lx cx X w3 zo fN (eG.out.lim _ fN) ut.out).mono ?_;rintro e w4 ⟨rfl,hb4⟩;have qW:=aj (aF dW.out hb4);clear hb4;go_wp2;refine bodyPost_ret (v:=.tuple #[.string (bs []),ah (nt X),ag true]) (by simp[results,Tryz.results280,go_sem];rfl) rfl ⟨rfl,qW.out⟩
def asm (l m:List UInt8)(w:World)(hl:l.length<=68719476736)(hm:m.length<=68719476736)(hm0:0<nv m):
 Cv 280 #[ah l,ah m] w (.tuple #[ah (nt (nv l/nv m)),ah (nt (nv l%nv m)),ag true]):=by
 rcases Nat.lt_or_ge (nv l) (nv m)with h|h
 . have:=aso l m w hl hm h;rw[Nat.div_eq_of_lt h,Nat.mod_eq_of_lt h,BJ];exact this
 . exact asn l m w hl hm hm0 h
def anz (s t:Bool)(l m:List UInt8)(hm:0<nv m)(hd:nv l%nv m=0):iv s l/iv t m=if s=t then iv false (nt (nv l/nv m))else-iv false (nt (nv l/nv m)):=by
 obtain⟨q,hq⟩:=Nat.dvd_of_mod_eq_zero hd;have e:nv l/nv m=q:=by rw[hq];exact Nat.mul_div_cancel_left _ hm
 have ol:(nv m:Int)≠0:=by omega
 rw[e,rN];unfold iv;rw[hq];simp only[Bool.false_eq_true,if_false,Int.natCast_mul];cases s<;>cases t<;>simp only[Bool.false_eq_true,if_false,if_true,reduceCtorEq]
 . exact Int.mul_ediv_cancel_left _ ol
 . rw[Int.ediv_neg,Int.mul_ediv_cancel_left _ ol]
 . rw[Int.neg_ediv_of_dvd ⟨_,rfl⟩,Int.mul_ediv_cancel_left _ ol]
 . rw[Int.ediv_neg,Int.neg_ediv_of_dvd ⟨_,rfl⟩,Int.mul_ediv_cancel_left _ ol,Int.neg_neg]
def awk (s t:Bool)(l m:List UInt8)(w:World)(hl:l.length<=34359738368)(hm:m.length<=34359738368)(hm0:0<nv m)(hd:nv l%nv m=0):
 Cl 250 #[.agg #[ag s,ah l],.agg #[ag t,ah m]] w λe w'=>∃r,e=.returned (.tuple #[cS (iv s l/iv t m),r,ag true])/\Bw w w':=by
 have h1:=λW=>asm l m W zo zo hm0;have hq:=anz s t l m hm0 hd;have hlen:(nt (nv l/nv m)).length<=34359738368:=by obtain⟨B,hB⟩:=au (34359738368);rw[hB]at hl⊢;exact kC (Nat.lt_of_le_of_lt (Nat.div_le_self _ _) (Nat.lt_of_lt_of_le (ia l) (Nat.pow_le_pow_right zd hl)))
 rw[hd,BJ]at h1;obtain⟨Q,hQ⟩:=au (nt (nv l/nv m));rw[hQ]at h1 hq hlen;obtain⟨N,hN⟩:=au (iv s l/iv t m);rw[hN]at hq⊢;obtain⟨H1,HQ⟩:=aH h1 hq;have hem:(bs []).toList.isEmpty=true:=by rw[wj];rfl
 clear h1 hq hQ hN hd hm0;cases s with
 | false=>
   cases t with
   | false=>
     have hN:=HQ.out;rw[if_pos rfl]at hN;have HN:=aj hN;clear hN;obtain⟨W,cd,ae,ai⟩:=Jp w 43 [ag false,ah l] 43 [ag false,ah m] 43 [ag false,.string ⟨#[]⟩] 43 [ag false,.string ⟨#[]⟩];go_enter Tryz.func250,Tryz.ntmps250;go_wp2_with fail;refine aK ae (H1.out _) λw1 ae ai=>?_;go_wp2_with fail;first|refine eN (λil=>∃eI,aN w1 (w.heap.size+1+1) 0 [ag false,ah Q] eI/\aN eI (w.heap.size+1+1+1) 0 [ag false,.string (bs [])] il) ⟨_,aR,aR⟩ ?_|refine eJ (λil=>∃eI,aN w1 (w.heap.size+1+1) 0 [ag false,ah Q] eI/\aN eI (w.heap.size+1+1+1) 0 [ag false,.string (bs [])] il) ⟨_,aR,aR⟩ ?_
     rintro w2 ⟨_,hs0,hs1⟩;have ae:=bC hs1 (bC hs0 ae);simp only[bD,List.set]at ae;have ai:=qC ae;have hF:=λW=>BW false Q W (Nat.le_trans hlen zd);rw[<-HN.out]at hF;have HF:=aj hF;clear hF;obtain⟨Hb,Ha,Hc,Hq,Hr,_⟩:=ae;obtain⟨a0,a1⟩:=Ha.out.c2;obtain⟨c0,c1⟩:=Hc.out.c2;obtain⟨q0,jv,q1,kd⟩:=Hq.out.g2;obtain⟨r0,aZ,r1,bf⟩:=Hr.out.g2;refine fx (λw'=>aJ w' (w.heap.size+1+1+1) 0 (ag false)/\aJ w' (w.heap.size+1+1+1) 1 (.string (bs []))) (λi=>Nat.blt i 4) [(2,true),(0,false),(1,false),(3,false),(4,false),(5,false)] zk zk rfl zk zc ⟨r0,r1⟩ ?_;refine pT rfl rfl ?_ (by intro w' ⟨q0,q1⟩;go_simp;try with_reducible rfl)
     refine aO rfl rfl (λK hK=>?_);go_simp;refine hK _ _ (λ_=>⟨r0,r1⟩) ?_
     refine aO rfl rfl (λK hK=>?_);go_simp;with_reducible refine(HF.out _).mono ?_
     rintro e w5 ⟨rfl,hq⟩;have ak:Bw w2 w5:=by first|exact hq|exact cM hq
     obtain⟨Ha,a0,a1⟩:=fI Ha ak;obtain⟨Hc,c0,c1⟩:=fI Hc ak;obtain⟨Hq,q0,jv,q1,kd⟩:=dS Hq ak;obtain⟨Hr,r0,aZ,r1,bf⟩:=dS Hr ak;replace Hb:=bj Hb ak;refine hK _ _ (λ_=>⟨r0,r1⟩) ?_
     refine aO rfl rfl (λK hK=>?_);go_simp;refine hK _ _ (λ_=>⟨(aC zf (aC zf r0)),(aC zf (aC zf r1))⟩) ?_
     refine cg (aN w5 (w.heap.size+1+1) 0 [ag (az N),ah (nt N.natAbs)]) aR ?_;intro w6 hs;replace Ha:=kS Ha hs zo;replace Hc:=kS Hc hs zo;replace Hq:=rO Hq hs;replace Hr:=kS Hr hs zo;obtain⟨a0,a1⟩:=Ha.out.c2;obtain⟨c0,c1⟩:=Hc.out.c2;obtain⟨q0,jv,q1,kd⟩:=Hq.out.g2;obtain⟨r0,aZ,r1,bf⟩:=Hr.out.g2;replace Hb:=bS Hb hs ZS;clear hs;refine aO rfl rfl (λK hK=>?_);go_simp;refine hK _ _ (λh=>absurd h zd) ?_
     refine cg (aN w6 (w.heap.size+1+1+1) 0 [ag false,.string (bs [])]) aR ?_;intro w7 hs;replace Ha:=kS Ha hs zo;replace Hc:=kS Hc hs zo;replace Hq:=kS Hq hs zo;replace Hr:=rO Hr hs;obtain⟨a0,a1⟩:=Ha.out.c2;obtain⟨c0,c1⟩:=Hc.out.c2;obtain⟨q0,jv,q1,kd⟩:=Hq.out.g2;obtain⟨r0,aZ,r1,bf⟩:=Hr.out.g2;replace Hb:=bS Hb hs ZS;clear hs;refine aO rfl rfl (λK hK=>?_);go_simp;refine hK _ _ (λh=>absurd h zd) ?_
     simp only[bH];go_wp2;refine bodyPost_ret (v:=.tuple #[cS N,.agg #[ag false,.string (bs [])],ag true]) (by simp[results,Tryz.results250,go_sem,q0,q1,r0,r1]) rfl ⟨_,rfl,Hb.out⟩
   | true=>
     have hN:=HQ.out;rw[if_neg zd]at hN;have HN:=aj hN;clear hN;obtain⟨W,cd,ae,ai⟩:=Jp w 43 [ag false,ah l] 43 [ag true,ah m] 43 [ag false,.string ⟨#[]⟩] 43 [ag false,.string ⟨#[]⟩];go_enter Tryz.func250,Tryz.ntmps250;go_wp2_with fail;refine aK ae (H1.out _) λw1 ae ai=>?_;go_wp2_with fail;first|refine eN (λil=>∃eI,aN w1 (w.heap.size+1+1) 0 [ag false,ah Q] eI/\aN eI (w.heap.size+1+1+1) 0 [ag false,.string (bs [])] il) ⟨_,aR,aR⟩ ?_|refine eJ (λil=>∃eI,aN w1 (w.heap.size+1+1) 0 [ag false,ah Q] eI/\aN eI (w.heap.size+1+1+1) 0 [ag false,.string (bs [])] il) ⟨_,aR,aR⟩ ?_
     rintro w2 ⟨_,hs0,hs1⟩;have ae:=bC hs1 (bC hs0 ae);simp only[bD,List.set]at ae;have ai:=qC ae;have hG:=λW=>NI false Q N HN.out.symm W (Nat.le_trans hlen zd);have hF:=λW=>BW (az N) (nt N.natAbs) W (by rw[HN.out];exact Nat.le_trans (Je false Q 34359738368 hlen) zd);have e:iv (az N) (nt N.natAbs)=N:=fu N;rw[e]at hF;obtain⟨HG,HF⟩:=aH hG hF;clear hG hF e;go_wp2_with fail;refine aK ae (HG.out _) λw3 ae ai=>?_;go_wp2_with fail;first|refine eN (aN w3 (w.heap.size+1+1) 0 [ag (az N),ah (nt N.natAbs)]) aR ?_|refine eJ (aN w3 (w.heap.size+1+1) 0 [ag (az N),ah (nt N.natAbs)]) aR ?_
     intro w4 hs0;have ae:=bC hs0 ae;simp only[bD,List.set]at ae;have ai:=qC ae;obtain⟨Hb,Ha,Hc,Hq,Hr,_⟩:=ae;obtain⟨a0,a1⟩:=Ha.out.c2;obtain⟨c0,c1⟩:=Hc.out.c2;obtain⟨q0,jv,q1,kd⟩:=Hq.out.g2;obtain⟨r0,aZ,r1,bf⟩:=Hr.out.g2;refine fx (λw'=>aJ w' (w.heap.size+1+1+1) 0 (ag false)/\aJ w' (w.heap.size+1+1+1) 1 (.string (bs []))) (λi=>Nat.blt i 4) [(2,true),(0,false),(1,false),(3,false),(4,false),(5,false)] zk zk rfl zk zc ⟨r0,r1⟩ ?_;refine pT rfl rfl ?_ (by intro w' ⟨q0,q1⟩;go_simp;try with_reducible rfl)
     refine aO rfl rfl (λK hK=>?_);go_simp;refine hK _ _ (λ_=>⟨r0,r1⟩) ?_
     refine aO rfl rfl (λK hK=>?_);go_simp;with_reducible refine(HF.out _).mono ?_
     rintro e w5 ⟨rfl,hq⟩;have ak:Bw w4 w5:=by first|exact hq|exact cM hq
     obtain⟨Ha,a0,a1⟩:=fI Ha ak;obtain⟨Hc,c0,c1⟩:=fI Hc ak;obtain⟨Hq,q0,jv,q1,kd⟩:=dS Hq ak;obtain⟨Hr,r0,aZ,r1,bf⟩:=dS Hr ak;replace Hb:=bj Hb ak;refine hK _ _ (λ_=>⟨r0,r1⟩) ?_
     refine aO rfl rfl (λK hK=>?_);go_simp;refine hK _ _ (λ_=>⟨(aC zf (aC zf r0)),(aC zf (aC zf r1))⟩) ?_
     refine cg (aN w5 (w.heap.size+1+1) 0 [ag (az N),ah (nt N.natAbs)]) aR ?_;intro w6 hs;replace Ha:=kS Ha hs zo;replace Hc:=kS Hc hs zo;replace Hq:=rO Hq hs;replace Hr:=kS Hr hs zo;obtain⟨a0,a1⟩:=Ha.out.c2;obtain⟨c0,c1⟩:=Hc.out.c2;obtain⟨q0,jv,q1,kd⟩:=Hq.out.g2;obtain⟨r0,aZ,r1,bf⟩:=Hr.out.g2;replace Hb:=bS Hb hs ZS;clear hs;refine aO rfl rfl (λK hK=>?_);go_simp;refine hK _ _ (λh=>absurd h zd) ?_
     refine cg (aN w6 (w.heap.size+1+1+1) 0 [ag false,.string (bs [])]) aR ?_;intro w7 hs;replace Ha:=kS Ha hs zo;replace Hc:=kS Hc hs zo;replace Hq:=kS Hq hs zo;replace Hr:=rO Hr hs;obtain⟨a0,a1⟩:=Ha.out.c2;obtain⟨c0,c1⟩:=Hc.out.c2;obtain⟨q0,jv,q1,kd⟩:=Hq.out.g2;obtain⟨r0,aZ,r1,bf⟩:=Hr.out.g2;replace Hb:=bS Hb hs ZS;clear hs;refine aO rfl rfl (λK hK=>?_);go_simp;refine hK _ _ (λh=>absurd h zd) ?_
     simp only[bH];go_wp2;refine bodyPost_ret (v:=.tuple #[cS N,.agg #[ag false,.string (bs [])],ag true]) (by simp[results,Tryz.results250,go_sem,q0,q1,r0,r1]) rfl ⟨_,rfl,Hb.out⟩
 | true=>
   cases t with
   | false=>
     have hN:=HQ.out;rw[if_neg zd]at hN;have HN:=aj hN;clear hN;obtain⟨W,cd,ae,ai⟩:=Jp w 43 [ag true,ah l] 43 [ag false,ah m] 43 [ag false,.string ⟨#[]⟩] 43 [ag false,.string ⟨#[]⟩];go_enter Tryz.func250,Tryz.ntmps250;go_wp2_with fail;refine aK ae (H1.out _) λw1 ae ai=>?_;go_wp2_with fail;first|refine eN (λil=>∃eI,aN w1 (w.heap.size+1+1) 0 [ag false,ah Q] eI/\aN eI (w.heap.size+1+1+1) 0 [ag false,.string (bs [])] il) ⟨_,aR,aR⟩ ?_|refine eJ (λil=>∃eI,aN w1 (w.heap.size+1+1) 0 [ag false,ah Q] eI/\aN eI (w.heap.size+1+1+1) 0 [ag false,.string (bs [])] il) ⟨_,aR,aR⟩ ?_
     rintro w2 ⟨_,hs0,hs1⟩;have ae:=bC hs1 (bC hs0 ae);simp only[bD,List.set]at ae;have ai:=qC ae;have hG:=λW=>NI false Q N HN.out.symm W (Nat.le_trans hlen zd);have hF:=λW=>BW (az N) (nt N.natAbs) W (by rw[HN.out];exact Nat.le_trans (Je false Q 34359738368 hlen) zd);have e:iv (az N) (nt N.natAbs)=N:=fu N;rw[e]at hF;obtain⟨HG,HF⟩:=aH hG hF;clear hG hF e;go_wp2_with fail;refine aK ae (HG.out _) λw3 ae ai=>?_;go_wp2_with fail;first|refine eN (aN w3 (w.heap.size+1+1) 0 [ag (az N),ah (nt N.natAbs)]) aR ?_|refine eJ (aN w3 (w.heap.size+1+1) 0 [ag (az N),ah (nt N.natAbs)]) aR ?_
     intro w4 hs0;have ae:=bC hs0 ae;simp only[bD,List.set]at ae;have ai:=qC ae;obtain⟨Hb,Ha,Hc,Hq,Hr,_⟩:=ae;obtain⟨a0,a1⟩:=Ha.out.c2;obtain⟨c0,c1⟩:=Hc.out.c2;obtain⟨q0,jv,q1,kd⟩:=Hq.out.g2;obtain⟨r0,aZ,r1,bf⟩:=Hr.out.g2;refine fx (λw'=>aJ w' (w.heap.size+1+1+1) 0 (ag false)/\aJ w' (w.heap.size+1+1+1) 1 (.string (bs []))) (λi=>Nat.blt i 4) [(2,true),(0,false),(1,false),(3,false),(4,false),(5,false)] zk zk rfl zk zc ⟨r0,r1⟩ ?_;refine pT rfl rfl ?_ (by intro w' ⟨q0,q1⟩;go_simp;try with_reducible rfl)
     refine aO rfl rfl (λK hK=>?_);go_simp;refine hK _ _ (λ_=>⟨r0,r1⟩) ?_
     refine aO rfl rfl (λK hK=>?_);go_simp;with_reducible refine(HF.out _).mono ?_
     rintro e w5 ⟨rfl,hq⟩;have ak:Bw w4 w5:=by first|exact hq|exact cM hq
     obtain⟨Ha,a0,a1⟩:=fI Ha ak;obtain⟨Hc,c0,c1⟩:=fI Hc ak;obtain⟨Hq,q0,jv,q1,kd⟩:=dS Hq ak;obtain⟨Hr,r0,aZ,r1,bf⟩:=dS Hr ak;replace Hb:=bj Hb ak;refine hK _ _ (λ_=>⟨r0,r1⟩) ?_
     refine aO rfl rfl (λK hK=>?_);go_simp;refine hK _ _ (λ_=>⟨(aC zf (aC zf r0)),(aC zf (aC zf r1))⟩) ?_
     refine cg (aN w5 (w.heap.size+1+1) 0 [ag (az N),ah (nt N.natAbs)]) aR ?_;intro w6 hs;replace Ha:=kS Ha hs zo;replace Hc:=kS Hc hs zo;replace Hq:=rO Hq hs;replace Hr:=kS Hr hs zo;obtain⟨a0,a1⟩:=Ha.out.c2;obtain⟨c0,c1⟩:=Hc.out.c2;obtain⟨q0,jv,q1,kd⟩:=Hq.out.g2;obtain⟨r0,aZ,r1,bf⟩:=Hr.out.g2;replace Hb:=bS Hb hs ZS;clear hs;refine aO rfl rfl (λK hK=>?_);go_simp;refine hK _ _ (λh=>absurd h zd) ?_
     refine cg (aN w6 (w.heap.size+1+1+1) 0 [ag false,.string (bs [])]) aR ?_;intro w7 hs;replace Ha:=kS Ha hs zo;replace Hc:=kS Hc hs zo;replace Hq:=kS Hq hs zo;replace Hr:=rO Hr hs;obtain⟨a0,a1⟩:=Ha.out.c2;obtain⟨c0,c1⟩:=Hc.out.c2;obtain⟨q0,jv,q1,kd⟩:=Hq.out.g2;obtain⟨r0,aZ,r1,bf⟩:=Hr.out.g2;replace Hb:=bS Hb hs ZS;clear hs;refine aO rfl rfl (λK hK=>?_);go_simp;refine hK _ _ (λh=>absurd h zd) ?_
     simp only[bH];go_wp2;refine bodyPost_ret (v:=.tuple #[cS N,.agg #[ag false,.string (bs [])],ag true]) (by simp[results,Tryz.results250,go_sem,q0,q1,r0,r1]) rfl ⟨_,rfl,Hb.out⟩
   | true=>
     have hN:=HQ.out;rw[if_pos rfl]at hN;have HN:=aj hN;clear hN;obtain⟨W,cd,ae,ai⟩:=Jp w 43 [ag true,ah l] 43 [ag true,ah m] 43 [ag false,.string ⟨#[]⟩] 43 [ag false,.string ⟨#[]⟩];go_enter Tryz.func250,Tryz.ntmps250;go_wp2_with fail;refine aK ae (H1.out _) λw1 ae ai=>?_;go_wp2_with fail;first|refine eN (λil=>∃eI,aN w1 (w.heap.size+1+1) 0 [ag false,ah Q] eI/\aN eI (w.heap.size+1+1+1) 0 [ag false,.string (bs [])] il) ⟨_,aR,aR⟩ ?_|refine eJ (λil=>∃eI,aN w1 (w.heap.size+1+1) 0 [ag false,ah Q] eI/\aN eI (w.heap.size+1+1+1) 0 [ag false,.string (bs [])] il) ⟨_,aR,aR⟩ ?_
     rintro w2 ⟨_,hs0,hs1⟩;have ae:=bC hs1 (bC hs0 ae);simp only[bD,List.set]at ae;have ai:=qC ae;have hF:=λW=>BW false Q W (Nat.le_trans hlen zd);rw[<-HN.out]at hF;have HF:=aj hF;clear hF;obtain⟨Hb,Ha,Hc,Hq,Hr,_⟩:=ae;obtain⟨a0,a1⟩:=Ha.out.c2;obtain⟨c0,c1⟩:=Hc.out.c2;obtain⟨q0,jv,q1,kd⟩:=Hq.out.g2;obtain⟨r0,aZ,r1,bf⟩:=Hr.out.g2;refine fx (λw'=>aJ w' (w.heap.size+1+1+1) 0 (ag false)/\aJ w' (w.heap.size+1+1+1) 1 (.string (bs []))) (λi=>Nat.blt i 4) [(2,true),(0,false),(1,false),(3,false),(4,false),(5,false)] zk zk rfl zk zc ⟨r0,r1⟩ ?_;refine pT rfl rfl ?_ (by intro w' ⟨q0,q1⟩;go_simp;try with_reducible rfl)
     refine aO rfl rfl (λK hK=>?_);go_simp;refine hK _ _ (λ_=>⟨r0,r1⟩) ?_
     refine aO rfl rfl (λK hK=>?_);go_simp;with_reducible refine(HF.out _).mono ?_
     rintro e w5 ⟨rfl,hq⟩;have ak:Bw w2 w5:=by first|exact hq|exact cM hq
     obtain⟨Ha,a0,a1⟩:=fI Ha ak;obtain⟨Hc,c0,c1⟩:=fI Hc ak;obtain⟨Hq,q0,jv,q1,kd⟩:=dS Hq ak;obtain⟨Hr,r0,aZ,r1,bf⟩:=dS Hr ak;replace Hb:=bj Hb ak;refine hK _ _ (λ_=>⟨r0,r1⟩) ?_
     refine aO rfl rfl (λK hK=>?_);go_simp;refine hK _ _ (λ_=>⟨(aC zf (aC zf r0)),(aC zf (aC zf r1))⟩) ?_
     refine cg (aN w5 (w.heap.size+1+1) 0 [ag (az N),ah (nt N.natAbs)]) aR ?_;intro w6 hs;replace Ha:=kS Ha hs zo;replace Hc:=kS Hc hs zo;replace Hq:=rO Hq hs;replace Hr:=kS Hr hs zo;obtain⟨a0,a1⟩:=Ha.out.c2;obtain⟨c0,c1⟩:=Hc.out.c2;obtain⟨q0,jv,q1,kd⟩:=Hq.out.g2;obtain⟨r0,aZ,r1,bf⟩:=Hr.out.g2;replace Hb:=bS Hb hs ZS;clear hs;refine aO rfl rfl (λK hK=>?_);go_simp;refine hK _ _ (λh=>absurd h zd) ?_
     refine cg (aN w6 (w.heap.size+1+1+1) 0 [ag false,.string (bs [])]) aR ?_;intro w7 hs;replace Ha:=kS Ha hs zo;replace Hc:=kS Hc hs zo;replace Hq:=kS Hq hs zo;replace Hr:=rO Hr hs;obtain⟨a0,a1⟩:=Ha.out.c2;obtain⟨c0,c1⟩:=Hc.out.c2;obtain⟨q0,jv,q1,kd⟩:=Hq.out.g2;obtain⟨r0,aZ,r1,bf⟩:=Hr.out.g2;replace Hb:=bS Hb hs ZS;clear hs;refine aO rfl rfl (λK hK=>?_);go_simp;refine hK _ _ (λh=>absurd h zd) ?_
     simp only[bH];go_wp2;refine bodyPost_ret (v:=.tuple #[cS N,.agg #[ag false,.string (bs [])],ag true]) (by simp[results,Tryz.results250,go_sem,q0,q1,r0,r1]) rfl ⟨_,rfl,Hb.out⟩
end Go.Proofs.YtpfgffadgkkedaaGreatDoor
namespace Go.Proofs.YtpfgffadgkkedaaGreatDoor
def awJ (n:Nat)(hn:1<=n)(aS:n<=4)(p:Nat->Nat->Dyadic)(k j:Nat)(hk:k<=n)(hj:j<=n):fK n p (p j) k=if k=j then lD (bL n p) *bL n p else 0:=by
 unfold fK;by_cases h:k=j
 . subst h;rw[if_pos rfl,zw]
 . rw[if_neg h,Gc n hn aS p j k (λe=>h e.symm) hj hk];grind
def avn (f g:Nat->Dyadic)(n:Nat):dF (λi=>f i+g i) n=dF f n+dF g n:=by
 induction n with
 |zero=>simp[dF]
 |succ n ih=>simp only[dF,ih];grind
def afK (f:Nat->Dyadic)(c:Dyadic)(n:Nat):dF (λi=>f i*c) n=dF f n*c:=by
 induction n with
 |zero=>simp[dF]
 |succ n ih=>simp only[dF,ih];grind
def avp (f:Nat->Dyadic)(c:Dyadic)(n:Nat):dF (λi=>c*f i) n=c*dF f n:=by
 induction n with
 |zero=>simp[dF]
 |succ n ih=>simp only[dF,ih];grind
def afJ {f g:Nat->Dyadic}(n:Nat)(h:∀k,k<n->f k=g k):dF f n=dF g n:=by
 induction n with
 |zero=>rfl
 |succ n ih=>simp only[dF];rw[ih (λk hk=>h k zo),h n zo]
end Go.Proofs.YtpfgffadgkkedaaGreatDoor
