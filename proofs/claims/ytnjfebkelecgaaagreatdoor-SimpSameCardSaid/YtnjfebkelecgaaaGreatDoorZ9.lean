/- Package dyad: Make,Form,Sign,Shift,Of,Neg,Abs. -/
import Derived.Test.YtnjfebkelecgaaaGreatDoorZ7
import Derived.Test.YtnjfebkelecgaaaGreatDoorZ8
import Derived.Test.YtnjfebkelecgaaaGreatDoorZ6
import Derived.Test.YtnjfebkelecgaaaGreatDoorZ1
set_option linter.all false
set_option maxRecDepth 100000
set_option maxHeartbeats 16000000
namespace Go.Proofs.YtnjfebkelecgaaaGreatDoor
open Go.RowKit
attribute [local go_sem ↓] Go.wp_at_zero Go.wp_at_succ
abbrev cK (d:Dyadic):Value:=.agg #[aj (aC (dN d)),ai (nt (dN d).natAbs),ah (dE d)]
def apt :(⟨#[]⟩:ByteArray)=bs []:=rfl
def ay0 (s:Bool)(l:List UInt8)(n:Nat)(Z:Int)(hZ:iv s l/2^n=Z)(w:World)(hl:l.length<=34359738368)(hn:n<=549755813888)(hT:aM w):
 Cv 103 #[.agg #[aj s,ai l],ah (-(n:Int))] w (dO Z):=by
 rcases Nat.eq_zero_or_pos n with h|h
 . subst h;subst hZ;have:=YR s l 0 w zo zo;simpa using this
 . subst hZ;exact ajw s l n w hl h zo hT
def azV (v k:Nat)(h:v<2^k):tz v<=k:=by
 rcases Nat.eq_zero_or_pos v with h0|h0
 . subst h0;exact Nat.zero_le _
 . obtain⟨m,hm⟩:=ai7 v h0;rcases Nat.lt_or_ge k (tz v)with h1|h1
   . exfalso
     have h2:=Nat.pow_le_pow_right (show 0<2 by decide) (Nat.le_of_lt h1);have h3:2^tz v<=2^tz v* (2*m+1):=Nat.le_mul_of_pos_right _ zo;omega
   . exact h1
def ai4 (n:Int):tz n.natAbs=n.trailingZeros:=by
 unfold tz;rcases Int.natAbs_eq n with h|h
 . rw[<-h]
 . conv=>rhs;rw[h]
   rw[Int.trailingZeros_neg]
def TZ (s:Bool)(l:List UInt8)(e:Int)(h:iv s l=0):aJ (s,l,e)=0:=by unfold aJ;simp only[h];exact uW _
def TY (s:Bool)(l:List UInt8)(e:Int)(h:iv s l≠0):dN (aJ (s,l,e))=iv s l/2^tz (nv l)/\dE (aJ (s,l,e))=e+(tz (nv l):Int):=by have:=acy (k:=-e) h;unfold aJ;rw[show tz (nv l)=(iv s l).trailingZeros by rw[<-pX s l];exact ai4 _];exact⟨this.1,by rw[this.2];omega⟩
def Ao (s:Bool)(l:List UInt8)(e:Int)(D:Dyadic)(hD:aJ (s,l,e)=D)(w:World)(hl:l.length<=34359738368)(he: -1099511627776<=e/\e<=1099511627776)(hT:aM w):
 Cv 59 #[.agg #[aj s,ai l],ah e] w (cK D):=by
 have sB:Hid (l.length<=1099511627776):=by show _<=_;omega
 have Hl1:Hid (l.length<=68719476736):=by show _<=_;omega
 by_cases h0:iv s l=0
 . have h1:=TZ s l e h0;rw[hD]at h1;subst h1;clear hD;have h2:gh (iv s l)=0:=by rw[h0];rfl
   have H2:=ar h2;clear h2;have Hv:Hid (cK 0=.agg #[aj false,.string (bs []),ah 0]):=rfl;go_enter Tryz.func59,Tryz.ntmps59;have Hb:=hbz w;go_wp2_with fail;have q:=lQ w 46 [aj s,ai l] 48 [aj false,.string (bs []),ah 0];first|refine cd _ q ?_|refine cw _ q ?_
   clear q;rintro W ⟨Hx,Hr,ag⟩;obtain⟨x0,x1⟩:=Hx.out.c2;obtain⟨r0,aH,r1,aI,r2,aX⟩:=Hr.out.g3;replace Hb:=az Hb ag;go_wp2_with fail;refine(Qp s l _ sB.out).mono ?_;rintro e w1 ⟨rfl,ag⟩;obtain⟨Hx,x0,x1⟩:=bi Hx ag;obtain⟨Hr,r0,aH,r1,aI,r2,aX⟩:=bg Hr ag;replace Hb:=az Hb ag;rw[H2.out];go_wp2;exact bodyPost_ret (v:=.agg #[aj false,.string (bs []),ah 0]) (by simp[results,Tryz.results59,go_sem,r0,r1,r2,apt]) rfl ⟨by rw[Hv.out],dH⟩
 . obtain⟨h1,h2⟩:=TY s l e h0;rw[hD]at h1 h2;clear hD;have hg0:gh (iv s l)≠0:=by unfold gh;split<;>(try split)<;>omega
   have Hg:Hid (∃g,gh (iv s l)=g/\g≠0):=⟨_,rfl,hg0⟩;obtain⟨g,hg,hg0⟩:=Hg.out;have Hg:=ar hg;clear hg;have hn:tz (nv l)<=549755813888:=Nat.le_trans (azV (nv l) (8*l.length) (by have:=ib l;rwa [show(256:Nat)=2^8 by rfl,<-Nat.pow_mul]at this)) zo;obtain⟨n,hn0⟩:=aK (tz (nv l));rw[hn0]at h1 h2 hn;have rL:=ar hn0;clear hn0;obtain⟨Z,hZ⟩:=aK (dN D);obtain⟨E,hE⟩:=aK (dE D);rw[hZ]at h1;rw[hE]at h2;obtain⟨HZ,HE⟩:=aZ hZ hE;clear hZ hE;have H1:=ar h1.symm;clear h1;have hwn:IntKind.i64.wrap (-(n:Int))= -(n:Int):=by rw[IntKind.wrap_i64];omega
   have hwe:IntKind.i64.wrap (e+(n:Int))=E:=by rw[IntKind.wrap_i64];omega
   clear h0 h2;go_enter Tryz.func59,Tryz.ntmps59;have Hb:=hbz w;go_wp2_with fail;have q:=lQ w 46 [aj s,ai l] 48 [aj false,.string (bs []),ah 0];first|refine cd _ q ?_|refine cw _ q ?_
   clear q;rintro W ⟨Hx,Hr,ag⟩;obtain⟨x0,x1⟩:=Hx.out.c2;obtain⟨r0,aH,r1,aI,r2,aX⟩:=Hr.out.g3;replace Hb:=az Hb ag;go_wp2_with fail;refine(Qp s l _ sB.out).mono ?_;rintro e w1 ⟨rfl,ag⟩;obtain⟨Hx,x0,x1⟩:=bi Hx ag;obtain⟨Hr,r0,aH,r1,aI,r2,aX⟩:=bg Hr ag;replace Hb:=az Hb ag;rw[Hg.out];have HT:=ar (hT.below Hb.out);go_wp2_with fail;refine(Xn l _ Hl1.out HT.out).mono ?_;rintro e w2 ⟨rfl,ag⟩;obtain⟨Hx,x0,x1⟩:=bi Hx ag;obtain⟨Hr,r0,aH,r1,aI,r2,aX⟩:=bg Hr ag;replace Hb:=az Hb ag;rw[rL.out];replace HT:=ar (hT.below Hb.out);go_wp2_with fail;refine(ay0 s l n Z H1.out _ hl hn HT.out).mono ?_;rintro e w3 ⟨rfl,ag⟩;obtain⟨Hx,x0,x1⟩:=bi Hx ag;obtain⟨Hr,r0,aH,r1,aI,r2,aX⟩:=bg Hr ag;replace Hb:=az Hb ag;go_wp2;exact bodyPost_ret (v:=.agg #[aj (aC Z),ai (nt Z.natAbs),ah E]) (by simp[results,Tryz.results59,go_sem,r0,r1,r2]) rfl ⟨by rw[<-HZ.out,<-HE.out],dH⟩
def Ok.len {s:Bool}{l:List UInt8}{e:Int}(h:Ok (s,l,e)):l.length<=268435456:=h.1
def Ok.exp {s:Bool}{l:List UInt8}{e:Int}(h:Ok (s,l,e)): -268435456<=e/\e<=268435456:=h.2
def sM (s:Bool)(l:List UInt8)(e:Int)(D:Dyadic)(hD:aJ (s,l,e)=D)(w:World)(hx:Ok (s,l,e))(hT:aM w):
 Cv 70 #[.agg #[aj s,ai l,ah e]] w (cK D):=by
 have HD:=ar hD;clear hD;have h1:=hx.len;have h2:=hx.exp;clear hx;have Hl:Hid (l.length<=34359738368):=by show _<=_;omega
 have He:Hid (-1099511627776<=e/\e<=1099511627776):=by show _/\_;omega
 go_enter Tryz.func70,Tryz.ntmps70;have Hb:=hbz w;go_wp2_with fail;have q:=lQ w 48 [aj s,ai l,ah e] 48 [aj false,.string (bs []),ah 0];first|refine cd _ q ?_|refine cw _ q ?_
 clear q;rintro W ⟨Hx,Hr,ag⟩;obtain⟨x0,x1,x2⟩:=Hx.out.c3;obtain⟨r0,aH,r1,aI,r2,aX⟩:=Hr.out.g3;replace Hb:=az Hb ag;have HT:=ar (hT.below Hb.out);go_wp2_with fail;refine(Ao s l e D HD.out _ Hl.out He.out HT.out).mono ?_;rintro e w1 ⟨rfl,ag⟩;obtain⟨Hx,x0,x1,x2⟩:=cm Hx ag;obtain⟨Hr,r0,aH,r1,aI,r2,aX⟩:=bg Hr ag;replace Hb:=az Hb ag;go_wp2;exact bodyPost_ret (v:=cK D) (by simp[results,Tryz.results70,go_sem,r0,r1,r2]) rfl ⟨rfl,dH⟩
def aiw (s:Bool)(l:List UInt8)(e:Int):gh (iv s l)=gh (dN (aJ (s,l,e))):=by
 by_cases h0:iv s l=0
 . rw[TZ s l e h0,h0,TJ]
 . rw[(TY s l e h0).1];obtain⟨q,hq⟩:(2:Int)^tz (nv l)∣iv s l:=by rw[show tz (nv l)=(iv s l).trailingZeros by rw[<-pX s l];exact ai4 _];exact Int.two_pow_trailingZeros_dvd h0
   have hp:(0:Int)<2^tz (nv l):=by
    have:((2^tz (nv l):Nat):Int)>0:=by have:=Nat.pow_pos (n:=tz (nv l)) (show 0<2 by decide);omega
    simpa[Int.natCast_pow]using this
   generalize (2:Int)^tz (nv l)=p at*;rw[hq,Int.mul_ediv_cancel_left _ zo];unfold gh;rcases Int.lt_trichotomy q 0 with h|h|h
   . have:=Int.mul_neg_of_pos_of_neg hp h;simp only[h,this,if_true]
   . subst h;simp
   . have:=Int.mul_pos hp h;rw[if_neg zo,if_neg zo,if_neg zo,if_neg zo]
abbrev eG (d:Dyadic):Int:=gh (dN d)
def vK (s:Bool)(l:List UInt8)(e:Int)(g:Int)(hg:eG (aJ (s,l,e))=g)(w:World)(hx:Ok (s,l,e)):
 Cv 72 #[.agg #[aj s,ai l,ah e]] w (ah g):=by
 have h1:=hx.len;clear hx;have Hg:Hid (gh (iv s l)=g):=by show _=_;rw[<-hg];exact aiw s l e
 have Hl:Hid (l.length<=1099511627776):=by show _<=_;omega
 clear hg;go_enter Tryz.func72,Tryz.ntmps72;have Hb:=hbz w;go_wp2_with fail;have q:=fK w 48 [aj s,ai l,ah e];first|refine cd _ q ?_|refine cw _ q ?_
 clear q;rintro W ⟨Hx,ag⟩;obtain⟨x0,x1,x2⟩:=Hx.out.c3;replace Hb:=az Hb ag;go_wp2_with fail;refine(Qp s l _ Hl.out).mono ?_;rintro e w1 ⟨rfl,ag⟩;obtain⟨Hx,x0,x1,x2⟩:=cm Hx ag;replace Hb:=az Hb ag;rw[Hg.out];go_wp2;go_ret;exact⟨rfl,Hb.out⟩
def BH (n e:Int):aJ (aC n,nt n.natAbs,e)=Dyadic.ofIntWithPrec n (-e):=by unfold aJ;simp only[gK]
def BB (n:Int)(D:Dyadic)(hD:Dyadic.ofIntWithPrec n 0=D)(w:World)(hn: -9223372036854775808<=n/\n<=9223372036854775807)(hT:aM w):
 Cv 30 #[ah n] w (cK D):=by
 obtain⟨N,hN⟩:=aK n;have HD:Hid (aJ (aC N,nt N.natAbs,0)=D):=by show _=_;rw[BH,<-hN];exact hD
 have Hl:Hid ((nt N.natAbs).length<=34359738368):=by
  show _<=_
  exact Nat.le_trans (kd (k:=8) zo) zd
 have HN:=ar hN;clear hN hD;go_enter Tryz.func30,Tryz.ntmps30;have Hb:=hbz w;go_wp2_with fail;have q:=fK w 48 [aj false,.string (bs []),ah 0];first|refine cd _ q ?_|refine cw _ q ?_
 clear q;rintro W ⟨Hr,ag⟩;obtain⟨r0,aH,r1,aI,r2,aX⟩:=Hr.out.g3;replace Hb:=az Hb ag;go_wp2_with fail;refine(Qo n N HN.out _ hn.1 hn.2).mono ?_;rintro e w1 ⟨rfl,ag⟩;obtain⟨Hr,r0,aH,r1,aI,r2,aX⟩:=bg Hr ag;replace Hb:=az Hb ag;have HT:=ar (hT.below Hb.out);go_wp2_with fail;refine(Ao (aC N) (nt N.natAbs) 0 D HD.out _ Hl.out zo HT.out).mono ?_;rintro e w2 ⟨rfl,ag⟩;obtain⟨Hr,r0,aH,r1,aI,r2,aX⟩:=bg Hr ag;replace Hb:=az Hb ag;go_wp2;exact bodyPost_ret (v:=cK D) (by simp[results,Tryz.results30,go_sem,r0,r1,r2]) rfl ⟨rfl,dH⟩
def TK (s:Bool)(l:List UInt8)(e:Int)(D:Dyadic)(hD: -aJ (s,l,e)=D)(w:World)(hx:Ok (s,l,e))(hT:aM w):
 Cv 73 #[.agg #[aj s,ai l,ah e]] w (cK D):=by
 have h1:=hx.len;have h2:=hx.exp;clear hx;obtain⟨N,hN⟩:=aK (-(iv s l));have HD:Hid (aJ (aC N,nt N.natAbs,e)=D):=by
  show _=_
  rw[BH,<-hN,<-hD];unfold aJ;rw[XB]
 have Hl:Hid ((nt N.natAbs).length<=34359738368):=by show _<=_;rw[<-hN];exact Kj s l _ zo
 have sB:Hid (l.length<=1099511627776):=by show _<=_;omega
 have He:Hid (-1099511627776<=e/\e<=1099511627776):=by show _/\_;omega
 have HN:=ar hN;clear hN hD;go_enter Tryz.func73,Tryz.ntmps73;have Hb:=hbz w;go_wp2_with fail;have q:=lQ w 48 [aj s,ai l,ah e] 48 [aj false,.string (bs []),ah 0];first|refine cd _ q ?_|refine cw _ q ?_
 clear q;rintro W ⟨Hx,Hr,ag⟩;obtain⟨x0,x1,x2⟩:=Hx.out.c3;obtain⟨r0,aH,r1,aI,r2,aX⟩:=Hr.out.g3;replace Hb:=az Hb ag;refine bV (λw'=>aF w' (w.heap.size) 0 (aj s)/\aF w' (w.heap.size) 1 (ai l)/\aF w' (w.heap.size) 2 (ah e)) (λi=>Nat.blt i 6) [(0,true),(1,true),(3,true),(4,true),(2,false),(5,false),(6,false)] zk zk rfl zk zc ⟨x0,x1,x2⟩ ?_;iterate 4 (refine pT rfl rfl ?_ (by intro w' ⟨q0,q1,q2⟩;go_simp;try with_reducible rfl))
 refine aR rfl rfl (λK hK=>?_);go_simp;with_reducible refine(Qn s l N HN.out _ sB.out).mono ?_
 rintro e w1 ⟨rfl,hq⟩;have ag:Bw W w1:=by first|exact hq|exact bo hq
 obtain⟨Hx,x0,x1,x2⟩:=cm Hx ag;obtain⟨Hr,r0,aH,r1,aI,r2,aX⟩:=bg Hr ag;replace Hb:=az Hb ag;refine hK _ _ (λ_=>⟨x0,x1,x2⟩) ?_
 refine aR rfl rfl (λK hK=>?_);go_simp;with_reducible refine(Ao (aC N) (nt N.natAbs) e D HD.out _ Hl.out He.out (hT.below Hb.out)).mono ?_
 rintro e w2 ⟨rfl,hq⟩;have ag:Bw w1 w2:=by first|exact hq|exact bo hq
 obtain⟨Hx,x0,x1,x2⟩:=cm Hx ag;obtain⟨Hr,r0,aH,r1,aI,r2,aX⟩:=bg Hr ag;replace Hb:=az Hb ag;refine hK _ _ (λ_=>⟨x0,x1,x2⟩) ?_
 refine aR rfl rfl (λK hK=>?_);go_simp;refine hK _ _ (λh=>absurd h zd) ?_
 refine bZ (bY w2 (w.heap.size+1) 0 [aj (aC (dN D)),ai (nt (dN D).natAbs),ah (dE D)]) cC ?_;intro w3 hs;replace Hx:=kS Hx hs zo;replace Hr:=dt Hr hs;obtain⟨x0,x1,x2⟩:=Hx.out.c3;obtain⟨r0,aH,r1,aI,r2,aX⟩:=Hr.out.g3;replace Hb:=bS Hb hs ZS;clear hs;simp only[bu];go_wp2;exact bodyPost_ret (v:=cK D) (by simp[results,Tryz.results73,go_sem,r0,r1,r2]) rfl ⟨rfl,dH⟩
def aM.drew {w:World}(h:aM w):aM w.drew:=h
def aM.alloc {w:World}(h:aM w)(o:Obj):aM (w.alloc o):=λj hj=>aV (h j hj)
def qj (v k:Int):Int:=if 0<=k then v*2^k.toNat else v/2^(-k).toNat
def aAk (s:Bool)(l:List UInt8)(k Z:Int)(hZ:qj (iv s l) k=Z)(w:World)(hl:l.length<=34359738368)(hk: -549755813888<=k/\k<=549755813888)(hT:aM w):
 Cv 103 #[.agg #[aj s,ai l],ah k] w (dO Z):=by
 subst hZ;unfold qj;split
 . rename_i h
   have:=YR s l k.toNat w zo zo;rw[Int.toNat_of_nonneg h]at this;exact this
 . rename_i h
   have:=ajw s l (-k).toNat w hl zo zo hT;rw[Int.toNat_of_nonneg zo,Int.neg_neg]at this;exact this
def Fg (s:Bool)(l:List UInt8)(e g Z:Int)(hZ:qj (iv s l) (e-g)=Z)(w:World)(hl:l.length<=34359738368)(hk: -549755813888<=e-g/\e-g<=549755813888)(hT:aM w):
 Cv 100 #[ah g,.agg #[aj s,ai l,ah e]] w (dO Z):=by
 obtain⟨k,nu⟩:=aK (e-g);have hwe:IntKind.i64.wrap (e-g)=k:=by rw[IntKind.wrap_i64];omega
 rw[nu]at hZ hk;have HZ:=ar hZ;clear hZ nu;go_enter Tryz.func100,Tryz.ntmps100;have Hb:=hbz w;go_wp2_with fail;have q:=lQ w 48 [aj s,ai l,ah e] 46 [aj false,.string (bs [])];first|refine cd _ q ?_|refine cw _ q ?_
 clear q;rintro W ⟨Hx,Hr,ag⟩;obtain⟨x0,x1,x2⟩:=Hx.out.c3;obtain⟨r0,aH,r1,aI⟩:=Hr.out.g2;replace Hb:=az Hb ag;have HT:=ar (hT.below Hb.out);go_wp2_with fail;refine(aAk s l k Z HZ.out _ hl hk HT.out).mono ?_;rintro e w1 ⟨rfl,ag⟩;obtain⟨Hx,x0,x1,x2⟩:=cm Hx ag;obtain⟨Hr,r0,aH,r1,aI⟩:=bA Hr ag;replace Hb:=az Hb ag;go_wp2;exact bodyPost_ret (v:=dO Z) (by simp[results,Tryz.results100,go_sem,r0,r1]) rfl ⟨rfl,dH⟩
def wh (A B:Dyadic):Int:=if A=0 then dE B else if B=0 then dE A else min (dE A) (dE B)
def uV (A:Dyadic):A=Dyadic.ofIntWithPrec (dN A) (-(dE A)):=by have:=cp A;unfold aJ canon at this;simp only[gK]at this;exact this.symm
def ahP (A:Dyadic)(g:Int)(h:A=0\/g<=dE A):A=Dyadic.ofIntWithPrec (qj (dN A) (dE A-g)) (-g):=by
 rcases h with h|h
 . subst h;have:qj (dN 0) (dE 0-g)=0:=by unfold qj;rw[TJ];split<;>simp
   rw[this,uW]
 . unfold qj;rw[if_pos zo];have:=wA (dN A) (dE A-g).toNat (-(dE A));rw[show-(dE A)+((dE A-g).toNat:Int)= -g by omega]at this;rw[this];exact uV A
def auX (A B:Dyadic):(A=0\/wh A B<=dE A)/\(B=0\/wh A B<=dE B):=by
 unfold wh;split
 . exact⟨.inl ‹_›,.inr zo⟩
 . split
   . exact⟨.inr zo,.inl ‹_›⟩
   . exact⟨.inr zo,.inr zo⟩
def ahL {A:Dyadic}:A=0\/((nt (dN A).natAbs)≠[]/\A≠0):=by
 by_cases h:A=0
 . exact .inl h
 . refine .inr ⟨?_,h⟩;intro h2;apply h;have:(dN A).natAbs=0:=by rw[<-jC (dN A).natAbs,h2];rfl
   rw[uV A,show dN A=0 by omega,uW]
def Ok.parts {x:Raw}(h:Ok x):(nt (dN (aJ x)).natAbs).length<=1073741824/\ -4294967296<=dE (aJ x)/\dE (aJ x)<=4294967296:=by obtain⟨B,hB,hs⟩:∃B,B<=4294967296/\Sm B (aJ x):=⟨4294967296,Nat.le_refl _,h.sm⟩;obtain⟨h1,h2,h3⟩:=hs.parts;exact⟨lM h1 zo,by clear h1;omega,by clear h1;omega⟩
def auz (s:Bool)(l:List UInt8)(e:Int)(t:Bool)(m:List UInt8)(f:Int)(A B:Dyadic)(hA:aJ (s,l,e)=A)(hB:aJ (t,m,f)=B)(g X Y:Int)(hg:wh A B=g)(hX:qj (dN A) (dE A-g)=X)(hY:qj (dN B) (dE B-g)=Y)
 (w:World) (hx:Ok (s,l,e)) (hy:Ok (t,m,f)) (hT:aM w):
 Cv 58 #[.agg #[aj s,ai l,ah e],.agg #[aj t,ai m,ah f]] w (.agg #[ah g,aj (aC X),ai (nt X.natAbs),aj (aC Y),ai (nt Y.natAbs)]):=by
 have pA:=hx.parts;rw[hA]at pA;have pB:=hy.parts;rw[hB]at pB;obtain⟨HA,HB⟩:=aZ hA hB;clear hA hB;obtain⟨a,ha⟩:=aK (nt (dN A).natAbs);obtain⟨p,hp⟩:=aK (aC (dN A));obtain⟨i,hi⟩:=aK (dE A);obtain⟨b,hb⟩:=aK (nt (dN B).natAbs);obtain⟨q,hq⟩:=aK (aC (dN B));obtain⟨j,hj⟩:=aK (dE B);have hX2:qj (iv p a) (i-g)=X:=by rw[<-hp,<-ha,gK,<-hi];exact hX
 have BP:qj (iv q b) (j-g)=Y:=by rw[<-hq,<-hb,gK,<-hj];exact hY
 have aao:Hid (∀W,aM W->Cv 70 #[.agg #[aj s,ai l,ah e]] W (.agg #[aj p,ai a,ah i])):=by intro W hW;rw[<-hp,<-ha,<-hi];exact sM s l e A HA.out W hx hW
 have aap:Hid (∀W,aM W->Cv 70 #[.agg #[aj t,ai m,ah f]] W (.agg #[aj q,ai b,ah j])):=by intro W hW;rw[<-hq,<-hb,<-hj];exact sM t m f B HB.out W hy hW
 have hlv:(A=0/\g=j)\/(A≠0/\B=0/\g=i)\/(A≠0/\B≠0/\g=min i j):=by
  rw[<-hg];unfold wh;by_cases h1:A=0
  . simp[h1,hj]
  . by_cases h2:B=0<;>simp[h1,h2,hi,hj]
 rw[ha,hi]at pA;rw[hb,hj]at pB;have zA:A=0->(p=false/\a=[]/\i=0):=by rintro rfl;exact⟨hp.symm,ha.symm,hi.symm⟩
 have zB:B=0->(q=false/\b=[]/\j=0):=by rintro rfl;exact⟨hq.symm,hb.symm,hj.symm⟩
 have nA:A≠0->a≠[]:=by intro h;rw[<-ha];rcases ahL (A:=A)with h2|h2;exact absurd h2 h;exact h2.1
 have nB:B≠0->b≠[]:=by intro h;rw[<-hb];rcases ahL (A:=B)with h2|h2;exact absurd h2 h;exact h2.1
 have Jk: -549755813888<=i-g/\i-g<=549755813888:=by rcases hlv with⟨_,h⟩ |⟨_,_,h⟩ |⟨_,_,h⟩<;>omega
 have hgj: -549755813888<=j-g/\j-g<=549755813888:=by rcases hlv with⟨_,h⟩ |⟨_,_,h⟩ |⟨_,_,h⟩<;>omega
 obtain⟨HX,HY⟩:=aZ hX2 BP;have La:Hid (a.length<=34359738368):=by show _<=_;omega
 have Lb:Hid (b.length<=34359738368):=by show _<=_;omega
 obtain⟨Rt,Ru⟩:=aZ Jk hgj;clear hX2 BP hX hY hg ha hp hi hb hq hj Jk hgj HA HB hx hy;go_enter Tryz.func58,Tryz.ntmps58;have Hb:=hbz w;go_wp2_with fail;have q:=uU w 48 [aj s,ai l,ah e] 48 [aj t,ai m,ah f] 94 [ah 0,aj false,.string (bs []),aj false,.string (bs [])];first|refine cd _ q ?_|refine cw _ q ?_
 clear q;rintro W ⟨Hx,Hy,Hr,ag⟩;obtain⟨x0,cM,x1,cN,x2,dh⟩:=Hx.out.g3;obtain⟨y0,cG,y1,cH,y2,cO⟩:=Hy.out.g3;obtain⟨r0,aH,r1,aI,r2,aX,r3,iK,r4,jw⟩:=Hr.out.g5;replace Hb:=az Hb ag;have HT:=ar (hT.below Hb.out);refine bV (λw'=>aF w' (w.heap.size) 0 (aj s)/\aF w' (w.heap.size) 1 (ai l)/\aF w' (w.heap.size) 2 (ah e)/\aF w' (w.heap.size+1) 0 (aj t)/\aF w' (w.heap.size+1) 1 (ai m)/\aF w' (w.heap.size+1) 2 (ah f)) (λi=>Nat.blt i 4) [(0,true),(2,true),(1,false),(3,false),(4,false),(5,false)] zk zk rfl zk zc ⟨x0,x1,x2,y0,y1,y2⟩ ?_;iterate 2 (refine pT rfl rfl ?_ (by intro w' ⟨q0,q1,q2,q3,q4,q5⟩;go_simp;try with_reducible rfl))
 refine aR rfl rfl (λK hK=>?_);go_simp;with_reducible refine(aao.out _ (by first|exact HT.out|exact aM.drew HT.out|exact aM.alloc HT.out _|exact aM.drew (aM.alloc HT.out _) |exact aM.alloc (aM.drew HT.out) _)).mono ?_
 rintro e w1 ⟨rfl,hq⟩;have ag:Bw W w1:=by first|exact hq|exact bo hq
 obtain⟨Hx,x0,cM,x1,cN,x2,dh⟩:=bg Hx ag;obtain⟨Hy,y0,cG,y1,cH,y2,cO⟩:=bg Hy ag;replace Hr:=kB Hr ag;obtain⟨r0,aH,r1,aI,r2,aX,r3,iK,r4,jw⟩:=Hr.out.g5;replace Hb:=az Hb ag;refine hK _ _ (λ_=>⟨x0,x1,x2,y0,y1,y2⟩) ?_
 refine aR rfl rfl (λK hK=>?_);go_simp;with_reducible refine(aap.out _ (by first|exact(hT.below Hb.out) |exact aM.drew (hT.below Hb.out) |exact aM.alloc (hT.below Hb.out) _|exact aM.drew (aM.alloc (hT.below Hb.out) _) |exact aM.alloc (aM.drew (hT.below Hb.out)) _)).mono ?_
 rintro e w2 ⟨rfl,hq⟩;have ag:Bw w1 w2:=by first|exact hq|exact bo hq
 obtain⟨Hx,x0,cM,x1,cN,x2,dh⟩:=bg Hx ag;obtain⟨Hy,y0,cG,y1,cH,y2,cO⟩:=bg Hy ag;replace Hr:=kB Hr ag;obtain⟨r0,aH,r1,aI,r2,aX,r3,iK,r4,jw⟩:=Hr.out.g5;replace Hb:=az Hb ag;refine hK _ _ (λ_=>⟨x0,x1,x2,y0,y1,y2⟩) ?_
 refine aR rfl rfl (λK hK=>?_);go_simp;refine hK _ _ (λh=>absurd h zd) ?_
 refine bZ (bY w2 (w.heap.size) 0 [aj p,ai a,ah i]) cC ?_;intro w3 hs;replace Hx:=dt Hx hs;replace Hy:=kS Hy hs zo;replace Hr:=kS Hr hs zo;obtain⟨x0,cM,x1,cN,x2,dh⟩:=Hx.out.g3;obtain⟨y0,cG,y1,cH,y2,cO⟩:=Hy.out.g3;obtain⟨r0,aH,r1,aI,r2,aX,r3,iK,r4,jw⟩:=Hr.out.g5;replace Hb:=bS Hb hs ZS;clear hs;refine aR rfl rfl (λK hK=>?_);go_simp;refine hK _ _ (λh=>absurd h zd) ?_
 refine bZ (bY w3 (w.heap.size+1) 0 [aj q,ai b,ah j]) cC ?_;intro w4 hs;replace Hx:=kS Hx hs zo;replace Hy:=dt Hy hs;replace Hr:=kS Hr hs zo;obtain⟨x0,cM,x1,cN,x2,dh⟩:=Hx.out.g3;obtain⟨y0,cG,y1,cH,y2,cO⟩:=Hy.out.g3;obtain⟨r0,aH,r1,aI,r2,aX,r3,iK,r4,jw⟩:=Hr.out.g5;replace Hb:=bS Hb hs ZS;clear hs;simp only[bu];have Gu:=Hr;clear x0 x1 x2 cM cN dh y0 y1 y2 cG cH cO r0 r1 r2 r3 r4 aH aI aX iK jw HT aao aap;rcases hlv with⟨h1,h2⟩ |⟨h1,h3,h2⟩ |⟨h1,h3,h2⟩
 . obtain⟨rfl,rfl,rfl⟩:=zA h1;subst h2;have z1:(bs []).toList=[]:=gX _;clear zA zB nA nB pA pB;obtain⟨x0,cM,x1,cN,x2,dh⟩:=Hx.out.g3;obtain⟨y0,cG,y1,cH,y2,cO⟩:=Hy.out.g3;obtain⟨r0,aH,r1,aI,r2,aX,r3,iK,r4,jw⟩:=Hr.out.g5;have Am:=Hx.out.lt;have Xe:=Hy.out.lt;have Pm:=Hr.out.lt;go_wp2_with fail;obtain⟨R,hR⟩:∃R:World->Prop,(λW5=>au W5 (w4.heap.size) 94 [ah g,aj false,.string (bs []),aj false,.string (bs [])]/\Bw w4 W5)=R:=⟨_,rfl⟩;first|refine cd R ?hR ?_|refine cw R ?hR ?_
   case hR=>subst hR;exact⟨(au.newAt w4 _ _ (b:=w4.heap.size) rfl),zl⟩
   subst hR;rintro W5 ⟨qn,ag⟩;have Hn:=ar qn;clear qn x0 cM x1 cN x2 dh;obtain⟨Hx,x0,cM,x1,cN,x2,dh⟩:=bg Hx ag;obtain⟨Hy,y0,cG,y1,cH,y2,cO⟩:=bg Hy ag;replace Hr:=kB Hr ag;obtain⟨r0,aH,r1,aI,r2,aX,r3,iK,r4,jw⟩:=Hr.out.g5;obtain⟨n0,qT,n1,qU,n2,qV,n3,qW,n4,qX⟩:=Hn.out.g5;replace Hb:=az Hb ag;have hns:w.heap.size+1+1<w4.heap.size:=Gu.out.lt;refine bV (λw'=>aF w' (w.heap.size) 0 (aj false)/\aF w' (w.heap.size) 1 (.string (bs []))/\aF w' (w.heap.size) 2 (ah 0)/\aF w' (w.heap.size+1) 0 (aj q)/\aF w' (w.heap.size+1) 1 (ai b)/\aF w' (w.heap.size+1) 2 (ah g)/\aF w' (w4.heap.size) 0 (ah g)) (λi=>Nat.blt i 11) [(0,true),(1,true),(2,true),(4,true),(5,true),(6,true),(3,false),(8,true),(7,false),(9,false),(10,true),(11,false)] zk zk rfl zk zc ⟨x0,x1,x2,y0,y1,y2,n0⟩ ?_;iterate 6 (refine pT rfl rfl ?_ (by intro w' ⟨q0,q1,q2,q3,q4,q5,q6⟩;go_simp;try with_reducible rfl))
   refine aR rfl rfl (λK hK=>?_);go_simp;with_reducible refine(Fg false [] 0 g X HX.out _ La.out Rt.out (by first|exact(hT.below Hb.out) |exact aM.drew (hT.below Hb.out) |exact aM.alloc (hT.below Hb.out) _|exact aM.drew (aM.alloc (hT.below Hb.out) _) |exact aM.alloc (aM.drew (hT.below Hb.out)) _)).mono ?_
   rintro e w6 ⟨rfl,hq⟩;have ag:Bw W5 w6:=by first|exact hq|exact bo hq
   obtain⟨Hx,x0,cM,x1,cN,x2,dh⟩:=bg Hx ag;obtain⟨Hy,y0,cG,y1,cH,y2,cO⟩:=bg Hy ag;replace Hr:=kB Hr ag;replace Hn:=kB Hn ag;obtain⟨r0,aH,r1,aI,r2,aX,r3,iK,r4,jw⟩:=Hr.out.g5;obtain⟨n0,qT,n1,qU,n2,qV,n3,qW,n4,qX⟩:=Hn.out.g5;replace Hb:=az Hb ag;refine hK _ _ (λ_=>⟨x0,x1,x2,y0,y1,y2,n0⟩) ?_
   refine pT rfl rfl ?_
   refine aR rfl rfl (λK hK=>?_);go_simp;with_reducible refine(Fg q b g g Y HY.out _ Lb.out Ru.out (by first|exact(hT.below Hb.out) |exact aM.drew (hT.below Hb.out) |exact aM.alloc (hT.below Hb.out) _|exact aM.drew (aM.alloc (hT.below Hb.out) _) |exact aM.alloc (aM.drew (hT.below Hb.out)) _)).mono ?_
   rintro e w7 ⟨rfl,hq⟩;have ag:Bw w6 w7:=by first|exact hq|exact bo hq
   obtain⟨Hx,x0,cM,x1,cN,x2,dh⟩:=bg Hx ag;obtain⟨Hy,y0,cG,y1,cH,y2,cO⟩:=bg Hy ag;replace Hr:=kB Hr ag;replace Hn:=kB Hn ag;obtain⟨r0,aH,r1,aI,r2,aX,r3,iK,r4,jw⟩:=Hr.out.g5;obtain⟨n0,qT,n1,qU,n2,qV,n3,qW,n4,qX⟩:=Hn.out.g5;replace Hb:=az Hb ag;refine hK _ _ (λ_=>⟨x0,x1,x2,y0,y1,y2,n0⟩) ?_
   refine aR rfl rfl (λK hK=>?_);go_simp;refine hK _ _ (λ_=>⟨(aU zf (aU zf x0)),(aU zf (aU zf x1)),(aU zf (aU zf x2)),(aU zf (aU zf y0)),(aU zf (aU zf y1)),(aU zf (aU zf y2)),(aU zf (aU zf n0))⟩) ?_
   refine bZ (bY w7 (w4.heap.size) 1 [aj (aC X),ai (nt X.natAbs)]) cC ?_;intro w8 hs;replace Hx:=kS Hx hs zo;replace Hy:=kS Hy hs zo;replace Hr:=kS Hr hs zo;replace Hn:Hid (au w8 (w4.heap.size) 94 [ah g,aj (aC X),ai (nt X.natAbs),aj false,.string (bs [])]):=Ak Hn hs;obtain⟨x0,cM,x1,cN,x2,dh⟩:=Hx.out.g3;obtain⟨y0,cG,y1,cH,y2,cO⟩:=Hy.out.g3;obtain⟨r0,aH,r1,aI,r2,aX,r3,iK,r4,jw⟩:=Hr.out.g5;obtain⟨n0,qT,n1,qU,n2,qV,n3,qW,n4,qX⟩:=Hn.out.g5;replace Hb:=bS Hb hs ZS;clear hs;refine pT rfl rfl ?_
   refine aR rfl rfl (λK hK=>?_);go_simp;refine hK _ _ (λh=>absurd h zd) ?_
   refine bZ (bY w8 (w4.heap.size) 3 [aj (aC Y),ai (nt Y.natAbs)]) cC ?_;intro w9 hs;replace Hx:=kS Hx hs zo;replace Hy:=kS Hy hs zo;replace Hr:=kS Hr hs zo;replace Hn:Hid (au w9 (w4.heap.size) 94 [ah g,aj (aC X),ai (nt X.natAbs),aj (aC Y),ai (nt Y.natAbs)]):=Ak Hn hs;obtain⟨x0,cM,x1,cN,x2,dh⟩:=Hx.out.g3;obtain⟨y0,cG,y1,cH,y2,cO⟩:=Hy.out.g3;obtain⟨r0,aH,r1,aI,r2,aX,r3,iK,r4,jw⟩:=Hr.out.g5;obtain⟨n0,qT,n1,qU,n2,qV,n3,qW,n4,qX⟩:=Hn.out.g5;replace Hb:=bS Hb hs ZS;clear hs;simp only[bu];go_wp2;exact bodyPost_ret (v:=.agg #[ah g,aj (aC X),ai (nt X.natAbs),aj (aC Y),ai (nt Y.natAbs)]) (by simp[results,Tryz.results58,go_sem,r0,r1,r2,r3,r4]) rfl ⟨rfl,dH⟩
 . obtain⟨rfl,rfl,rfl⟩:=zB h3;subst h2;have z1:(bs []).toList=[]:=gX _;have z2:¬(bs a).toList=[]:=by rw[gX];exact nA h1
   clear zA zB nA nB pA pB;obtain⟨x0,cM,x1,cN,x2,dh⟩:=Hx.out.g3;obtain⟨y0,cG,y1,cH,y2,cO⟩:=Hy.out.g3;obtain⟨r0,aH,r1,aI,r2,aX,r3,iK,r4,jw⟩:=Hr.out.g5;have Am:=Hx.out.lt;have Xe:=Hy.out.lt;have Pm:=Hr.out.lt;go_wp2_with fail;obtain⟨R,hR⟩:∃R:World->Prop,(λW5=>au W5 (w4.heap.size) 94 [ah g,aj false,.string (bs []),aj false,.string (bs [])]/\Bw w4 W5)=R:=⟨_,rfl⟩;first|refine cd R ?hR ?_|refine cw R ?hR ?_
   case hR=>subst hR;exact⟨(au.newAt w4 _ _ (b:=w4.heap.size) rfl),zl⟩
   subst hR;rintro W5 ⟨qn,ag⟩;have Hn:=ar qn;clear qn x0 cM x1 cN x2 dh;obtain⟨Hx,x0,cM,x1,cN,x2,dh⟩:=bg Hx ag;obtain⟨Hy,y0,cG,y1,cH,y2,cO⟩:=bg Hy ag;replace Hr:=kB Hr ag;obtain⟨r0,aH,r1,aI,r2,aX,r3,iK,r4,jw⟩:=Hr.out.g5;obtain⟨n0,qT,n1,qU,n2,qV,n3,qW,n4,qX⟩:=Hn.out.g5;replace Hb:=az Hb ag;have hns:w.heap.size+1+1<w4.heap.size:=Gu.out.lt;refine bV (λw'=>aF w' (w.heap.size) 0 (aj p)/\aF w' (w.heap.size) 1 (ai a)/\aF w' (w.heap.size) 2 (ah g)/\aF w' (w.heap.size+1) 0 (aj false)/\aF w' (w.heap.size+1) 1 (.string (bs []))/\aF w' (w.heap.size+1) 2 (ah 0)/\aF w' (w4.heap.size) 0 (ah g)) (λi=>Nat.blt i 11) [(0,true),(1,true),(2,true),(4,true),(5,true),(6,true),(3,false),(8,true),(7,false),(9,false),(10,true),(11,false)] zk zk rfl zk zc ⟨x0,x1,x2,y0,y1,y2,n0⟩ ?_;iterate 6 (refine pT rfl rfl ?_ (by intro w' ⟨q0,q1,q2,q3,q4,q5,q6⟩;go_simp;try with_reducible rfl))
   refine aR rfl rfl (λK hK=>?_);go_simp;with_reducible refine(Fg p a g g X HX.out _ La.out Rt.out (by first|exact(hT.below Hb.out) |exact aM.drew (hT.below Hb.out) |exact aM.alloc (hT.below Hb.out) _|exact aM.drew (aM.alloc (hT.below Hb.out) _) |exact aM.alloc (aM.drew (hT.below Hb.out)) _)).mono ?_
   rintro e w6 ⟨rfl,hq⟩;have ag:Bw W5 w6:=by first|exact hq|exact bo hq
   obtain⟨Hx,x0,cM,x1,cN,x2,dh⟩:=bg Hx ag;obtain⟨Hy,y0,cG,y1,cH,y2,cO⟩:=bg Hy ag;replace Hr:=kB Hr ag;replace Hn:=kB Hn ag;obtain⟨r0,aH,r1,aI,r2,aX,r3,iK,r4,jw⟩:=Hr.out.g5;obtain⟨n0,qT,n1,qU,n2,qV,n3,qW,n4,qX⟩:=Hn.out.g5;replace Hb:=az Hb ag;refine hK _ _ (λ_=>⟨x0,x1,x2,y0,y1,y2,n0⟩) ?_
   refine pT rfl rfl ?_
   refine aR rfl rfl (λK hK=>?_);go_simp;with_reducible refine(Fg false [] 0 g Y HY.out _ Lb.out Ru.out (by first|exact(hT.below Hb.out) |exact aM.drew (hT.below Hb.out) |exact aM.alloc (hT.below Hb.out) _|exact aM.drew (aM.alloc (hT.below Hb.out) _) |exact aM.alloc (aM.drew (hT.below Hb.out)) _)).mono ?_
   rintro e w7 ⟨rfl,hq⟩;have ag:Bw w6 w7:=by first|exact hq|exact bo hq
   obtain⟨Hx,x0,cM,x1,cN,x2,dh⟩:=bg Hx ag;obtain⟨Hy,y0,cG,y1,cH,y2,cO⟩:=bg Hy ag;replace Hr:=kB Hr ag;replace Hn:=kB Hn ag;obtain⟨r0,aH,r1,aI,r2,aX,r3,iK,r4,jw⟩:=Hr.out.g5;obtain⟨n0,qT,n1,qU,n2,qV,n3,qW,n4,qX⟩:=Hn.out.g5;replace Hb:=az Hb ag;refine hK _ _ (λ_=>⟨x0,x1,x2,y0,y1,y2,n0⟩) ?_
   refine aR rfl rfl (λK hK=>?_);go_simp;refine hK _ _ (λ_=>⟨(aU zf (aU zf x0)),(aU zf (aU zf x1)),(aU zf (aU zf x2)),(aU zf (aU zf y0)),(aU zf (aU zf y1)),(aU zf (aU zf y2)),(aU zf (aU zf n0))⟩) ?_
   refine bZ (bY w7 (w4.heap.size) 1 [aj (aC X),ai (nt X.natAbs)]) cC ?_;intro w8 hs;replace Hx:=kS Hx hs zo;replace Hy:=kS Hy hs zo;replace Hr:=kS Hr hs zo;replace Hn:Hid (au w8 (w4.heap.size) 94 [ah g,aj (aC X),ai (nt X.natAbs),aj false,.string (bs [])]):=Ak Hn hs;obtain⟨x0,cM,x1,cN,x2,dh⟩:=Hx.out.g3;obtain⟨y0,cG,y1,cH,y2,cO⟩:=Hy.out.g3;obtain⟨r0,aH,r1,aI,r2,aX,r3,iK,r4,jw⟩:=Hr.out.g5;obtain⟨n0,qT,n1,qU,n2,qV,n3,qW,n4,qX⟩:=Hn.out.g5;replace Hb:=bS Hb hs ZS;clear hs;refine pT rfl rfl ?_
   refine aR rfl rfl (λK hK=>?_);go_simp;refine hK _ _ (λh=>absurd h zd) ?_
   refine bZ (bY w8 (w4.heap.size) 3 [aj (aC Y),ai (nt Y.natAbs)]) cC ?_;intro w9 hs;replace Hx:=kS Hx hs zo;replace Hy:=kS Hy hs zo;replace Hr:=kS Hr hs zo;replace Hn:Hid (au w9 (w4.heap.size) 94 [ah g,aj (aC X),ai (nt X.natAbs),aj (aC Y),ai (nt Y.natAbs)]):=Ak Hn hs;obtain⟨x0,cM,x1,cN,x2,dh⟩:=Hx.out.g3;obtain⟨y0,cG,y1,cH,y2,cO⟩:=Hy.out.g3;obtain⟨r0,aH,r1,aI,r2,aX,r3,iK,r4,jw⟩:=Hr.out.g5;obtain⟨n0,qT,n1,qU,n2,qV,n3,qW,n4,qX⟩:=Hn.out.g5;replace Hb:=bS Hb hs ZS;clear hs;simp only[bu];go_wp2;exact bodyPost_ret (v:=.agg #[ah g,aj (aC X),ai (nt X.natAbs),aj (aC Y),ai (nt Y.natAbs)]) (by simp[results,Tryz.results58,go_sem,r0,r1,r2,r3,r4]) rfl ⟨rfl,dH⟩
 . have z1:¬(bs b).toList=[]:=by rw[gX];exact nB h3
   have z2:¬(bs a).toList=[]:=by rw[gX];exact nA h1
   have z3:min i j=g:=h2.symm;clear zA zB nA nB pA pB h2;obtain⟨x0,cM,x1,cN,x2,dh⟩:=Hx.out.g3;obtain⟨y0,cG,y1,cH,y2,cO⟩:=Hy.out.g3;obtain⟨r0,aH,r1,aI,r2,aX,r3,iK,r4,jw⟩:=Hr.out.g5;have Am:=Hx.out.lt;have Xe:=Hy.out.lt;have Pm:=Hr.out.lt;go_wp2_with fail;obtain⟨R,hR⟩:∃R:World->Prop,(λW5=>au W5 (w4.heap.size) 94 [ah g,aj false,.string (bs []),aj false,.string (bs [])]/\Bw w4 W5)=R:=⟨_,rfl⟩;first|refine cd R ?hR ?_|refine cw R ?hR ?_
   case hR=>subst hR;exact⟨(au.newAt w4 _ _ (b:=w4.heap.size) rfl),zl⟩
   subst hR;rintro W5 ⟨qn,ag⟩;have Hn:=ar qn;clear qn x0 cM x1 cN x2 dh;obtain⟨Hx,x0,cM,x1,cN,x2,dh⟩:=bg Hx ag;obtain⟨Hy,y0,cG,y1,cH,y2,cO⟩:=bg Hy ag;replace Hr:=kB Hr ag;obtain⟨r0,aH,r1,aI,r2,aX,r3,iK,r4,jw⟩:=Hr.out.g5;obtain⟨n0,qT,n1,qU,n2,qV,n3,qW,n4,qX⟩:=Hn.out.g5;replace Hb:=az Hb ag;have hns:w.heap.size+1+1<w4.heap.size:=Gu.out.lt;refine bV (λw'=>aF w' (w.heap.size) 0 (aj p)/\aF w' (w.heap.size) 1 (ai a)/\aF w' (w.heap.size) 2 (ah i)/\aF w' (w.heap.size+1) 0 (aj q)/\aF w' (w.heap.size+1) 1 (ai b)/\aF w' (w.heap.size+1) 2 (ah j)/\aF w' (w4.heap.size) 0 (ah g)) (λi=>Nat.blt i 11) [(0,true),(1,true),(2,true),(4,true),(5,true),(6,true),(3,false),(8,true),(7,false),(9,false),(10,true),(11,false)] zk zk rfl zk zc ⟨x0,x1,x2,y0,y1,y2,n0⟩ ?_;iterate 6 (refine pT rfl rfl ?_ (by intro w' ⟨q0,q1,q2,q3,q4,q5,q6⟩;go_simp;try with_reducible rfl))
   refine aR rfl rfl (λK hK=>?_);go_simp;with_reducible refine(Fg p a i g X HX.out _ La.out Rt.out (by first|exact(hT.below Hb.out) |exact aM.drew (hT.below Hb.out) |exact aM.alloc (hT.below Hb.out) _|exact aM.drew (aM.alloc (hT.below Hb.out) _) |exact aM.alloc (aM.drew (hT.below Hb.out)) _)).mono ?_
   rintro e w6 ⟨rfl,hq⟩;have ag:Bw W5 w6:=by first|exact hq|exact bo hq
   obtain⟨Hx,x0,cM,x1,cN,x2,dh⟩:=bg Hx ag;obtain⟨Hy,y0,cG,y1,cH,y2,cO⟩:=bg Hy ag;replace Hr:=kB Hr ag;replace Hn:=kB Hn ag;obtain⟨r0,aH,r1,aI,r2,aX,r3,iK,r4,jw⟩:=Hr.out.g5;obtain⟨n0,qT,n1,qU,n2,qV,n3,qW,n4,qX⟩:=Hn.out.g5;replace Hb:=az Hb ag;refine hK _ _ (λ_=>⟨x0,x1,x2,y0,y1,y2,n0⟩) ?_
   refine pT rfl rfl ?_
   refine aR rfl rfl (λK hK=>?_);go_simp;with_reducible refine(Fg q b j g Y HY.out _ Lb.out Ru.out (by first|exact(hT.below Hb.out) |exact aM.drew (hT.below Hb.out) |exact aM.alloc (hT.below Hb.out) _|exact aM.drew (aM.alloc (hT.below Hb.out) _) |exact aM.alloc (aM.drew (hT.below Hb.out)) _)).mono ?_
   rintro e w7 ⟨rfl,hq⟩;have ag:Bw w6 w7:=by first|exact hq|exact bo hq
   obtain⟨Hx,x0,cM,x1,cN,x2,dh⟩:=bg Hx ag;obtain⟨Hy,y0,cG,y1,cH,y2,cO⟩:=bg Hy ag;replace Hr:=kB Hr ag;replace Hn:=kB Hn ag;obtain⟨r0,aH,r1,aI,r2,aX,r3,iK,r4,jw⟩:=Hr.out.g5;obtain⟨n0,qT,n1,qU,n2,qV,n3,qW,n4,qX⟩:=Hn.out.g5;replace Hb:=az Hb ag;refine hK _ _ (λ_=>⟨x0,x1,x2,y0,y1,y2,n0⟩) ?_
   refine aR rfl rfl (λK hK=>?_);go_simp;refine hK _ _ (λ_=>⟨(aU zf (aU zf x0)),(aU zf (aU zf x1)),(aU zf (aU zf x2)),(aU zf (aU zf y0)),(aU zf (aU zf y1)),(aU zf (aU zf y2)),(aU zf (aU zf n0))⟩) ?_
   refine bZ (bY w7 (w4.heap.size) 1 [aj (aC X),ai (nt X.natAbs)]) cC ?_;intro w8 hs;replace Hx:=kS Hx hs zo;replace Hy:=kS Hy hs zo;replace Hr:=kS Hr hs zo;replace Hn:Hid (au w8 (w4.heap.size) 94 [ah g,aj (aC X),ai (nt X.natAbs),aj false,.string (bs [])]):=Ak Hn hs;obtain⟨x0,cM,x1,cN,x2,dh⟩:=Hx.out.g3;obtain⟨y0,cG,y1,cH,y2,cO⟩:=Hy.out.g3;obtain⟨r0,aH,r1,aI,r2,aX,r3,iK,r4,jw⟩:=Hr.out.g5;obtain⟨n0,qT,n1,qU,n2,qV,n3,qW,n4,qX⟩:=Hn.out.g5;replace Hb:=bS Hb hs ZS;clear hs;refine pT rfl rfl ?_
   refine aR rfl rfl (λK hK=>?_);go_simp;refine hK _ _ (λh=>absurd h zd) ?_
   refine bZ (bY w8 (w4.heap.size) 3 [aj (aC Y),ai (nt Y.natAbs)]) cC ?_;intro w9 hs;replace Hx:=kS Hx hs zo;replace Hy:=kS Hy hs zo;replace Hr:=kS Hr hs zo;replace Hn:Hid (au w9 (w4.heap.size) 94 [ah g,aj (aC X),ai (nt X.natAbs),aj (aC Y),ai (nt Y.natAbs)]):=Ak Hn hs;obtain⟨x0,cM,x1,cN,x2,dh⟩:=Hx.out.g3;obtain⟨y0,cG,y1,cH,y2,cO⟩:=Hy.out.g3;obtain⟨r0,aH,r1,aI,r2,aX,r3,iK,r4,jw⟩:=Hr.out.g5;obtain⟨n0,qT,n1,qU,n2,qV,n3,qW,n4,qX⟩:=Hn.out.g5;replace Hb:=bS Hb hs ZS;clear hs;simp only[bu];go_wp2;exact bodyPost_ret (v:=.agg #[ah g,aj (aC X),ai (nt X.natAbs),aj (aC Y),ai (nt Y.natAbs)]) (by simp[results,Tryz.results58,go_sem,r0,r1,r2,r3,r4]) rfl ⟨rfl,dH⟩
def aod (X Y:Int)(n:Nat)(hX:(nt X.natAbs).length<=n)(hY:(nt Y.natAbs).length<=n):(nt (X+Y).natAbs).length<=n+1:=by have h1:=ib (nt X.natAbs);have h2:=ib (nt Y.natAbs);rw[jC]at h1 h2;have h3:=Nat.lt_of_lt_of_le h1 (Nat.pow_le_pow_right (show 0<256 by decide) hX);have h4:=Nat.lt_of_lt_of_le h2 (Nat.pow_le_pow_right (show 0<256 by decide) hY);refine kd ?_;rw[Nat.pow_succ];omega
def avL (X Y:Int)(m n:Nat)(hX:(nt X.natAbs).length<=m)(hY:(nt Y.natAbs).length<=n):(nt (X*Y).natAbs).length<=m+n:=by have h1:=ib (nt X.natAbs);have h2:=ib (nt Y.natAbs);rw[jC]at h1 h2;have h3:=Nat.lt_of_lt_of_le h1 (Nat.pow_le_pow_right (show 0<256 by decide) hX);have h4:=Nat.lt_of_lt_of_le h2 (Nat.pow_le_pow_right (show 0<256 by decide) hY);refine kd ?_;rw[Int.natAbs_mul,Nat.pow_add];exact Nat.mul_lt_mul'' h3 h4
def aix (v k:Int)(a b:Nat)(hv:v.natAbs<2^a)(hk:k<=b):(qj v k).natAbs<2^(a+b):=by
 have h0:v.natAbs<2^(a+b):=Nat.lt_of_lt_of_le hv (Nat.pow_le_pow_right zd zo);unfold qj;split
 . rw[Int.natAbs_mul,Int.natAbs_pow,Nat.pow_add];refine Nat.lt_of_le_of_lt (Nat.mul_le_mul_left _ (Nat.pow_le_pow_right zd (show k.toNat<=b by omega))) ?_;exact Nat.mul_lt_mul_of_pos_right hv (Nat.pow_pos zd)
 . have hp:(0:Int)<2^(-k).toNat:=by
    have:((2^(-k).toNat:Nat):Int)>0:=by have:=Nat.pow_pos (n:=(-k).toNat) (show 0<2 by decide);omega
    simpa[Int.natCast_pow]using this
   generalize (2:Int)^(-k).toNat=p at*;have:(v/p).natAbs<=v.natAbs:=by
    rcases Int.le_total 0 v with h|h
    . have h1:=Int.ediv_nonneg h (by omega:(0:Int)<=p);have h2:=Int.ediv_le_self p h;omega
    . have h1:v<=v/p:=by rw[Int.le_ediv_iff_mul_le hp];have:=Int.mul_le_mul_of_nonpos_left h (show(1:Int)<=p by omega);omega
      have h2:v/p<=0:=by have:=Int.ediv_le_ediv hp h;simpa using this
      omega
   omega
def auY {x y:Raw}(hx:Ok x)(hy:Ok y)(A B:Dyadic)(hA:aJ x=A)(hB:aJ y=B):∃g X Y,wh A B=g/\qj (dN A) (dE A-g)=X/\qj (dN B) (dE B-g)=Y/\A=Dyadic.ofIntWithPrec X (-g)/\B=Dyadic.ofIntWithPrec Y (-g)/\
 (nt X.natAbs).length<=17179869183/\(nt Y.natAbs).length<=17179869183/\ -1099511627776<=g/\g<=1099511627776:=by
 subst hA hB;obtain⟨M,hM,sx,sy⟩:∃M,M<=4294967296/\Sm M (aJ x)/\Sm M (aJ y):=⟨4294967296,Nat.le_refl _,hx.sm,hy.sm⟩;obtain⟨a1,a2,a3⟩:=sx.parts;obtain⟨b1,b2,b3⟩:=sy.parts;generalize aJ x=A at*;generalize aJ y=B at*;obtain⟨h1,h2⟩:=auX A B;have hg: -(M:Int)<=wh A B/\wh A B<=M:=by
  clear a1 b1;unfold wh;split
  . omega
  . split<;>omega
 refine⟨wh A B,_,_,rfl,rfl,rfl,ahP A _ h1,ahP B _ h2,?_,?_,?_,?_⟩
 . exact lM (aix _ _ _ (2*M) a1 (by clear a1 b1;omega)) zo
 . exact lM (aix _ _ _ (2*M) b1 (by clear a1 b1;omega)) zo
 . clear a1 b1;omega
 . clear a1 b1;omega
def bG (x:Raw):List Value:=[aj x.1,ai x.2.1,ah x.2.2]
def jQ :List Raw->Dyadic
 |[]=>0
 |x::xs=>aJ x+jQ xs
def aq1 (xs ys:List Raw):jQ (xs++ys)=jQ xs+jQ ys:=by
 induction xs with
 |nil=>simp only[List.nil_append,jQ];grind
 |cons x xs ih=>simp only[List.cons_append,jQ,ih];grind
def acM (xs:List Raw)(k:Nat)(hk:k<xs.length):jQ (xs.take (k+1))=jQ (xs.take k)+aJ xs[k]:=by rw[List.take_succ_eq_append_getElem hk,aq1];simp only[jQ];grind
def mr :List Raw->Dyadic
 |[]=>1
 |x::xs=>aJ x*mr xs
def aqX (xs ys:List Raw):mr (xs++ys)=mr xs*mr ys:=by
 induction xs with
 |nil=>simp only[List.nil_append,mr];grind
 |cons x xs ih=>simp only[List.cons_append,mr,ih];grind
def aqZ (xs:List Raw)(k:Nat)(hk:k<xs.length):mr (xs.take (k+1))=mr (xs.take k) *aJ xs[k]:=by rw[List.take_succ_eq_append_getElem hk,aqX];simp only[mr];grind
def aAd (X Y N:Int)(hN:X+Y=N)(b cap:Nat)(ty:TypeId)(w:World)(hl:(nt X.natAbs).length<=34359738368)(hm:(nt Y.natAbs).length<=34359738368)
 (ha:au w b ty [aj (aC X),ai (nt X.natAbs),aj (aC Y),ai (nt Y.natAbs)]):
 Cv 60 #[.slice (some ⟨b,0,none⟩) 2 cap] w (dO N):=by
 have:=ajq (aC X) (nt X.natAbs) (aC Y) (nt Y.natAbs) b cap ty w hl hm ha;rw[gK,gK,hN]at this;exact this
def ajt (s:Bool)(l:List UInt8)(t:Bool)(m:List UInt8)(N:Int)(hN:iv s l*iv t m=N)(b cap:Nat)(ty:TypeId)(w:World)(hl:l.length<=17179869184)(hm:m.length<=17179869184)
 (ha:au w b ty [aj s,ai l,aj t,ai m]):
 Cv 62 #[.slice (some ⟨b,0,none⟩) 2 cap] w (dO N):=by
 have:=aAh [(s,l),(t,m)] (some ⟨b,0,none⟩) cap w (by simp[rW];omega) zm (At.aFK ha);have e:iW [(s,l),(t,m)]=N:=by rw[<-hN];simp[iW]
 rw[e]at this;exact this
def aqp (xs:List Raw)(a:Option Addr)(cap:Nat)(w:World)(hl:∀x∈xs,Ok x)(hS:∀k,Ok (canon (jQ (xs.take k))))(hx:xs.length<=1048576)
 (ha:At w a (xs.flatMap bG)) (hT:aM w):
 Cv 18 #[.slice a xs.length cap] w (cK (jQ xs)):=by
 have Hl:=ar hl;clear hl;have HS:=ar hS;clear hS;have Ha:=ar ha;clear ha;have fH:=ar hT;clear hT;go_enter Tryz.func18,Tryz.ntmps18;have Hb:=hbz w;go_wp2_with fail;have q:=lQ w 48 [aj false,.string (bs []),ah 0] 48 [aj false,.string (bs []),ah 0];first|refine cd _ q ?_|refine cw _ q ?_
 clear q;rintro W ⟨Hr,Hs,ag⟩;obtain⟨r0,aH,r1,aI,r2,aX⟩:=Hr.out.g3;obtain⟨s0,gF,s1,gG,s2,lF⟩:=Hs.out.g3;replace Hb:=az Hb ag
 go_loopw[5,6,9] (λ_ _ i wr=>∃(k:Nat),k<=xs.length/\i=ah k/\au wr w.heap.size 48 [aj false,.string (bs []),ah 0]/\
  au wr (w.heap.size+1) 48 (bG (canon (jQ (xs.take k))))/\Bw w wr) (λ_ _ i _=>xs.length-(intOf i).toNat)
 case atStart=>exact⟨0,Nat.zero_le _,rfl,Hr.out,Hs.out,Hb.out⟩
 case round=>
  obtain⟨k,hk,rfl,qr,qs,hb⟩:=hrel;replace Hr:=ar qr;replace Hs:=ar qs;replace Hb:=ar hb;clear qr qs hb r0 r1 r2 aH aI aX s0 s1 s2 gF gG lF;by_cases hlt:k<xs.length
  . obtain ⟨b,o,hab,hcs⟩:=(Ha.out.below Hb.out).elem (f:=bG) (sz:=3) (fun _=>rfl) zd k hlt;have hc0:wr.cell? ⟨b,o+k*3,none⟩=some (aj xs[k].1):=hcs 0 zd;have hc1:wr.cell? ⟨b,o+k*3+1,none⟩=some (.string (bs xs[k].2.1)):=hcs 1 zd;have hc2:wr.cell? ⟨b,o+k*3+2,none⟩=some (ah xs[k].2.2):=hcs 2 zd;have bD:=kP xs.length cap k (k:Int) hab hlt rfl;have cn:=ar (acM xs k hlt);have mM:Hid (Ok xs[k]):=Hl.out _ (List.getElem_mem hlt);have iA:=ar (HS.out k);clear hcs hab;generalize xs[k]=x at*;obtain⟨t1,l1,e1⟩:=x;generalize hS:jQ (xs.take k)=S at*;clear hS;obtain⟨g,X,Y,hg,hX,hY,eA,eB,lX,lY,hg1,hg2⟩:=auY iA.out mM.out S (aJ (t1,l1,e1)) (cp S) rfl;obtain⟨N,hN⟩:=aK (X+Y);obtain⟨D,hD⟩:=aK (S+aJ (t1,l1,e1));have HD:Hid (aJ (aC N,nt N.natAbs,g)=D):=by
     show _=_
     rw[BH,<-hD,<-hN,<-Ay,<-eA,<-eB]
    have RB:Hid ((nt N.natAbs).length<=34359738368):=by show _<=_;rw[<-hN];exact Nat.le_trans (aod X Y _ lX lY) zd
    rw[hD]at cn;have LV:Hid (∀W,aM W->Cv 58 #[cK S,.agg #[aj t1,ai l1,ah e1]] W (.agg #[ah g,aj (aC X),ai (nt X.natAbs),aj (aC Y),ai (nt Y.natAbs)])):=λW hW=>
     auz _ _ _ t1 l1 e1 S (aJ (t1,l1,e1)) (cp S) rfl g X Y hg hX hY W iA.out mM.out hW
    have LX:Hid ((nt X.natAbs).length<=34359738368):=by show _<=_;omega
    have LY:Hid ((nt Y.natAbs).length<=34359738368):=by show _<=_;omega
    have Hg:Hid (-1099511627776<=g/\g<=1099511627776):=⟨hg1,hg2⟩;have HN:=ar hN;clear eA eB hg hX hY lX lY hN hD hg1 hg2 iA mM;unfold bG canon at Hs;simp only at Hs;obtain⟨r0,aH,r1,aI,r2,aX⟩:=Hr.out.g3;obtain⟨s0,gF,s1,gG,s2,lF⟩:=Hs.out.g3;have Kg:=Hr.out.lt;have Xc:=Hs.out.lt;go_wp2_with fail;obtain⟨R,hR⟩:∃R:World->Prop,(λW1=>au W1 (wr.heap.size) 48 [aj t1,ai l1,ah e1]/\Bw wr W1)=R:=⟨_,rfl⟩;first|refine cd R ?hR ?_|refine cw R ?hR ?_
    case hR=>subst hR;exact⟨(au.newAt wr _ _ (b:=wr.heap.size) rfl),zl⟩
    subst hR;rintro W1 ⟨qc,ag⟩;have Hc:=ar qc;clear qc r0 aH r1 aI r2 aX;obtain⟨Hr,r0,aH,r1,aI,r2,aX⟩:=bg Hr ag;obtain⟨Hs,s0,gF,s1,gG,s2,lF⟩:=bg Hs ag;obtain⟨c0,c1,c2⟩:=Hc.out.c3;replace Hb:=az Hb ag;have HT:=ar (fH.out.below Hb.out);go_wp2_with fail;refine(LV.out _ HT.out).mono ?_;rintro e w1 ⟨rfl,ag⟩;obtain⟨Hr,r0,aH,r1,aI,r2,aX⟩:=bg Hr ag;obtain⟨Hs,s0,gF,s1,gG,s2,lF⟩:=bg Hs ag;obtain⟨Hc,c0,c1,c2⟩:=cm Hc ag;replace Hb:=az Hb ag;have wm:=Hr.out.lt;have aEJ:=Hs.out.lt;have auZ:=Hc.out.lt;go_wp2_with fail;obtain⟨R,hR⟩:∃R:World->Prop,(λW2=>au W2 (w1.heap.size) 94 [ah g,aj (aC X),ai (nt X.natAbs),aj (aC Y),ai (nt Y.natAbs)]/\Bw w1 W2)=R:=⟨_,rfl⟩;first|refine cd R ?hR ?_|refine cw R ?hR ?_
    case hR=>subst hR;exact⟨(au.newAt w1 _ _ (b:=w1.heap.size) rfl),zl⟩
    subst hR;rintro W2 ⟨qp,ag⟩;have Hp:=ar qp;clear qp r0 aH r1 aI r2 aX;obtain⟨Hr,r0,aH,r1,aI,r2,aX⟩:=bg Hr ag;obtain⟨Hs,s0,gF,s1,gG,s2,lF⟩:=bg Hs ag;obtain⟨Hc,c0,c1,c2⟩:=cm Hc ag;obtain⟨p0,p1,p2,p3,p4⟩:=Hp.out.c5;replace Hb:=az Hb ag;refine bV (λw'=>aF w' (w1.heap.size) 0 (ah g)/\aF w' (w1.heap.size) 1 (aj (aC X))/\aF w' (w1.heap.size) 2 (ai (nt X.natAbs))/\aF w' (w1.heap.size) 3 (aj (aC Y))/\aF w' (w1.heap.size) 4 (ai (nt Y.natAbs))) (λi=>Nat.blt i 9) [(0,true),(1,true),(2,true),(3,true),(6,true),(7,true),(4,false),(5,false),(8,false),(9,false)] zk zk rfl zk zc ⟨p0,p1,p2,p3,p4⟩ ?_;iterate 6 (refine pT rfl rfl ?_ (by intro w' ⟨q0,q1,q2,q3,q4⟩;go_simp;try with_reducible rfl))
    refine aR rfl rfl (λK hK=>?_);go_simp;refine hK _ _ (λ_=>⟨aV p0,aV p1,aV p2,aV p3,aV p4⟩) ?_
    refine bZ (λW3=>au W3 (W2.heap.size) 46 [aj (aC X),ai (nt X.natAbs),aj (aC Y),ai (nt Y.natAbs)]/\Bw W2 W3) (by first|exact eo|exact eu) ?_;rintro W3 ⟨qv,ag⟩;have Kh:=Hr.out.lt;have avd:=Hs.out.lt;have Pk:=Hc.out.lt;have au8:=Hp.out.lt;replace Hr:=kB Hr ag;replace Hs:=kB Hs ag;replace Hc:=kB Hc ag;replace Hp:=kB Hp ag;have Hv:=ar qv;clear qv;obtain⟨r0,aH,r1,aI,r2,aX⟩:=Hr.out.g3;obtain⟨s0,gF,s1,gG,s2,lF⟩:=Hs.out.g3;obtain⟨c0,c1,c2⟩:=Hc.out.c3;obtain⟨p0,p1,p2,p3,p4⟩:=Hp.out.c5;obtain⟨v0,v1,v2,v3⟩:=Hv.out.c4;replace Hb:=az Hb ag;refine aR rfl rfl (λK hK=>?_);go_simp;with_reducible refine(aAd X Y N HN.out W2.heap.size 2 46 _ LX.out LY.out Hv.out).mono ?_
    rintro e w3 ⟨rfl,hq⟩;have ag:Bw W3 w3:=by first|exact hq|exact bo hq
    obtain⟨Hr,r0,aH,r1,aI,r2,aX⟩:=bg Hr ag;obtain⟨Hs,s0,gF,s1,gG,s2,lF⟩:=bg Hs ag;obtain⟨Hc,c0,c1,c2⟩:=cm Hc ag;replace Hp:=kB Hp ag;obtain⟨Hv,v0,v1,v2,v3⟩:=dZ Hv ag;obtain⟨p0,p1,p2,p3,p4⟩:=Hp.out.c5;replace Hb:=az Hb ag;refine hK _ _ (λ_=>⟨p0,p1,p2,p3,p4⟩) ?_
    refine aR rfl rfl (λK hK=>?_);go_simp;with_reducible refine(Ao (aC N) (nt N.natAbs) g D HD.out _ RB.out Hg.out (by first|exact(fH.out.below Hb.out) |exact aM.drew (fH.out.below Hb.out) |exact aM.alloc (fH.out.below Hb.out) _|exact aM.drew (aM.alloc (fH.out.below Hb.out) _) |exact aM.alloc (aM.drew (fH.out.below Hb.out)) _)).mono ?_
    rintro e w4 ⟨rfl,hq⟩;have ag:Bw w3 w4:=by first|exact hq|exact bo hq
    obtain⟨Hr,r0,aH,r1,aI,r2,aX⟩:=bg Hr ag;obtain⟨Hs,s0,gF,s1,gG,s2,lF⟩:=bg Hs ag;obtain⟨Hc,c0,c1,c2⟩:=cm Hc ag;replace Hp:=kB Hp ag;obtain⟨Hv,v0,v1,v2,v3⟩:=dZ Hv ag;obtain⟨p0,p1,p2,p3,p4⟩:=Hp.out.c5;replace Hb:=az Hb ag;refine hK _ _ (λ_=>⟨p0,p1,p2,p3,p4⟩) ?_
    refine aR rfl rfl (λK hK=>?_);go_simp;refine hK _ _ (λh=>absurd h zd) ?_
    refine bZ (bY w4 (w.heap.size+1) 0 [aj (aC (dN D)),ai (nt (dN D).natAbs),ah (dE D)]) cC ?_;intro w5 hs;replace Hr:=kS Hr hs zo;replace Hs:=dt Hs hs;replace Hc:=kS Hc hs zo;replace Hp:=kS Hp hs zo;replace Hv:=kS Hv hs zo;obtain⟨r0,aH,r1,aI,r2,aX⟩:=Hr.out.g3;obtain⟨s0,gF,s1,gG,s2,lF⟩:=Hs.out.g3;obtain⟨c0,c1,c2⟩:=Hc.out.c3;obtain⟨p0,p1,p2,p3,p4⟩:=Hp.out.c5;obtain⟨v0,v1,v2,v3⟩:=Hv.out.c4;replace Hb:=bS Hb hs ZS;clear hs;simp only[bu];go_wp2;go_roundw;case rel=>refine⟨k+1,by omega,by go_num,Hr.out,?_,Hb.out⟩;rw[cn.out];exact Hs.out
    case measure=>exact bI
  . obtain rfl:k=xs.length:=by omega
    rw[List.take_length]at Hs;unfold bG canon at Hs;simp only at Hs;obtain⟨r0,aH,r1,aI,r2,aX⟩:=Hr.out.g3;obtain⟨s0,gF,s1,gG,s2,lF⟩:=Hs.out.g3;go_wp2;exact bodyPost_ret (v:=cK (jQ xs)) (by simp[results,Tryz.results18,go_sem,r0,r1,r2]) rfl ⟨rfl,dH⟩
def Sm.one :Sm 1 1:=⟨2,by rfl,by decide⟩
def acL {B:Nat}(xs:List Raw)(h:∀x∈xs,Sm B (aJ x)):Sm (B+xs.length) (jQ xs):=by
 induction xs with
 |nil=>exact Sm.zero _
 |cons x xs ih=>have h1:=h x zm;have h2:=ih (λy hy=>h y (by simp[hy]));exact(Sm.add (h1.mono (by omega:B<=B+xs.length)) h2)
def aqY {B:Nat}(xs:List Raw)(h:∀x∈xs,Sm B (aJ x)):Sm (B*xs.length+1) (mr xs):=by
 induction xs with
 |nil=>exact Sm.one
 |cons x xs ih=>have h1:=h x zm;have h2:=ih (λy hy=>h y (by simp[hy]));have:=Sm.mul h1 h2;rw[show B* (x::xs).length+1=B+(B*xs.length+1)by rw[List.length_cons,Nat.mul_add];omega];exact this
def Fit (B:Nat)(x:Raw):Prop:=Ok x/\Sm B (aJ x)
def Fit.mono {A B:Nat}{x:Raw}(h:Fit A x)(Uo:A<=B):Fit B x:=⟨h.1,h.2.mono Uo⟩
def Sm.fit {B:Nat}{d:Dyadic}(h:Sm B d)(hB:B<=268435456):Fit B (canon d):=⟨h.ok hB,by rw[cp];exact h⟩
def acw (xs:List Raw)(B:Nat)(S:Dyadic)(hS:jQ xs=S)(a:Option Addr)(cap:Nat)(w:World)(hl:∀x∈xs,Fit B x)(hB:B+xs.length<=268435456)(hx:xs.length<=1048576)
 (ha:At w a (xs.flatMap bG)) (hT:aM w):
 Cv 18 #[.slice a xs.length cap] w (cK S):=by
 subst hS;refine aqp xs a cap w (λx h=>(hl x h).1) (λk=>?_) hx ha hT;refine Sm.ok (B:=B+xs.length) (Sm.mono (acL (B:=B) _ (λx h=>(hl x (List.mem_of_mem_take h)).2)) ?_) hB;rw[List.length_take];omega
def aqu (xs:List Raw)(a:Option Addr)(cap:Nat)(w:World)(hl:∀x∈xs,Ok x)(hS:∀k,Ok (canon (mr (xs.take k))))(hx:xs.length<=1048576)
 (ha:At w a (xs.flatMap bG)) (hT:aM w):
 Cv 20 #[.slice a xs.length cap] w (cK (mr xs)):=by
 have Hl:=ar hl;clear hl;have HS:=ar hS;clear hS;have Ha:=ar ha;clear ha;have fH:=ar hT;clear hT;obtain⟨I,hI⟩:∃I:Dyadic,1=I:=⟨_,rfl⟩;have HI:Hid (Dyadic.ofIntWithPrec 1 0=I):=by show _=_;rw[<-hI];rfl
 have HI1:=ar hI;clear hI;go_enter Tryz.func20,Tryz.ntmps20;have Hb:=hbz w;go_wp2_with fail;have q:=fK w 48 [aj false,.string (bs []),ah 0];first|refine cd _ q ?_|refine cw _ q ?_
 clear q;rintro W ⟨Hr,ag⟩;obtain⟨r0,aH,r1,aI,r2,aX⟩:=Hr.out.g3;replace Hb:=az Hb ag;have HT:=ar (fH.out.below Hb.out);go_wp2_with fail;refine(BB 1 I HI.out _ zo HT.out).mono ?_;rintro e w2 ⟨rfl,ag⟩;obtain⟨Hr,r0,aH,r1,aI,r2,aX⟩:=bg Hr ag;replace Hb:=az Hb ag;have wm:=Hr.out.lt;go_wp2_with fail;obtain⟨R,hR⟩:∃R:World->Prop,(λW2=>au W2 (w2.heap.size) 48 [aj (aC (dN I)),ai (nt (dN I).natAbs),ah (dE I)]/\Bw w2 W2)=R:=⟨_,rfl⟩;first|refine cd R ?hR ?_|refine cw R ?hR ?_
 case hR=>subst hR;exact⟨(au.newAt w2 _ _ (b:=w2.heap.size) rfl),zl⟩
 subst hR;rintro W2 ⟨qs,ag⟩;have Hs:=ar qs;clear qs r0 aH r1 aI r2 aX;obtain⟨Hr,r0,aH,r1,aI,r2,aX⟩:=bg Hr ag;obtain⟨s0,gF,s1,gG,s2,lF⟩:=Hs.out.g3;replace Hb:=az Hb ag
 go_loopw[5,9] (λ_ i wr=>∃(k:Nat),k<=xs.length/\i=ah k/\au wr w.heap.size 48 [aj false,.string (bs []),ah 0]/\
  au wr w2.heap.size 48 (bG (canon (mr (xs.take k))))/\Bw w wr) (λ_ i _=>xs.length-(intOf i).toNat)
 case atStart=>
  refine⟨0,Nat.zero_le _,rfl,Hr.out,?_,Hb.out⟩;have e:mr (xs.take 0)=I:=by rw[<-HI1.out];rfl
  rw[e];exact Hs.out
 case round=>
  obtain⟨k,hk,rfl,qr,qs,hb⟩:=hrel;replace Hr:=ar qr;replace Hs:=ar qs;replace Hb:=ar hb;clear qr qs hb r0 r1 r2 aH aI aX s0 s1 s2 gF gG lF HT;by_cases hlt:k<xs.length
  . obtain ⟨b,o,hab,hcs⟩:=(Ha.out.below Hb.out).elem (f:=bG) (sz:=3) (fun _=>rfl) zd k hlt;have hc0:wr.cell? ⟨b,o+k*3,none⟩=some (aj xs[k].1):=hcs 0 zd;have hc1:wr.cell? ⟨b,o+k*3+1,none⟩=some (.string (bs xs[k].2.1)):=hcs 1 zd;have hc2:wr.cell? ⟨b,o+k*3+2,none⟩=some (ah xs[k].2.2):=hcs 2 zd;have bD:=kP xs.length cap k (k:Int) hab hlt rfl;have cn:=ar (aqZ xs k hlt);have mM:Hid (Ok xs[k]):=Hl.out _ (List.getElem_mem hlt);have iA:=ar (HS.out k);clear hcs hab;generalize xs[k]=x at*;obtain⟨t1,l1,e1⟩:=x;generalize hS:mr (xs.take k)=S at*;clear hS;obtain⟨N,hN⟩:=aK (dN S*iv t1 l1);obtain⟨D,hD⟩:=aK (S*aJ (t1,l1,e1));obtain⟨g,hg⟩:=aK (dE S+e1);have HD:Hid (aJ (aC N,nt N.natAbs,g)=D):=by
     show _=_
     rw[BH,<-hD,<-hN];conv=>rhs;rw[uV S]
     unfold aJ;rw[wz];congr 1;simp only;omega
    have o1:=iA.out.exp;have o2:=mM.out.exp;have o3:=iA.out.len;have o4:=mM.out.len;have RB:Hid ((nt N.natAbs).length<=34359738368):=by
     show _<=_
     have h2:=Kj t1 l1 268435456 o4;rw[Int.natAbs_neg]at h2;rw[<-hN];exact Nat.le_trans (avL (dN S) (iv t1 l1) _ _ o3 h2) zd
    rw[hD]at cn;have LX:Hid ((nt (dN S).natAbs).length<=17179869184):=by show _<=_;omega
    have LY:Hid (l1.length<=17179869184):=by show _<=_;omega
    have Hg:Hid (-1099511627776<=g/\g<=1099511627776):=by show _/\_;omega
    have hwg:IntKind.i64.wrap (dE S+e1)=g:=by rw[IntKind.wrap_i64];omega
    have HN:Hid (iv (aC (dN S)) (nt (dN S).natAbs) *iv t1 l1=N):=by show _=_;rw[gK];exact hN
    clear hg hN hD iA mM o1 o2 o3 o4;unfold bG canon at Hs;simp only at Hs;have hrs:w.heap.size<w2.heap.size:=wm;obtain⟨r0,aH,r1,aI,r2,aX⟩:=Hr.out.g3;obtain⟨s0,gF,s1,gG,s2,lF⟩:=Hs.out.g3;have Kg:=Hr.out.lt;have Xc:=Hs.out.lt;go_wp2_with fail;obtain⟨R,hR⟩:∃R:World->Prop,(λW1=>au W1 (wr.heap.size) 48 [aj t1,ai l1,ah e1]/\Bw wr W1)=R:=⟨_,rfl⟩;first|refine cd R ?hR ?_|refine cw R ?hR ?_
    case hR=>subst hR;exact⟨(au.newAt wr _ _ (b:=wr.heap.size) rfl),zl⟩
    subst hR;rintro W1 ⟨qc,ag⟩;have Hc:=ar qc;clear qc r0 aH r1 aI r2 aX;obtain⟨Hr,r0,aH,r1,aI,r2,aX⟩:=bg Hr ag;obtain⟨Hs,s0,gF,s1,gG,s2,lF⟩:=bg Hs ag;obtain⟨c0,c1,c2⟩:=Hc.out.c3;replace Hb:=az Hb ag;refine bV (λw'=>aF w' (wr.heap.size) 0 (aj t1)/\aF w' (wr.heap.size) 1 (ai l1)/\aF w' (wr.heap.size) 2 (ah e1)/\aF w' (w2.heap.size) 0 (aj (aC (dN S)))/\aF w' (w2.heap.size) 1 (ai (nt (dN S).natAbs))/\aF w' (w2.heap.size) 2 (ah (dE S))) (λi=>Nat.blt i 12) [(0,true),(1,true),(2,true),(3,true),(6,true),(7,true),(8,true),(9,true),(10,true),(4,false),(5,false),(11,false),(12,false)] zk zk rfl zk zc ⟨c0,c1,c2,s0,s1,s2⟩ ?_;iterate 9 (refine pT rfl rfl ?_ (by intro w' ⟨q0,q1,q2,q3,q4,q5⟩;go_simp;try with_reducible rfl))
    refine aR rfl rfl (λK hK=>?_);go_simp;refine hK _ _ (λ_=>⟨aV c0,aV c1,aV c2,aV s0,aV s1,aV s2⟩) ?_
    refine bZ (λW3=>au W3 (W1.heap.size) 46 [aj (aC (dN S)),ai (nt (dN S).natAbs),aj t1,ai l1]/\Bw W1 W3) (by first|exact eo|exact eu) ?_;rintro W3 ⟨qv,ag⟩;have Kh:=Hr.out.lt;have avd:=Hs.out.lt;have Pk:=Hc.out.lt;replace Hr:=kB Hr ag;replace Hs:=kB Hs ag;replace Hc:=kB Hc ag;have Hv:=ar qv;clear qv;obtain⟨r0,aH,r1,aI,r2,aX⟩:=Hr.out.g3;obtain⟨s0,gF,s1,gG,s2,lF⟩:=Hs.out.g3;obtain⟨c0,c1,c2⟩:=Hc.out.c3;obtain⟨v0,v1,v2,v3⟩:=Hv.out.c4;replace Hb:=az Hb ag;refine aR rfl rfl (λK hK=>?_);go_simp;with_reducible refine(ajt (aC (dN S)) (nt (dN S).natAbs) t1 l1 N HN.out W1.heap.size 2 46 _ LX.out LY.out Hv.out).mono ?_
    rintro e w3 ⟨rfl,hq⟩;have ag:Bw W3 w3:=by first|exact hq|exact bo hq
    obtain⟨Hr,r0,aH,r1,aI,r2,aX⟩:=bg Hr ag;obtain⟨Hs,s0,gF,s1,gG,s2,lF⟩:=bg Hs ag;obtain⟨Hc,c0,c1,c2⟩:=cm Hc ag;obtain⟨Hv,v0,v1,v2,v3⟩:=dZ Hv ag;replace Hb:=az Hb ag;refine hK _ _ (λ_=>⟨c0,c1,c2,s0,s1,s2⟩) ?_
    refine aR rfl rfl (λK hK=>?_);go_simp;with_reducible refine(Ao (aC N) (nt N.natAbs) g D HD.out _ RB.out Hg.out (by first|exact(fH.out.below Hb.out) |exact aM.drew (fH.out.below Hb.out) |exact aM.alloc (fH.out.below Hb.out) _|exact aM.drew (aM.alloc (fH.out.below Hb.out) _) |exact aM.alloc (aM.drew (fH.out.below Hb.out)) _)).mono ?_
    rintro e w4 ⟨rfl,hq⟩;have ag:Bw w3 w4:=by first|exact hq|exact bo hq
    obtain⟨Hr,r0,aH,r1,aI,r2,aX⟩:=bg Hr ag;obtain⟨Hs,s0,gF,s1,gG,s2,lF⟩:=bg Hs ag;obtain⟨Hc,c0,c1,c2⟩:=cm Hc ag;obtain⟨Hv,v0,v1,v2,v3⟩:=dZ Hv ag;replace Hb:=az Hb ag;refine hK _ _ (λ_=>⟨c0,c1,c2,s0,s1,s2⟩) ?_
    refine aR rfl rfl (λK hK=>?_);go_simp;refine hK _ _ (λh=>absurd h zd) ?_
    refine bZ (bY w4 (w2.heap.size) 0 [aj (aC (dN D)),ai (nt (dN D).natAbs),ah (dE D)]) cC ?_;intro w5 hs;replace Hr:=kS Hr hs zo;replace Hs:=dt Hs hs;replace Hc:=kS Hc hs zo;replace Hv:=kS Hv hs zo;obtain⟨r0,aH,r1,aI,r2,aX⟩:=Hr.out.g3;obtain⟨s0,gF,s1,gG,s2,lF⟩:=Hs.out.g3;obtain⟨c0,c1,c2⟩:=Hc.out.c3;obtain⟨v0,v1,v2,v3⟩:=Hv.out.c4;replace Hb:=bS Hb hs ZS;clear hs;simp only[bu];go_wp2;go_roundw;case rel=>refine⟨k+1,by omega,by go_num,Hr.out,?_,Hb.out⟩;rw[cn.out];exact Hs.out
    case measure=>exact bI
  . obtain rfl:k=xs.length:=by omega
    rw[List.take_length]at Hs;unfold bG canon at Hs;simp only at Hs;obtain⟨r0,aH,r1,aI,r2,aX⟩:=Hr.out.g3;obtain⟨s0,gF,s1,gG,s2,lF⟩:=Hs.out.g3;go_wp2;exact bodyPost_ret (v:=cK (mr xs)) (by simp[results,Tryz.results20,go_sem,r0,r1,r2]) rfl ⟨rfl,dH⟩
def aqv (xs:List Raw)(B:Nat)(S:Dyadic)(hS:mr xs=S)(a:Option Addr)(cap:Nat)(w:World)(hl:∀x∈xs,Fit B x)(hB:B*xs.length+1<=268435456)(hx:xs.length<=1048576)
 (ha:At w a (xs.flatMap bG)) (hT:aM w):
 Cv 20 #[.slice a xs.length cap] w (cK S):=by
 subst hS;refine aqu xs a cap w (λx h=>(hl x h).1) (λk=>?_) hx ha hT;refine Sm.ok (B:=B*xs.length+1) (Sm.mono (aqY (B:=B) _ (λx h=>(hl x (List.mem_of_mem_take h)).2)) ?_) hB;rw[List.length_take];have:B*min k xs.length<=B*xs.length:=Nat.mul_le_mul_left _ zo;omega
def DW (s:Bool)(l:List UInt8)(e:Int)(t:Bool)(m:List UInt8)(f:Int)(S:Dyadic)(B:Nat)(hS:aJ (s,l,e)+aJ (t,m,f)=S)(b cap:Nat)(ty:TypeId)(w:World)(hx:Fit B (s,l,e))(hy:Fit B (t,m,f))(hB:B+2<=268435456)
 (ha:au w b ty [aj s,ai l,ah e,aj t,ai m,ah f]) (hT:aM w):
 Cv 18 #[.slice (some ⟨b,0,none⟩) 2 cap] w (cK S):=
 acw [(s,l,e),(t,m,f)] B S (by rw[<-hS];simp only[jQ];grind) _ cap w (by intro x h;simp at h;rcases h with rfl|rfl;exact hx;exact hy) hB zm (At.aFK ha) hT
def xy (s:Bool)(l:List UInt8)(e:Int)(t:Bool)(m:List UInt8)(f:Int)(S:Dyadic)(B:Nat)(hS:aJ (s,l,e) *aJ (t,m,f)=S)(b cap:Nat)(ty:TypeId)(w:World)(hx:Fit B (s,l,e))(hy:Fit B (t,m,f))(hB:2*B+1<=268435456)
 (ha:au w b ty [aj s,ai l,ah e,aj t,ai m,ah f]) (hT:aM w):
 Cv 20 #[.slice (some ⟨b,0,none⟩) 2 cap] w (cK S):=
 aqv [(s,l,e),(t,m,f)] B S (by rw[<-hS];simp only[mr];grind) _ cap w (by intro x h;simp at h;rcases h with rfl|rfl;exact hx;exact hy) zi zm (At.aFK ha) hT
def TL (s:Bool)(l:List UInt8)(e:Int)(t:Bool)(m:List UInt8)(f:Int)(S:Dyadic)(B:Nat)(hS:aJ (s,l,e)-aJ (t,m,f)=S)(w:World)(hx:Fit B (s,l,e))(hy:Fit B (t,m,f))(hB:B+2<=268435456)(hT:aM w):
 Cv 29 #[.agg #[aj s,ai l,ah e],.agg #[aj t,ai m,ah f]] w (cK S):=by
 obtain⟨D,hD⟩:=aK (-aJ (t,m,f));have Hn:Hid (Fit B (aC (dN D),nt (dN D).natAbs,dE D)):=by rw[<-hD];exact(hy.2.neg).fit zo
 have HS:Hid (aJ (s,l,e)+aJ (aC (dN D),nt (dN D).natAbs,dE D)=S):=by show _+aJ (canon D)=_;rw[cp,<-hD,<-hS];grind
 obtain⟨Hyo,HD,vF,vG⟩:=ej hy.1 hD hx hy;clear hD hx hy hS;go_enter Tryz.func29,Tryz.ntmps29;have Hb:=hbz w;go_wp2_with fail;have q:=uU w 48 [aj s,ai l,ah e] 48 [aj t,ai m,ah f] 48 [aj false,.string (bs []),ah 0];first|refine cd _ q ?_|refine cw _ q ?_
 clear q;rintro W ⟨Hx,Hy,Hr,ag⟩;obtain⟨x0,x1,x2⟩:=Hx.out.c3;obtain⟨y0,y1,y2⟩:=Hy.out.c3;obtain⟨r0,aH,r1,aI,r2,aX⟩:=Hr.out.g3;replace Hb:=az Hb ag;refine bV (λw'=>aF w' (w.heap.size) 0 (aj s)/\aF w' (w.heap.size) 1 (ai l)/\aF w' (w.heap.size) 2 (ah e)/\aF w' (w.heap.size+1) 0 (aj t)/\aF w' (w.heap.size+1) 1 (ai m)/\aF w' (w.heap.size+1) 2 (ah f)) (λi=>Nat.blt i 5) [(0,true),(1,true),(2,false),(3,false),(4,false),(5,false)] zk zk rfl zk zc ⟨x0,x1,x2,y0,y1,y2⟩ ?_;iterate 2 (refine pT rfl rfl ?_ (by intro w' ⟨q0,q1,q2,q3,q4,q5⟩;go_simp;try with_reducible rfl))
 refine aR rfl rfl (λK hK=>?_);go_simp;with_reducible refine(TK t m f D HD.out _ Hyo.out (by first|exact(hT.below Hb.out) |exact aM.drew (hT.below Hb.out) |exact aM.alloc (hT.below Hb.out) _|exact aM.drew (aM.alloc (hT.below Hb.out) _) |exact aM.alloc (aM.drew (hT.below Hb.out)) _)).mono ?_
 rintro e w1 ⟨rfl,hq⟩;have ag:Bw W w1:=by first|exact hq|exact bo hq
 obtain⟨Hx,x0,x1,x2⟩:=cm Hx ag;obtain⟨Hy,y0,y1,y2⟩:=cm Hy ag;obtain⟨Hr,r0,aH,r1,aI,r2,aX⟩:=bg Hr ag;replace Hb:=az Hb ag;refine hK _ _ (λ_=>⟨x0,x1,x2,y0,y1,y2⟩) ?_
 refine aR rfl rfl (λK hK=>?_);go_simp;refine hK _ _ (λ_=>⟨aV x0,aV x1,aV x2,aV y0,aV y1,aV y2⟩) ?_
 refine bZ (λW1=>au W1 (w1.heap.size) 48 [aj s,ai l,ah e,aj (aC (dN D)),ai (nt (dN D).natAbs),ah (dE D)]/\Bw w1 W1) (by first|exact eo|exact eu) ?_;rintro W1 ⟨qv,ag⟩;have avh:=Hx.out.lt;have avk:=Hy.out.lt;have Kg:=Hr.out.lt;replace Hx:=kB Hx ag;replace Hy:=kB Hy ag;replace Hr:=kB Hr ag;have Hv:=ar qv;clear qv;obtain⟨x0,x1,x2⟩:=Hx.out.c3;obtain⟨y0,y1,y2⟩:=Hy.out.c3;obtain⟨r0,aH,r1,aI,r2,aX⟩:=Hr.out.g3;obtain⟨v0,v1,v2,v3,v4,v5⟩:=Hv.out.c6;replace Hb:=az Hb ag;refine aR rfl rfl (λK hK=>?_);go_simp;with_reducible refine(DW s l e (aC (dN D)) (nt (dN D).natAbs) (dE D) S B HS.out w1.heap.size 2 48 _ vF.out Hn.out hB Hv.out (by first|exact(hT.below Hb.out) |exact aM.drew (hT.below Hb.out) |exact aM.alloc (hT.below Hb.out) _|exact aM.drew (aM.alloc (hT.below Hb.out) _) |exact aM.alloc (aM.drew (hT.below Hb.out)) _)).mono ?_
 rintro e w2 ⟨rfl,hq⟩;have ag:Bw W1 w2:=by first|exact hq|exact bo hq
 obtain⟨Hx,x0,x1,x2⟩:=cm Hx ag;obtain⟨Hy,y0,y1,y2⟩:=cm Hy ag;obtain⟨Hr,r0,aH,r1,aI,r2,aX⟩:=bg Hr ag;obtain⟨Hv,v0,v1,v2,v3,v4,v5⟩:=kR Hv ag;replace Hb:=az Hb ag;refine hK _ _ (λ_=>⟨x0,x1,x2,y0,y1,y2⟩) ?_
 refine aR rfl rfl (λK hK=>?_);go_simp;refine hK _ _ (λh=>absurd h zd) ?_
 refine bZ (bY w2 (w.heap.size+1+1) 0 [aj (aC (dN S)),ai (nt (dN S).natAbs),ah (dE S)]) cC ?_;intro w3 hs;replace Hx:=kS Hx hs zo;replace Hy:=kS Hy hs zo;replace Hr:=dt Hr hs;replace Hv:=kS Hv hs zo;obtain⟨x0,x1,x2⟩:=Hx.out.c3;obtain⟨y0,y1,y2⟩:=Hy.out.c3;obtain⟨r0,aH,r1,aI,r2,aX⟩:=Hr.out.g3;obtain⟨v0,v1,v2,v3,v4,v5⟩:=Hv.out.c6;replace Hb:=bS Hb hs ZS;clear hs;simp only[bu];go_wp2;exact bodyPost_ret (v:=cK S) (by simp[results,Tryz.results29,go_sem,r0,r1,r2]) rfl ⟨rfl,dH⟩
def acv (s:Bool)(l:List UInt8)(e:Int)(D:Dyadic)(hD:(if eG (aJ (s,l,e))<0 then-aJ (s,l,e)else aJ (s,l,e))=D)(w:World)(hx:Ok (s,l,e))(hT:aM w):
 Cv 26 #[.agg #[aj s,ai l,ah e]] w (cK D):=by
 obtain⟨u,hu⟩:=aK (eG (aJ (s,l,e)));have vF:=ar hx;clear hx;have Hu:=ar hu;rw[hu]at hD;clear hu;by_cases h:u<0
 . rw[if_pos h]at hD;have HD:=ar hD;clear hD;go_enter Tryz.func26,Tryz.ntmps26;have Hb:=hbz w;go_wp2_with fail;have q:=lQ w 48 [aj s,ai l,ah e] 48 [aj false,.string (bs []),ah 0];first|refine cd _ q ?_|refine cw _ q ?_
   clear q;rintro W ⟨Hx,Hr,ag⟩;obtain⟨x0,x1,x2⟩:=Hx.out.c3;obtain⟨r0,aH,r1,aI,r2,aX⟩:=Hr.out.g3;replace Hb:=az Hb ag;go_wp2_with fail;refine(vK s l e u Hu.out _ vF.out).mono ?_;rintro e w1 ⟨rfl,ag⟩;obtain⟨Hx,x0,x1,x2⟩:=cm Hx ag;obtain⟨Hr,r0,aH,r1,aI,r2,aX⟩:=bg Hr ag;replace Hb:=az Hb ag;have HT:=ar (hT.below Hb.out);go_wp2_with fail;refine(TK s l e D HD.out _ vF.out HT.out).mono ?_;rintro e w2 ⟨rfl,ag⟩;obtain⟨Hx,x0,x1,x2⟩:=cm Hx ag;obtain⟨Hr,r0,aH,r1,aI,r2,aX⟩:=bg Hr ag;replace Hb:=az Hb ag;go_wp2;exact bodyPost_ret (v:=cK D) (by simp[results,Tryz.results26,go_sem,r0,r1,r2]) rfl ⟨rfl,dH⟩
 . rw[if_neg h]at hD;have HD:=ar hD;clear hD;have h2:0<=u:=by omega
   go_enter Tryz.func26,Tryz.ntmps26;have Hb:=hbz w;go_wp2_with fail;have q:=lQ w 48 [aj s,ai l,ah e] 48 [aj false,.string (bs []),ah 0];first|refine cd _ q ?_|refine cw _ q ?_
   clear q;rintro W ⟨Hx,Hr,ag⟩;obtain⟨x0,x1,x2⟩:=Hx.out.c3;obtain⟨r0,aH,r1,aI,r2,aX⟩:=Hr.out.g3;replace Hb:=az Hb ag;go_wp2_with fail;refine(vK s l e u Hu.out _ vF.out).mono ?_;rintro e w1 ⟨rfl,ag⟩;obtain⟨Hx,x0,x1,x2⟩:=cm Hx ag;obtain⟨Hr,r0,aH,r1,aI,r2,aX⟩:=bg Hr ag;replace Hb:=az Hb ag;have HT:=ar (hT.below Hb.out);go_wp2_with fail;refine(sM s l e D HD.out _ vF.out HT.out).mono ?_;rintro e w2 ⟨rfl,ag⟩;obtain⟨Hx,x0,x1,x2⟩:=cm Hx ag;obtain⟨Hr,r0,aH,r1,aI,r2,aX⟩:=bg Hr ag;replace Hb:=az Hb ag;go_wp2;exact bodyPost_ret (v:=cK D) (by simp[results,Tryz.results26,go_sem,r0,r1,r2]) rfl ⟨rfl,dH⟩
end Go.Proofs.YtnjfebkelecgaaaGreatDoor
namespace Go.Proofs.YtnjfebkelecgaaaGreatDoor
def awD (n k:Int):Dyadic.ofIntWithPrec n k<0↔n<0:=by
 rw[<-Dyadic.toRat_lt_toRat_iff,Dyadic.toRat_ofIntWithPrec_eq_mul_two_pow,Dyadic.toRat_zero];have h2:(0:Rat)<2^(-k):=Rat.zpow_pos zd;constructor
 . intro h;by_cases h3:n<0
   . exact h3
   . exfalso
     have h4:(0:Rat)<=(n:Rat):=by exact_mod_cast Int.not_lt.1 h3
     have h5:=Rat.mul_nonneg h4 (Rat.le_of_lt h2);grind
 . intro h;have h4:(n:Rat)<0:=by exact_mod_cast h
   have:=Rat.mul_lt_mul_of_pos_right h4 h2;grind
def Ik (X:Dyadic):eG X<0↔X<0:=by
 conv=>rhs;rw[uV X]
 rw[awD];unfold eG gh;split
 . rename_i h;simp[h]
 . rename_i h
   split<;>simp<;>omega
def aq0 (X:Dyadic):eG X=0↔X=0:=by
 constructor
 . intro h;have h1:dN X=0:=by
    unfold eG gh at h;by_cases h1:dN X<0
    . rw[if_pos h1]at h;cases h
    . rw[if_neg h1]at h;by_cases h2:dN X=0
      . exact h2
      . rw[if_neg h2]at h;cases h
   have h2:=uV X;rw[h1,uW]at h2;exact h2
 . rintro rfl;rfl
def gL (X:Dyadic):Dyadic:=Dyadic.ofIntWithPrec (eG X) 0
def Yh (X:Dyadic):gL X=if X<0 then-1 else if X=0 then 0 else 1:=by
 unfold gL;have h1:=Ik X;have h2:=aq0 X;have h3:eG X= -1\/eG X=0\/eG X=1:=by
  unfold eG gh;split
  . exact .inl rfl
  . split
    . exact .inr (.inl rfl)
    . exact .inr (.inr rfl)
 rcases h3 with h|h|h
 . rw[if_pos (h1.1 zo),h];rfl
 . rw[if_neg (λh4=>by have:=h1.2 h4;omega),if_pos (h2.1 h),h];rfl
 . rw[if_neg (λh4=>by have:=h1.2 h4;omega),if_neg (λh4=>by have:=h2.2 h4;omega),h];rfl
def oZ (n:Nat)(p:Nat->Nat->Dyadic)(x:Nat->Dyadic)(k:Nat):Dyadic:=gL (dz n p) *dz n (vq p k x)
def nJ (e:Nat->Nat->Dyadic)(r c:Nat):Nat->Nat->Dyadic:=λa b=>e (if a<r then a else a+1) (if b<c then b else b+1)
def Fa (n:Nat)(e:Nat->Nat->Dyadic)(y:Nat->Dyadic)(i:Nat):Nat->Dyadic
 |0=>0
 |k+1=>Fa n e y i k+y k* (if(k+i)%2=1 then-eU (n-1) (nJ e i k)else eU (n-1) (nJ e i k))
def aut (n:Nat)(hn:1<=n)(cV:n<=4)(e:Nat->Nat->Dyadic)(y:Nat->Dyadic)(i:Nat)(hi:i<n):Fa n e y i n=eU n λa b=>if a=i then y b else e a b:=by
 have hc:(n=1/\i=0)\/(n=2/\i=0)\/(n=2/\i=1)\/(n=3/\i=0)\/(n=3/\i=1)\/(n=3/\i=2)\/(n=4/\i=0)\/(n=4/\i=1)\/(n=4/\i=2)\/(n=4/\i=3):=by omega
 rcases hc with⟨rfl,rfl⟩ |⟨rfl,rfl⟩ |⟨rfl,rfl⟩ |⟨rfl,rfl⟩ |⟨rfl,rfl⟩ |⟨rfl,rfl⟩ |⟨rfl,rfl⟩ |⟨rfl,rfl⟩ |⟨rfl,rfl⟩ |⟨rfl,rfl⟩<;>(simp[Fa,eU,nJ];try grind)
def acN (n:Nat)(p:Nat->Nat->Dyadic)(x:Nat->Dyadic)(i:Nat):dz n (vq p (i+1) x)=eU n λa b=>if a=i then x b-p 0 b else p (a+1) b-p 0 b:=by
 unfold dz vq;congr 1;funext a b
 by_cases h:a=i
 . rw[if_pos h,if_pos zo,if_neg zo]
 . rw[if_neg h,if_neg zo,if_neg zo]
def dM (f:Nat->Dyadic):Nat->Dyadic
 |0=>0
 |k+1=>dM f k+f k
def YT (n:Nat)(hn:1<=n)(cV:n<=4)(p:Nat->Nat->Dyadic)(x:Nat->Dyadic):dz n (vq p 0 x)=dz n p-dM (λi=>dz n (vq p (i+1) x)) n:=by
 have hc:n=1\/n=2\/n=3\/n=4:=by omega
 rcases hc with rfl|rfl|rfl|rfl<;>(simp[dM,dz,eU,vq];grind)
end Go.Proofs.YtnjfebkelecgaaaGreatDoor
namespace Go.Proofs.YtnjfebkelecgaaaGreatDoor
open Go.RowKit
attribute [local go_sem ↓] Go.wp_at_zero Go.wp_at_succ
def eQ (l:List UInt8)(v:Int):Bool:=(l.all λc=>decide (c.toNat<=127))&&decide ((l.length:Int)=v)
def Fe (l:List UInt8)(v:Int)(w:World)(hl:l.length<=9223372036854775807):
 Cv 85 #[ai l,ah v] w (aj (eQ l v)):=by
 obtain⟨n,hn⟩:=aK l.length;have hsz:(bs l).size=n:=by rw[iH,hn]
 obtain⟨M,hM⟩:=aK (eQ l v);rw[hM];obtain⟨HM,Hn⟩:=aZ hM hn;rw[hn]at hl;clear hM hn;go_enter Tryz.func85,Tryz.ntmps85;have Hb:=hbz w;go_wp2_with fail;go_loopw[8] (λx wr=>∃k:Nat,k<=n/\x=ah (k:Int)/\((l.take k).all λc=>decide (c.toNat<=127))=true/\Bw w wr) (λx _=>n-(intOf x).toNat);case atStart=>exact⟨0,Nat.zero_le _,rfl,rfl,Hb.out⟩
 case round=>
  clear Hb;obtain⟨k,hk,rfl,hall,pb⟩:=hrel;obtain⟨pn,Hb⟩:=aZ hall pb;clear hall pb;by_cases hlt:k<n
  . have hk2:k<l.length:=by rw[Hn.out];exact hlt
    have ix:=uO l (k:Int) k hk2 rfl;obtain⟨c,hc⟩:∃c:Nat,(l[k]).toNat=c:=⟨_,rfl⟩;rw[hc]at ix;by_cases h1:127<c
    . have h2:(127:Int)<(c:Int):=by omega
      have lJ:M=false:=by
       rw[<-HM.out];unfold eQ;have:(l.all λc=>decide (c.toNat<=127))=false:=by rw[List.all_eq_false];exact⟨l[k],List.getElem_mem hk2,by simp;omega⟩
       rw[this];rfl
      subst lJ;go_wp2;exact bodyPost_ret (v:=aj false) (by simp[results,Tryz.results85,go_sem]) rfl ⟨rfl,dH⟩
    . have h2:¬(127:Int)<(c:Int):=by omega
      have cn:Hid (((l.take (k+1)).all λc=>decide (c.toNat<=127))=true):=by
       show _=_
       rw[List.take_succ_eq_append_getElem hk2,List.all_append,pn.out];simp;omega
      clear hc;go_wp2;go_roundw;case rel=>exact⟨k+1,by omega,by go_num,cn.out,Hb.out⟩
      case measure=>exact bI
  . obtain rfl:k=n:=by omega
    have hme:M=decide ((k:Int)=v):=by rw[<-HM.out];have h:=pn.out;rw[List.take_of_length_le (by rw[Hn.out];exact Nat.le_refl _)]at h;unfold eQ;rw[h,Hn.out,Bool.true_and]
    have RJ:=ar hme;clear hme;go_wp2;refine bodyPost_ret (results_tmp rfl _ _ _) rfl ⟨?_,Hb.out⟩;rw[RJ.out];by_cases h:(k:Int)=v<;>simp[h]
def Nk (v:Int)(w:World):
 Cv 84 #[ah v] w (aj (decide (0<=v/\v<=12))):=by
 have Hb:=hbz w;go_enter Tryz.func84,Tryz.ntmps84;by_cases h1:0<=v
 . by_cases h2:v<=12
   . go_wp2;refine bodyPost_ret (results_tmp rfl _ _ _) rfl ⟨?_,Hb.out⟩;simp[h2];omega
   . go_wp2;refine bodyPost_ret (results_tmp rfl _ _ _) rfl ⟨?_,Hb.out⟩;simp[h2]
 . go_wp2;refine bodyPost_ret (results_tmp rfl _ _ _) rfl ⟨?_,Hb.out⟩;simp;omega
end Go.Proofs.YtnjfebkelecgaaaGreatDoor
namespace Go.Proofs.YtnjfebkelecgaaaGreatDoor
def aql (n:Nat)(hn:1<=n)(cV:n<=4)(m:Nat->Nat->Dyadic)(y:Nat->Dyadic)(b:Nat)(hb:b<n):dM (λi=>eU n (λa c=>if a=i then y c else m a c) *m i b) n=eU n m*y b:=by
 have hc:(n=1/\b=0)\/(n=2/\b=0)\/(n=2/\b=1)\/(n=3/\b=0)\/(n=3/\b=1)\/(n=3/\b=2)\/(n=4/\b=0)\/(n=4/\b=1)\/(n=4/\b=2)\/(n=4/\b=3):=by omega
 rcases hc with⟨rfl,rfl⟩ |⟨rfl,rfl⟩ |⟨rfl,rfl⟩ |⟨rfl,rfl⟩ |⟨rfl,rfl⟩ |⟨rfl,rfl⟩ |⟨rfl,rfl⟩ |⟨rfl,rfl⟩ |⟨rfl,rfl⟩ |⟨rfl,rfl⟩<;>(simp[dM,eU];try grind)
def azf (f g:Nat->Dyadic)(n:Nat):dM (λi=>f i+g i) n=dM f n+dM g n:=by
 induction n with
 |zero=>simp[dM]
 |succ n ih=>simp only[dM,ih];grind
def Yp (f:Nat->Dyadic)(c:Dyadic)(n:Nat):dM (λi=>f i*c) n=dM f n*c:=by
 induction n with
 |zero=>simp[dM]
 |succ n ih=>simp only[dM,ih];grind
def Yq (f:Nat->Dyadic)(c:Dyadic)(n:Nat):dM (λi=>c*f i) n=c*dM f n:=by
 induction n with
 |zero=>simp[dM]
 |succ n ih=>simp only[dM,ih];grind
def Qa {f g:Nat->Dyadic}(n:Nat)(h:∀k,k<n->f k=g k):dM f n=dM g n:=by
 induction n with
 |zero=>rfl
 |succ n ih=>simp only[dM];rw[ih (λk hk=>h k zo),h n zo]
def aiH (f:Nat->Dyadic)(n:Nat):dM f (n+1)=f 0+dM (λi=>f (i+1)) n:=by
 induction n with
 |zero=>simp[dM]
 |succ n ih=>rw[show dM f (n+1+1)=dM f (n+1)+f (n+1)from rfl,ih];simp only[dM];grind
def azg (f g:Nat->Dyadic)(n:Nat):dM f n-dM g n=dM (λi=>f i-g i) n:=by
 induction n with
 |zero=>simp[dM];grind
 |succ n ih=>simp only[dM];rw[<-ih];grind
def aAE (n:Nat)(hn:1<=n)(cV:n<=4)(p:Nat->Nat->Dyadic)(x:Nat->Dyadic):dM (λk=>oZ n p x k) (n+1)=gL (dz n p) *dz n p:=by unfold oZ;rw[Yq,aiH,YT n hn cV p x];grind
def aAF (n:Nat)(hn:1<=n)(cV:n<=4)(p:Nat->Nat->Dyadic)(x:Nat->Dyadic)(b:Nat)(hb:b<n):dM (λk=>oZ n p x k*p k b) (n+1)=gL (dz n p) *dz n p*x b:=by
 have h1:=YT n hn cV p x;have h2:=aql n hn cV (λa c=>p (a+1) c-p 0 c) (λc=>x c-p 0 c) b hb;have e1:∀k,oZ n p x k*p k b=gL (dz n p) * (dz n (vq p k x) *p k b):=λk=>by unfold oZ;grind
 have e2:dM (λi=>eU n (λa c=>if a=i then x c-p 0 c else p (a+1) c-p 0 c) * (p (i+1) b-p 0 b)) n=dM (λi=>dz n (vq p (i+1) x) *p (i+1) b) n-dM (λi=>dz n (vq p (i+1) x)) n*p 0 b:=by rw[<-Yp];rw[azg];refine Qa n (λk _=>?_);rw[acN];grind
 rw[Qa (n+1) (λk _=>e1 k),Yq,aiH,h1];have e3:eU n (λa c=>p (a+1) c-p 0 c)=dz n p:=rfl;rw[e2,e3]at h2;generalize dM (λi=>dz n (vq p (i+1) x) *p (i+1) b) n=A at*;generalize dM (λi=>dz n (vq p (i+1) x)) n=S at*;grind
end Go.Proofs.YtnjfebkelecgaaaGreatDoor
