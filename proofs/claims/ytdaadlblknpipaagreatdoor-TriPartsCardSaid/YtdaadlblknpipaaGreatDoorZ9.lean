/- Package dyad: Make,Form,Sign,Shift,Of,Neg,Abs. -/
import Derived.Test.YtdaadlblknpipaaGreatDoorZ7
import Derived.Test.YtdaadlblknpipaaGreatDoorZ8
import Derived.Test.YtdaadlblknpipaaGreatDoorZ6
set_option linter.unusedVariables false
set_option linter.unusedSimpArgs false
set_option maxRecDepth 100000
set_option maxHeartbeats 16000000
namespace Go.Proofs.YtdaadlblknpipaaGreatDoor
open Go.RowKit
attribute [local go_sem ↓] Go.wp_at_zero Go.wp_at_succ
abbrev bC (d:Dyadic):Value:=.agg #[.bool (au (dN d)),.string (bs (nt (dN d).natAbs)),.int .i64 (dE d)]
theorem aca :(⟨#[]⟩:ByteArray)=bs []:=rfl
theorem ajC (s:Bool)(l:List UInt8)(n:Nat)(Z:Int)(hZ:iv s l/2^n=Z)(w:World)(hl:l.length<=34359738368)(hn:n<=549755813888)(hT:aF w):
 Calls Tryz.prog 106 #[.agg #[.bool s,.string (bs l)],.int .i64 (-(n:Int))] w λe w'=>e=.returned (cB Z)/\Bw w w':=by
 rcases Nat.eq_zero_or_pos n with h|h
 . subst h;subst hZ;have:=Oj s l 0 w zo zo;simpa using this
 . subst hZ;exact XJ s l n w hl h zo hT
theorem ake (v k:Nat)(h:v<2^k):tz v<=k:=by
 rcases Nat.eq_zero_or_pos v with h0|h0
 . subst h0;exact Nat.zero_le _
 . obtain⟨m,hm⟩:=Xx v h0;rcases Nat.lt_or_ge k (tz v)with h1|h1
   . exfalso
     have h2:=Nat.pow_le_pow_right (show 0<2 by decide) (Nat.le_of_lt h1);have h3:2^tz v<=2^tz v* (2*m+1):=Nat.le_mul_of_pos_right _ zo;omega
   . exact h1
theorem Xu (n:Int):tz n.natAbs=n.trailingZeros:=by
 unfold tz;rcases Int.natAbs_eq n with h|h
 . rw[<-h]
 . conv=>rhs;rw[h]
   rw[Int.trailingZeros_neg]
theorem Kw (s:Bool)(l:List UInt8)(e:Int)(h:iv s l=0):aB (s,l,e)=0:=by unfold aB;simp only[h];exact uK _
theorem Kt (s:Bool)(l:List UInt8)(e:Int)(h:iv s l≠0):dN (aB (s,l,e))=iv s l/2^tz (nv l)/\dE (aB (s,l,e))=e+(tz (nv l):Int):=by have:=Rf (k:=-e) h;unfold aB;rw[show tz (nv l)=(iv s l).trailingZeros by rw[<-mr s l];exact Xu _];exact⟨this.1,by rw[this.2];omega⟩
theorem uB (s:Bool)(l:List UInt8)(e:Int)(D:Dyadic)(hD:aB (s,l,e)=D)(w:World)(hl:l.length<=34359738368)(he: -1099511627776<=e/\e<=1099511627776)(hT:aF w):
 Calls Tryz.prog 67 #[.agg #[.bool s,.string (bs l)],.int .i64 e] w λex w'=>ex=.returned (bC D)/\Bw w w':=by
 have nE:Hid (l.length<=1099511627776):=by show _<=_;omega
 have bY:Hid (l.length<=68719476736):=by show _<=_;omega
 by_cases h0:iv s l=0
 . have h1:=Kw s l e h0;rw[hD]at h1;subst h1;clear hD;have h2:dP (iv s l)=0:=by rw[h0];rfl
   have H2:=ah h2;clear h2;have Hv:Hid (bC 0=.agg #[.bool false,.string (bs []),.int .i64 0]):=rfl;go_enter Tryz.func67,Tryz.ntmps67;have Hb:Hid (Bw w w):=Below.refl _ _;go_wp2_with fail;obtain⟨R,hR⟩:∃R:World->Prop,(λW=>ai W (w.heap.size) 28 [.bool s,.string (bs l)]/\ai W (w.heap.size+1) 30 [.bool false,.string (bs []),.int .i64 0]/\Bw w W)=R:=⟨_,rfl⟩;first|refine bG R ?hR ?_|refine bF R ?hR ?_
   case hR=>subst hR;exact⟨((ai.newAt w _ _ (b:=w.heap.size) rfl).alloc _),(ai.newAt (w.alloc _) _ _ (b:=w.heap.size+1) zm),(zl.alloc zj _)⟩
   subst hR;rintro W ⟨qx,qr,ae⟩;have Hx:=ah qx;clear qx;have Hr:=ah qr;clear qr;obtain⟨x0,x1⟩:=Hx.out.c2;obtain⟨r0,aj,r1,ar,r2,aG⟩:=Hr.out.g3;replace Hb:=az Hb ae;clear ae;go_wp2_with fail;refine(Dq s l _ nE.out).mono ?_;rintro e w1 ⟨rfl,ae⟩;clear x0 x1 r0 aj r1 ar r2 aG;replace Hx:=kB Hx ae;replace Hr:=kB Hr ae;obtain⟨x0,x1⟩:=Hx.out.c2;obtain⟨r0,aj,r1,ar,r2,aG⟩:=Hr.out.g3;replace Hb:=az Hb ae;clear ae;rw[H2.out];go_wp2;refine bodyPost_ret (v:=.agg #[.bool false,.string (bs []),.int .i64 0]) (by simp[results,Tryz.results67,go_sem,r0,r1,r2,aca]) rfl ⟨by rw[Hv.out],?_⟩;(repeat first|exact Hb.out| (refine Below.setCell ?_ (by have:=Hb.out.size;first| (dsimp only;omega) | (show _<=_;omega) | (simp<;>omega)) _) | (refine Below.alloc ?_ zt _) |refine Below.drew ?_)
 . obtain⟨h1,h2⟩:=Kt s l e h0;rw[hD]at h1 h2;clear hD;have hg0:dP (iv s l)≠0:=by unfold dP;split<;>(try split)<;>omega
   have Hg:Hid (∃g,dP (iv s l)=g/\g≠0):=⟨_,rfl,hg0⟩;obtain⟨g,hg,hg0⟩:=Hg.out;have Hg:=ah hg;clear hg;have hn:tz (nv l)<=549755813888:=Nat.le_trans (ake (nv l) (8*l.length) (by have:=fD l;rwa [show(256:Nat)=2^8 by rfl,<-Nat.pow_mul]at this)) zo;obtain⟨n,hn0⟩:=aC (tz (nv l));rw[hn0]at h1 h2 hn;have vv:=ah hn0;clear hn0;obtain⟨Z,hZ⟩:=aC (dN D);obtain⟨E,hE⟩:=aC (dE D);rw[hZ]at h1;rw[hE]at h2;obtain⟨HZ,HE⟩:=aM hZ hE;clear hZ hE;have H1:=ah h1.symm;clear h1;have hwn:IntKind.i64.wrap (-(n:Int))= -(n:Int):=by rw[IntKind.wrap_i64];omega
   have UQ:IntKind.i64.wrap (e+(n:Int))=E:=by rw[IntKind.wrap_i64];omega
   clear h0 h2;go_enter Tryz.func67,Tryz.ntmps67;have Hb:Hid (Bw w w):=Below.refl _ _;go_wp2_with fail;obtain⟨R,hR⟩:∃R:World->Prop,(λW=>ai W (w.heap.size) 28 [.bool s,.string (bs l)]/\ai W (w.heap.size+1) 30 [.bool false,.string (bs []),.int .i64 0]/\Bw w W)=R:=⟨_,rfl⟩;first|refine bG R ?hR ?_|refine bF R ?hR ?_
   case hR=>subst hR;exact⟨((ai.newAt w _ _ (b:=w.heap.size) rfl).alloc _),(ai.newAt (w.alloc _) _ _ (b:=w.heap.size+1) zm),(zl.alloc zj _)⟩
   subst hR;rintro W ⟨qx,qr,ae⟩;have Hx:=ah qx;clear qx;have Hr:=ah qr;clear qr;obtain⟨x0,x1⟩:=Hx.out.c2;obtain⟨r0,aj,r1,ar,r2,aG⟩:=Hr.out.g3;replace Hb:=az Hb ae;clear ae;go_wp2_with fail;refine(Dq s l _ nE.out).mono ?_;rintro e w1 ⟨rfl,ae⟩;clear x0 x1 r0 aj r1 ar r2 aG;replace Hx:=kB Hx ae;replace Hr:=kB Hr ae;obtain⟨x0,x1⟩:=Hx.out.c2;obtain⟨r0,aj,r1,ar,r2,aG⟩:=Hr.out.g3;replace Hb:=az Hb ae;clear ae;rw[Hg.out];have HT:=ah (hT.below Hb.out);go_wp2_with fail;refine(MU l _ bY.out HT.out).mono ?_;rintro e w2 ⟨rfl,ae⟩;clear x0 x1 r0 aj r1 ar r2 aG;replace Hx:=kB Hx ae;replace Hr:=kB Hr ae;obtain⟨x0,x1⟩:=Hx.out.c2;obtain⟨r0,aj,r1,ar,r2,aG⟩:=Hr.out.g3;replace Hb:=az Hb ae;clear ae;rw[vv.out];replace HT:=ah (hT.below Hb.out);go_wp2_with fail;refine(ajC s l n Z H1.out _ hl hn HT.out).mono ?_;rintro e w3 ⟨rfl,ae⟩;clear x0 x1 r0 aj r1 ar r2 aG;replace Hx:=kB Hx ae;replace Hr:=kB Hr ae;obtain⟨x0,x1⟩:=Hx.out.c2;obtain⟨r0,aj,r1,ar,r2,aG⟩:=Hr.out.g3;replace Hb:=az Hb ae;clear ae;go_wp2;refine bodyPost_ret (v:=.agg #[.bool (au Z),.string (bs (nt Z.natAbs)),.int .i64 E]) (by simp[results,Tryz.results67,go_sem,r0,r1,r2]) rfl ⟨by rw[<-HZ.out,<-HE.out],?_⟩;(repeat first|exact Hb.out| (refine Below.setCell ?_ (by have:=Hb.out.size;first| (dsimp only;omega) | (show _<=_;omega) | (simp<;>omega)) _) | (refine Below.alloc ?_ zt _) |refine Below.drew ?_)
theorem Ok.len {s:Bool}{l:List UInt8}{e:Int}(h:Ok (s,l,e)):l.length<=268435456:=h.1
theorem Ok.exp {s:Bool}{l:List UInt8}{e:Int}(h:Ok (s,l,e)): -268435456<=e/\e<=268435456:=h.2
theorem oY (s:Bool)(l:List UInt8)(e:Int)(D:Dyadic)(hD:aB (s,l,e)=D)(w:World)(hx:Ok (s,l,e))(hT:aF w):
 Calls Tryz.prog 69 #[.agg #[.bool s,.string (bs l),.int .i64 e]] w λex w'=>ex=.returned (bC D)/\Bw w w':=by
 have HD:=ah hD;clear hD;have h1:=hx.len;have h2:=hx.exp;clear hx;have Hl:Hid (l.length<=34359738368):=by show _<=_;omega
 have He:Hid (-1099511627776<=e/\e<=1099511627776):=by show _/\_;omega
 go_enter Tryz.func69,Tryz.ntmps69;have Hb:Hid (Bw w w):=Below.refl _ _;go_wp2_with fail;obtain⟨R,hR⟩:∃R:World->Prop,(λW=>ai W (w.heap.size) 30 [.bool s,.string (bs l),.int .i64 e]/\ai W (w.heap.size+1) 30 [.bool false,.string (bs []),.int .i64 0]/\Bw w W)=R:=⟨_,rfl⟩;first|refine bG R ?hR ?_|refine bF R ?hR ?_
 case hR=>subst hR;exact⟨((ai.newAt w _ _ (b:=w.heap.size) rfl).alloc _),(ai.newAt (w.alloc _) _ _ (b:=w.heap.size+1) zm),(zl.alloc zj _)⟩
 subst hR;rintro W ⟨qx,qr,ae⟩;have Hx:=ah qx;clear qx;have Hr:=ah qr;clear qr;obtain⟨x0,x1,x2⟩:=Hx.out.c3;obtain⟨r0,aj,r1,ar,r2,aG⟩:=Hr.out.g3;replace Hb:=az Hb ae;clear ae;have HT:=ah (hT.below Hb.out);go_wp2_with fail;refine(uB s l e D HD.out _ Hl.out He.out HT.out).mono ?_;rintro e w1 ⟨rfl,ae⟩;clear x0 x1 x2 r0 aj r1 ar r2 aG;replace Hx:=kB Hx ae;replace Hr:=kB Hr ae;obtain⟨x0,x1,x2⟩:=Hx.out.c3;obtain⟨r0,aj,r1,ar,r2,aG⟩:=Hr.out.g3;replace Hb:=az Hb ae;clear ae;go_wp2;refine bodyPost_ret (v:=bC D) (by simp[results,Tryz.results69,go_sem,r0,r1,r2]) rfl ⟨rfl,?_⟩;(repeat first|exact Hb.out| (refine Below.setCell ?_ (by have:=Hb.out.size;first| (dsimp only;omega) | (show _<=_;omega) | (simp<;>omega)) _) | (refine Below.alloc ?_ zt _) |refine Below.drew ?_)
theorem ajB (s:Bool)(l:List UInt8)(e n:Int)(D:Dyadic)(hD:aB (s,l,e+n)=D)(w:World)(hx:Ok (s,l,e))(hn: -268435456<=n/\n<=268435456)(hT:aF w):
 Calls Tryz.prog 30 #[.agg #[.bool s,.string (bs l),.int .i64 e],.int .i64 n] w λex w'=>ex=.returned (bC D)/\Bw w w':=by
 have h1:=hx.len;have h2:=hx.exp;clear hx;obtain⟨z,hz⟩:=aC (e+n);have UQ:IntKind.i64.wrap (e+n)=z:=by rw[IntKind.wrap_i64];omega
 rw[hz]at hD;have HD:=ah hD;clear hD;have Hl:Hid (l.length<=34359738368):=by show _<=_;omega
 have He:Hid (-1099511627776<=z/\z<=1099511627776):=by show _/\_;omega
 clear hz;go_enter Tryz.func30,Tryz.ntmps30;have Hb:Hid (Bw w w):=Below.refl _ _;go_wp2_with fail;obtain⟨R,hR⟩:∃R:World->Prop,(λW=>ai W (w.heap.size) 30 [.bool s,.string (bs l),.int .i64 e]/\ai W (w.heap.size+1) 30 [.bool false,.string (bs []),.int .i64 0]/\Bw w W)=R:=⟨_,rfl⟩;first|refine bG R ?hR ?_|refine bF R ?hR ?_
 case hR=>subst hR;exact⟨((ai.newAt w _ _ (b:=w.heap.size) rfl).alloc _),(ai.newAt (w.alloc _) _ _ (b:=w.heap.size+1) zm),(zl.alloc zj _)⟩
 subst hR;rintro W ⟨qx,qr,ae⟩;have Hx:=ah qx;clear qx;have Hr:=ah qr;clear qr;obtain⟨x0,x1,x2⟩:=Hx.out.c3;obtain⟨r0,aj,r1,ar,r2,aG⟩:=Hr.out.g3;replace Hb:=az Hb ae;clear ae;have HT:=ah (hT.below Hb.out);go_wp2_with fail;refine(uB s l z D HD.out _ Hl.out He.out HT.out).mono ?_;rintro e w1 ⟨rfl,ae⟩;clear x0 x1 x2 r0 aj r1 ar r2 aG;replace Hx:=kB Hx ae;replace Hr:=kB Hr ae;obtain⟨x0,x1,x2⟩:=Hx.out.c3;obtain⟨r0,aj,r1,ar,r2,aG⟩:=Hr.out.g3;replace Hb:=az Hb ae;clear ae;go_wp2;refine bodyPost_ret (v:=bC D) (by simp[results,Tryz.results30,go_sem,r0,r1,r2]) rfl ⟨rfl,?_⟩;(repeat first|exact Hb.out| (refine Below.setCell ?_ (by have:=Hb.out.size;first| (dsimp only;omega) | (show _<=_;omega) | (simp<;>omega)) _) | (refine Below.alloc ?_ zt _) |refine Below.drew ?_)
theorem NN (s:Bool)(l:List UInt8)(e:Int):dP (iv s l)=dP (dN (aB (s,l,e))):=by
 by_cases h0:iv s l=0
 . rw[Kw s l e h0,h0,Km]
 . rw[(Kt s l e h0).1];obtain⟨q,hq⟩:(2:Int)^tz (nv l)∣iv s l:=by rw[show tz (nv l)=(iv s l).trailingZeros by rw[<-mr s l];exact Xu _];exact Int.two_pow_trailingZeros_dvd h0
   have hp:(0:Int)<2^tz (nv l):=by
    have:((2^tz (nv l):Nat):Int)>0:=by have:=Nat.pow_pos (n:=tz (nv l)) (show 0<2 by decide);omega
    simpa[Int.natCast_pow]using this
   generalize (2:Int)^tz (nv l)=p at*;rw[hq,Int.mul_ediv_cancel_left _ zo];unfold dP;rcases Int.lt_trichotomy q 0 with h|h|h
   . have:=Int.mul_neg_of_pos_of_neg hp h;simp only[h,this,if_true]
   . subst h;simp
   . have:=Int.mul_pos hp h;rw[if_neg zo,if_neg zo,if_neg zo,if_neg zo]
abbrev bW (d:Dyadic):Int:=dP (dN d)
theorem mL (s:Bool)(l:List UInt8)(e:Int)(g:Int)(hg:bW (aB (s,l,e))=g)(w:World)(hx:Ok (s,l,e)):
 Calls Tryz.prog 37 #[.agg #[.bool s,.string (bs l),.int .i64 e]] w λex w'=>ex=.returned (.int .i64 g)/\Bw w w':=by
 have h1:=hx.len;clear hx;have Hg:Hid (dP (iv s l)=g):=by show _=_;rw[<-hg];exact NN s l e
 have Hl:Hid (l.length<=1099511627776):=by show _<=_;omega
 clear hg;go_enter Tryz.func37,Tryz.ntmps37;have Hb:Hid (Bw w w):=Below.refl _ _;go_wp2_with fail;obtain⟨R,hR⟩:∃R:World->Prop,(λW=>ai W (w.heap.size) 30 [.bool s,.string (bs l),.int .i64 e]/\Bw w W)=R:=⟨_,rfl⟩;first|refine bG R ?hR ?_|refine bF R ?hR ?_
 case hR=>subst hR;exact⟨(ai.newAt w _ _ (b:=w.heap.size) rfl),zl⟩
 subst hR;rintro W ⟨qx,ae⟩;have Hx:=ah qx;clear qx;obtain⟨x0,x1,x2⟩:=Hx.out.c3;replace Hb:=az Hb ae;clear ae;go_wp2_with fail;refine(Dq s l _ Hl.out).mono ?_;rintro e w1 ⟨rfl,ae⟩;clear x0 x1 x2;replace Hx:=kB Hx ae;obtain⟨x0,x1,x2⟩:=Hx.out.c3;replace Hb:=az Hb ae;clear ae;rw[Hg.out];go_wp2;go_ret;exact⟨rfl,Hb.out⟩
theorem tO (n e:Int):aB (au n,nt n.natAbs,e)=Dyadic.ofIntWithPrec n (-e):=by unfold aB;simp only[eV]
theorem ED (n:Int)(D:Dyadic)(hD:Dyadic.ofIntWithPrec n 0=D)(w:World)(hn: -9223372036854775808<=n/\n<=9223372036854775807)(hT:aF w):
 Calls Tryz.prog 36 #[.int .i64 n] w λex w'=>ex=.returned (bC D)/\Bw w w':=by
 obtain⟨N,hN⟩:=aC n;have HD:Hid (aB (au N,nt N.natAbs,0)=D):=by show _=_;rw[tO,<-hN];exact hD
 have Hl:Hid ((nt N.natAbs).length<=34359738368):=by
  show _<=_
  exact Nat.le_trans (il (k:=8) zo) zd
 have HN:=ah hN;clear hN hD;go_enter Tryz.func36,Tryz.ntmps36;have Hb:Hid (Bw w w):=Below.refl _ _;go_wp2_with fail;obtain⟨R,hR⟩:∃R:World->Prop,(λW=>ai W (w.heap.size) 30 [.bool false,.string (bs []),.int .i64 0]/\Bw w W)=R:=⟨_,rfl⟩;first|refine bG R ?hR ?_|refine bF R ?hR ?_
 case hR=>subst hR;exact⟨(ai.newAt w _ _ (b:=w.heap.size) rfl),zl⟩
 subst hR;rintro W ⟨qr,ae⟩;have Hr:=ah qr;clear qr;obtain⟨r0,aj,r1,ar,r2,aG⟩:=Hr.out.g3;replace Hb:=az Hb ae;clear ae;go_wp2_with fail;refine(Oh n N HN.out _ hn.1 hn.2).mono ?_;rintro e w1 ⟨rfl,ae⟩;clear r0 aj r1 ar r2 aG;replace Hr:=kB Hr ae;obtain⟨r0,aj,r1,ar,r2,aG⟩:=Hr.out.g3;replace Hb:=az Hb ae;clear ae;have HT:=ah (hT.below Hb.out);go_wp2_with fail;refine(uB (au N) (nt N.natAbs) 0 D HD.out _ Hl.out zo HT.out).mono ?_;rintro e w2 ⟨rfl,ae⟩;clear r0 aj r1 ar r2 aG;replace Hr:=kB Hr ae;obtain⟨r0,aj,r1,ar,r2,aG⟩:=Hr.out.g3;replace Hb:=az Hb ae;clear ae;go_wp2;refine bodyPost_ret (v:=bC D) (by simp[results,Tryz.results36,go_sem,r0,r1,r2]) rfl ⟨rfl,?_⟩;(repeat first|exact Hb.out| (refine Below.setCell ?_ (by have:=Hb.out.size;first| (dsimp only;omega) | (show _<=_;omega) | (simp<;>omega)) _) | (refine Below.alloc ?_ zt _) |refine Below.drew ?_)
theorem Kn (s:Bool)(l:List UInt8)(e:Int)(D:Dyadic)(hD: -aB (s,l,e)=D)(w:World)(hx:Ok (s,l,e))(hT:aF w):
 Calls Tryz.prog 68 #[.agg #[.bool s,.string (bs l),.int .i64 e]] w λex w'=>ex=.returned (bC D)/\Bw w w':=by
 have h1:=hx.len;have h2:=hx.exp;clear hx;obtain⟨N,hN⟩:=aC (-(iv s l));have HD:Hid (aB (au N,nt N.natAbs,e)=D):=by
  show _=_
  rw[tO,<-hN,<-hD];unfold aB;rw[CR]
 have Hl:Hid ((nt N.natAbs).length<=34359738368):=by show _<=_;rw[<-hN];exact CN s l _ zo
 have nE:Hid (l.length<=1099511627776):=by show _<=_;omega
 have He:Hid (-1099511627776<=e/\e<=1099511627776):=by show _/\_;omega
 have HN:=ah hN;clear hN hD;go_enter Tryz.func68,Tryz.ntmps68;have Hb:Hid (Bw w w):=Below.refl _ _;go_wp2_with fail;obtain⟨R,hR⟩:∃R:World->Prop,(λW=>ai W (w.heap.size) 30 [.bool s,.string (bs l),.int .i64 e]/\ai W (w.heap.size+1) 30 [.bool false,.string (bs []),.int .i64 0]/\Bw w W)=R:=⟨_,rfl⟩;first|refine bG R ?hR ?_|refine bF R ?hR ?_
 case hR=>subst hR;exact⟨((ai.newAt w _ _ (b:=w.heap.size) rfl).alloc _),(ai.newAt (w.alloc _) _ _ (b:=w.heap.size+1) zm),(zl.alloc zj _)⟩
 subst hR;rintro W ⟨qx,qr,ae⟩;have Hx:=ah qx;clear qx;have Hr:=ah qr;clear qr;obtain⟨x0,x1,x2⟩:=Hx.out.c3;obtain⟨r0,aj,r1,ar,r2,aG⟩:=Hr.out.g3;replace Hb:=az Hb ae;clear ae;refine bD (λw'=>w'.cell? ⟨w.heap.size,0,none⟩=some (.bool s)/\w'.cell? ⟨w.heap.size,1,none⟩=some (.string (bs l))/\w'.cell? ⟨w.heap.size,2,none⟩=some (.int .i64 e)) (λi=>Nat.blt i 6) [(0,true),(1,true),(3,true),(4,true),(2,false),(5,false),(6,false)] zk zk rfl zk zc ⟨x0,x1,x2⟩ ?_;iterate 4 (refine pT rfl rfl ?_ (by intro w' ⟨q0,q1,q2⟩;go_simp;try with_reducible rfl);try simp only[UU])
 refine aJ rfl rfl (λK hK=>?_);go_simp;with_reducible refine(GJ s l N HN.out _ nE.out).mono ?_
 rintro e w1 ⟨rfl,hq⟩;have ae:Bw W w1:=by first|exact hq|exact aO hq
 clear x0 x1 x2 r0 aj r1 ar r2 aG;replace Hx:=kB Hx ae;replace Hr:=kB Hr ae;obtain⟨x0,x1,x2⟩:=Hx.out.c3;obtain⟨r0,aj,r1,ar,r2,aG⟩:=Hr.out.g3;replace Hb:=az Hb ae;clear ae;refine hK _ _ (λ_=>⟨x0,x1,x2⟩) ?_;clear hK K;try simp only[UU]
 refine aJ rfl rfl (λK hK=>?_);go_simp;with_reducible refine(uB (au N) (nt N.natAbs) e D HD.out _ Hl.out He.out (hT.below Hb.out)).mono ?_
 rintro e w2 ⟨rfl,hq⟩;have ae:Bw w1 w2:=by first|exact hq|exact aO hq
 clear x0 x1 x2 r0 aj r1 ar r2 aG;replace Hx:=kB Hx ae;replace Hr:=kB Hr ae;obtain⟨x0,x1,x2⟩:=Hx.out.c3;obtain⟨r0,aj,r1,ar,r2,aG⟩:=Hr.out.g3;replace Hb:=az Hb ae;clear ae;refine hK _ _ (λ_=>⟨x0,x1,x2⟩) ?_;clear hK K;try simp only[UU]
 refine aJ rfl rfl (λK hK=>?_);go_simp;refine hK _ _ (λh=>absurd h zd) ?_;clear hK K;try simp only[UU]
 clear x0 x1 x2 r0 aj r1 ar r2 aG;refine bE (λw3=>ai w3 (w.heap.size) 30 [.bool s,.string (bs l),.int .i64 e]/\ai w3 (w.heap.size+1) 30 [.bool (au (dN D)),.string (bs (nt (dN D).natAbs)),.int .i64 (dE D)]/\Bw w w3) ⟨(((Hx.out.so (w.heap.size+1) 0 zo _).so (w.heap.size+1) 1 zo _).so (w.heap.size+1) 2 zo _),(((Hr.out.set 0 _).set 1 _).set 2 _),by first|exact(((Hb.out.sc (w.heap.size+1) 0 ZS _).sc (w.heap.size+1) 1 ZS _).sc (w.heap.size+1) 2 ZS _) |exact Below.drew (((Hb.out.sc (w.heap.size+1) 0 ZS _).sc (w.heap.size+1) 1 ZS _).sc (w.heap.size+1) 2 ZS _)⟩ ?_;rintro w3 ⟨qx,qr,ae⟩;replace Hx:=ah qx;clear qx;replace Hr:=ah qr;clear qr;obtain⟨x0,x1,x2⟩:=Hx.out.c3;obtain⟨r0,aj,r1,ar,r2,aG⟩:=Hr.out.g3;replace Hb:=ah ae;clear ae;simp only[aU];go_wp2;refine bodyPost_ret (v:=bC D) (by simp[results,Tryz.results68,go_sem,r0,r1,r2]) rfl ⟨rfl,?_⟩;(repeat first|exact Hb.out| (refine Below.setCell ?_ (by have:=Hb.out.size;first| (dsimp only;omega) | (show _<=_;omega) | (simp<;>omega)) _) | (refine Below.alloc ?_ zt _) |refine Below.drew ?_)
theorem aF.drew {w:World}(h:aF w):aF w.drew:=h
theorem aF.alloc {w:World}(h:aF w)(o:Obj):aF (w.alloc o):=λj hj=>aI (h j hj)
def lJ (v k:Int):Int:=if 0<=k then v*2^k.toNat else v/2^(-k).toNat
theorem aky (s:Bool)(l:List UInt8)(k Z:Int)(hZ:lJ (iv s l) k=Z)(w:World)(hl:l.length<=34359738368)(hk: -549755813888<=k/\k<=549755813888)(hT:aF w):
 Calls Tryz.prog 106 #[.agg #[.bool s,.string (bs l)],.int .i64 k] w λe w'=>e=.returned (cB Z)/\Bw w w':=by
 subst hZ;unfold lJ;split
 . rename_i h
   have:=Oj s l k.toNat w zo zo;rw[Int.toNat_of_nonneg h]at this;exact this
 . rename_i h
   have:=XJ s l (-k).toNat w hl zo zo hT;rw[Int.toNat_of_nonneg zo,Int.neg_neg]at this;exact this
theorem yY (s:Bool)(l:List UInt8)(e g Z:Int)(hZ:lJ (iv s l) (e-g)=Z)(w:World)(hl:l.length<=34359738368)(hk: -549755813888<=e-g/\e-g<=549755813888)(hT:aF w):
 Calls Tryz.prog 108 #[.int .i64 g,.agg #[.bool s,.string (bs l),.int .i64 e]] w λe w'=>e=.returned (cB Z)/\Bw w w':=by
 obtain⟨k,jU⟩:=aC (e-g);have UQ:IntKind.i64.wrap (e-g)=k:=by rw[IntKind.wrap_i64];omega
 rw[jU]at hZ hk;have HZ:=ah hZ;clear hZ jU;go_enter Tryz.func108,Tryz.ntmps108;have Hb:Hid (Bw w w):=Below.refl _ _;go_wp2_with fail;obtain⟨R,hR⟩:∃R:World->Prop,(λW=>ai W (w.heap.size) 30 [.bool s,.string (bs l),.int .i64 e]/\ai W (w.heap.size+1) 28 [.bool false,.string (bs [])]/\Bw w W)=R:=⟨_,rfl⟩;first|refine bG R ?hR ?_|refine bF R ?hR ?_
 case hR=>subst hR;exact⟨((ai.newAt w _ _ (b:=w.heap.size) rfl).alloc _),(ai.newAt (w.alloc _) _ _ (b:=w.heap.size+1) zm),(zl.alloc zj _)⟩
 subst hR;rintro W ⟨qx,qr,ae⟩;have Hx:=ah qx;clear qx;have Hr:=ah qr;clear qr;obtain⟨x0,x1,x2⟩:=Hx.out.c3;obtain⟨r0,aj,r1,ar⟩:=Hr.out.g2;replace Hb:=az Hb ae;clear ae;have HT:=ah (hT.below Hb.out);go_wp2_with fail;refine(aky s l k Z HZ.out _ hl hk HT.out).mono ?_;rintro e w1 ⟨rfl,ae⟩;clear x0 x1 x2 r0 aj r1 ar;replace Hx:=kB Hx ae;replace Hr:=kB Hr ae;obtain⟨x0,x1,x2⟩:=Hx.out.c3;obtain⟨r0,aj,r1,ar⟩:=Hr.out.g2;replace Hb:=az Hb ae;clear ae;go_wp2;refine bodyPost_ret (v:=cB Z) (by simp[results,Tryz.results108,go_sem,r0,r1]) rfl ⟨rfl,?_⟩;(repeat first|exact Hb.out| (refine Below.setCell ?_ (by have:=Hb.out.size;first| (dsimp only;omega) | (show _<=_;omega) | (simp<;>omega)) _) | (refine Below.alloc ?_ zt _) |refine Below.drew ?_)
def qO (A B:Dyadic):Int:=if A=0 then dE B else if B=0 then dE A else min (dE A) (dE B)
theorem qX (A:Dyadic):A=Dyadic.ofIntWithPrec (dN A) (-(dE A)):=by have:=bP A;unfold aB canon at this;simp only[eV]at this;exact this.symm
theorem Wq (A:Dyadic)(g:Int)(h:A=0\/g<=dE A):A=Dyadic.ofIntWithPrec (lJ (dN A) (dE A-g)) (-g):=by
 rcases h with h|h
 . subst h;have:lJ (dN 0) (dE 0-g)=0:=by unfold lJ;rw[Km];split<;>simp
   rw[this,uK]
 . unfold lJ;rw[if_pos zo];have:=sO (dN A) (dE A-g).toNat (-(dE A));rw[show-(dE A)+((dE A-g).toNat:Int)= -g by omega]at this;rw[this];exact qX A
theorem agE (A B:Dyadic):(A=0\/qO A B<=dE A)/\(B=0\/qO A B<=dE B):=by
 unfold qO;split
 . exact⟨.inl ‹_›,.inr zo⟩
 . split
   . exact⟨.inr zo,.inl ‹_›⟩
   . exact⟨.inr zo,.inr zo⟩
theorem Wj {A:Dyadic}:A=0\/((nt (dN A).natAbs)≠[]/\A≠0):=by
 by_cases h:A=0
 . exact .inl h
 . refine .inr ⟨?_,h⟩;intro h2;apply h;have:(dN A).natAbs=0:=by rw[<-iq (dN A).natAbs,h2];rfl
   rw[qX A,show dN A=0 by omega,uK]
theorem Ok.parts {x:Raw}(h:Ok x):(nt (dN (aB x)).natAbs).length<=1073741824/\ -4294967296<=dE (aB x)/\dE (aB x)<=4294967296:=by obtain⟨B,hB,hs⟩:∃B,B<=4294967296/\Sm B (aB x):=⟨4294967296,Nat.le_refl _,h.sm⟩;obtain⟨h1,h2,h3⟩:=hs.parts;exact⟨jm h1 zo,by clear h1;omega,by clear h1;omega⟩
theorem Vr (s:Bool)(l:List UInt8)(e:Int)(t:Bool)(m:List UInt8)(f:Int)(A B:Dyadic)(hA:aB (s,l,e)=A)(hB:aB (t,m,f)=B)(g X Y:Int)(hg:qO A B=g)(hX:lJ (dN A) (dE A-g)=X)(hY:lJ (dN B) (dE B-g)=Y)
 (w:World) (hx:Ok (s,l,e)) (hy:Ok (t,m,f)) (hT:aF w):
 Calls Tryz.prog 71 #[.agg #[.bool s,.string (bs l),.int .i64 e],.agg #[.bool t,.string (bs m),.int .i64 f]] w λex w'=>ex=.returned (.agg #[.int .i64 g,.bool (au X),.string (bs (nt X.natAbs)),.bool (au Y),.string (bs (nt Y.natAbs))])/\Bw w w':=by
 have pA:=hx.parts;rw[hA]at pA;have pB:=hy.parts;rw[hB]at pB;obtain⟨HA,HB⟩:=aM hA hB;clear hA hB;obtain⟨a,ha⟩:=aC (nt (dN A).natAbs);obtain⟨p,hp⟩:=aC (au (dN A));obtain⟨i,hi⟩:=aC (dE A);obtain⟨b,hb⟩:=aC (nt (dN B).natAbs);obtain⟨q,hq⟩:=aC (au (dN B));obtain⟨j,hj⟩:=aC (dE B);have yt:lJ (iv p a) (i-g)=X:=by rw[<-hp,<-ha,eV,<-hi];exact hX
 have SJ:lJ (iv q b) (j-g)=Y:=by rw[<-hq,<-hb,eV,<-hj];exact hY
 have Pw:Hid (∀W,aF W->Calls Tryz.prog 69 #[.agg #[.bool s,.string (bs l),.int .i64 e]] W λex w'=>ex=.returned (.agg #[.bool p,.string (bs a),.int .i64 i])/\Bw W w'):=by intro W hW;rw[<-hp,<-ha,<-hi];exact oY s l e A HA.out W hx hW
 have Px:Hid (∀W,aF W->Calls Tryz.prog 69 #[.agg #[.bool t,.string (bs m),.int .i64 f]] W λex w'=>ex=.returned (.agg #[.bool q,.string (bs b),.int .i64 j])/\Bw W w'):=by intro W hW;rw[<-hq,<-hb,<-hj];exact oY t m f B HB.out W hy hW
 have hlv:(A=0/\g=j)\/(A≠0/\B=0/\g=i)\/(A≠0/\B≠0/\g=min i j):=by
  rw[<-hg];unfold qO;by_cases h1:A=0
  . simp[h1,hj]
  . by_cases h2:B=0<;>simp[h1,h2,hi,hj]
 rw[ha,hi]at pA;rw[hb,hj]at pB;have zA:A=0->(p=false/\a=[]/\i=0):=by rintro rfl;exact⟨hp.symm,ha.symm,hi.symm⟩
 have zB:B=0->(q=false/\b=[]/\j=0):=by rintro rfl;exact⟨hq.symm,hb.symm,hj.symm⟩
 have nA:A≠0->a≠[]:=by intro h;rw[<-ha];rcases Wj (A:=A)with h2|h2;exact absurd h2 h;exact h2.1
 have nB:B≠0->b≠[]:=by intro h;rw[<-hb];rcases Wj (A:=B)with h2|h2;exact absurd h2 h;exact h2.1
 have Tx: -549755813888<=i-g/\i-g<=549755813888:=by rcases hlv with⟨_,h⟩ |⟨_,_,h⟩ |⟨_,_,h⟩<;>omega
 have Ty: -549755813888<=j-g/\j-g<=549755813888:=by rcases hlv with⟨_,h⟩ |⟨_,_,h⟩ |⟨_,_,h⟩<;>omega
 obtain⟨HX,HY⟩:=aM yt SJ;have La:Hid (a.length<=34359738368):=by show _<=_;omega
 have Lb:Hid (b.length<=34359738368):=by show _<=_;omega
 obtain⟨IY,IZ⟩:=aM Tx Ty;clear yt SJ hX hY hg ha hp hi hb hq hj Tx Ty HA HB hx hy;go_enter Tryz.func71,Tryz.ntmps71;have Hb:Hid (Bw w w):=Below.refl _ _;go_wp2_with fail;obtain⟨R,hR⟩:∃R:World->Prop,(λW=>ai W (w.heap.size) 30 [.bool s,.string (bs l),.int .i64 e]/\ai W (w.heap.size+1) 30 [.bool t,.string (bs m),.int .i64 f]/\ai W (w.heap.size+1+1) 99 [.int .i64 0,.bool false,.string (bs []),.bool false,.string (bs [])]/\Bw w W)=R:=⟨_,rfl⟩;first|refine bG R ?hR ?_|refine bF R ?hR ?_
 case hR=>subst hR;exact⟨(((ai.newAt w _ _ (b:=w.heap.size) rfl).alloc _).alloc _),((ai.newAt (w.alloc _) _ _ (b:=w.heap.size+1) zm).alloc _),(ai.newAt ((w.alloc _).alloc _) _ _ (b:=w.heap.size+1+1) zm),((zl.alloc zj _).alloc zj _)⟩
 subst hR;rintro W ⟨qx,qy,qr,ae⟩;have Hx:=ah qx;clear qx;have Hy:=ah qy;clear qy;have Hr:=ah qr;clear qr;obtain⟨x0,aV,x1,aW,x2,aY⟩:=Hx.out.g3;obtain⟨y0,aP,y1,aQ,y2,aS⟩:=Hy.out.g3;obtain⟨r0,aj,r1,ar,r2,aG,r3,cF,r4,cX⟩:=Hr.out.g5;replace Hb:=az Hb ae;clear ae;have HT:=ah (hT.below Hb.out);refine bD (λw'=>w'.cell? ⟨w.heap.size,0,none⟩=some (.bool s)/\w'.cell? ⟨w.heap.size,1,none⟩=some (.string (bs l))/\w'.cell? ⟨w.heap.size,2,none⟩=some (.int .i64 e)/\w'.cell? ⟨w.heap.size+1,0,none⟩=some (.bool t)/\w'.cell? ⟨w.heap.size+1,1,none⟩=some (.string (bs m))/\w'.cell? ⟨w.heap.size+1,2,none⟩=some (.int .i64 f)) (λi=>Nat.blt i 4) [(0,true),(2,true),(1,false),(3,false),(4,false),(5,false)] zk zk rfl zk zc ⟨x0,x1,x2,y0,y1,y2⟩ ?_;iterate 2 (refine pT rfl rfl ?_ (by intro w' ⟨q0,q1,q2,q3,q4,q5⟩;go_simp;try with_reducible rfl);try simp only[UU])
 refine aJ rfl rfl (λK hK=>?_);go_simp;with_reducible refine(Pw.out _ (by first|exact HT.out|exact aF.drew HT.out|exact aF.alloc HT.out _|exact aF.drew (aF.alloc HT.out _) |exact aF.alloc (aF.drew HT.out) _)).mono ?_
 rintro e w1 ⟨rfl,hq⟩;have ae:Bw W w1:=by first|exact hq|exact aO hq
 clear x0 aV x1 aW x2 aY y0 aP y1 aQ y2 aS r0 aj r1 ar r2 aG r3 cF r4 cX;replace Hx:=kB Hx ae;replace Hy:=kB Hy ae;replace Hr:=kB Hr ae;obtain⟨x0,aV,x1,aW,x2,aY⟩:=Hx.out.g3;obtain⟨y0,aP,y1,aQ,y2,aS⟩:=Hy.out.g3;obtain⟨r0,aj,r1,ar,r2,aG,r3,cF,r4,cX⟩:=Hr.out.g5;replace Hb:=az Hb ae;clear ae;refine hK _ _ (λ_=>⟨x0,x1,x2,y0,y1,y2⟩) ?_;clear hK K;try simp only[UU]
 refine aJ rfl rfl (λK hK=>?_);go_simp;with_reducible refine(Px.out _ (by first|exact(hT.below Hb.out) |exact aF.drew (hT.below Hb.out) |exact aF.alloc (hT.below Hb.out) _|exact aF.drew (aF.alloc (hT.below Hb.out) _) |exact aF.alloc (aF.drew (hT.below Hb.out)) _)).mono ?_
 rintro e w2 ⟨rfl,hq⟩;have ae:Bw w1 w2:=by first|exact hq|exact aO hq
 clear x0 aV x1 aW x2 aY y0 aP y1 aQ y2 aS r0 aj r1 ar r2 aG r3 cF r4 cX;replace Hx:=kB Hx ae;replace Hy:=kB Hy ae;replace Hr:=kB Hr ae;obtain⟨x0,aV,x1,aW,x2,aY⟩:=Hx.out.g3;obtain⟨y0,aP,y1,aQ,y2,aS⟩:=Hy.out.g3;obtain⟨r0,aj,r1,ar,r2,aG,r3,cF,r4,cX⟩:=Hr.out.g5;replace Hb:=az Hb ae;clear ae;refine hK _ _ (λ_=>⟨x0,x1,x2,y0,y1,y2⟩) ?_;clear hK K;try simp only[UU]
 refine aJ rfl rfl (λK hK=>?_);go_simp;refine hK _ _ (λh=>absurd h zd) ?_;clear hK K;try simp only[UU]
 clear x0 aV x1 aW x2 aY y0 aP y1 aQ y2 aS r0 aj r1 ar r2 aG r3 cF r4 cX;refine bE (λw3=>ai w3 (w.heap.size) 30 [.bool p,.string (bs a),.int .i64 i]/\ai w3 (w.heap.size+1) 30 [.bool t,.string (bs m),.int .i64 f]/\ai w3 (w.heap.size+1+1) 99 [.int .i64 0,.bool false,.string (bs []),.bool false,.string (bs [])]/\Bw w w3) ⟨(((Hx.out.set 0 _).set 1 _).set 2 _),(((Hy.out.so (w.heap.size) 0 zo _).so (w.heap.size) 1 zo _).so (w.heap.size) 2 zo _),(((Hr.out.so (w.heap.size) 0 zo _).so (w.heap.size) 1 zo _).so (w.heap.size) 2 zo _),by first|exact(((Hb.out.sc (w.heap.size) 0 ZS _).sc (w.heap.size) 1 ZS _).sc (w.heap.size) 2 ZS _) |exact Below.drew (((Hb.out.sc (w.heap.size) 0 ZS _).sc (w.heap.size) 1 ZS _).sc (w.heap.size) 2 ZS _)⟩ ?_;rintro w3 ⟨qx,qy,qr,ae⟩;replace Hx:=ah qx;clear qx;replace Hy:=ah qy;clear qy;replace Hr:=ah qr;clear qr;obtain⟨x0,aV,x1,aW,x2,aY⟩:=Hx.out.g3;obtain⟨y0,aP,y1,aQ,y2,aS⟩:=Hy.out.g3;obtain⟨r0,aj,r1,ar,r2,aG,r3,cF,r4,cX⟩:=Hr.out.g5;replace Hb:=ah ae;clear ae;refine aJ rfl rfl (λK hK=>?_);go_simp;refine hK _ _ (λh=>absurd h zd) ?_;clear hK K;try simp only[UU]
 clear x0 aV x1 aW x2 aY y0 aP y1 aQ y2 aS r0 aj r1 ar r2 aG r3 cF r4 cX;refine bE (λw4=>ai w4 (w.heap.size) 30 [.bool p,.string (bs a),.int .i64 i]/\ai w4 (w.heap.size+1) 30 [.bool q,.string (bs b),.int .i64 j]/\ai w4 (w.heap.size+1+1) 99 [.int .i64 0,.bool false,.string (bs []),.bool false,.string (bs [])]/\Bw w w4) ⟨(((Hx.out.so (w.heap.size+1) 0 zo _).so (w.heap.size+1) 1 zo _).so (w.heap.size+1) 2 zo _),(((Hy.out.set 0 _).set 1 _).set 2 _),(((Hr.out.so (w.heap.size+1) 0 zo _).so (w.heap.size+1) 1 zo _).so (w.heap.size+1) 2 zo _),by first|exact(((Hb.out.sc (w.heap.size+1) 0 ZS _).sc (w.heap.size+1) 1 ZS _).sc (w.heap.size+1) 2 ZS _) |exact Below.drew (((Hb.out.sc (w.heap.size+1) 0 ZS _).sc (w.heap.size+1) 1 ZS _).sc (w.heap.size+1) 2 ZS _)⟩ ?_;rintro w4 ⟨qx,qy,qr,ae⟩;replace Hx:=ah qx;clear qx;replace Hy:=ah qy;clear qy;replace Hr:=ah qr;clear qr;obtain⟨x0,aV,x1,aW,x2,aY⟩:=Hx.out.g3;obtain⟨y0,aP,y1,aQ,y2,aS⟩:=Hy.out.g3;obtain⟨r0,aj,r1,ar,r2,aG,r3,cF,r4,cX⟩:=Hr.out.g5;replace Hb:=ah ae;clear ae;simp only[aU];have AG:=Hr;clear x0 x1 x2 aV aW aY y0 y1 y2 aP aQ aS r0 r1 r2 r3 r4 aj ar aG cF cX HT Pw Px;rcases hlv with⟨h1,h2⟩ |⟨h1,h3,h2⟩ |⟨h1,h3,h2⟩
 . obtain⟨rfl,rfl,rfl⟩:=zA h1;subst h2;have z1:(bs []).toList=[]:=fH _;clear zA zB nA nB pA pB;obtain⟨x0,aV,x1,aW,x2,aY⟩:=Hx.out.g3;obtain⟨y0,aP,y1,aQ,y2,aS⟩:=Hy.out.g3;obtain⟨r0,aj,r1,ar,r2,aG,r3,cF,r4,cX⟩:=Hr.out.g5;have yR:=Hx.out.lt;have VI:=Hy.out.lt;have Ge:=Hr.out.lt;go_wp2_with fail;obtain⟨R,hR⟩:∃R:World->Prop,(λW5=>ai W5 (w4.heap.size) 99 [.int .i64 g,.bool false,.string (bs []),.bool false,.string (bs [])]/\Bw w4 W5)=R:=⟨_,rfl⟩;first|refine bG R ?hR ?_|refine bF R ?hR ?_
   case hR=>subst hR;exact⟨(ai.newAt w4 _ _ (b:=w4.heap.size) rfl),zl⟩
   subst hR;rintro W5 ⟨qn,ae⟩;have Hn:=ah qn;clear qn x0 aV x1 aW x2 aY;replace Hx:=kB Hx ae;obtain⟨x0,aV,x1,aW,x2,aY⟩:=Hx.out.g3;clear y0 aP y1 aQ y2 aS;replace Hy:=kB Hy ae;obtain⟨y0,aP,y1,aQ,y2,aS⟩:=Hy.out.g3;clear r0 aj r1 ar r2 aG r3 cF r4 cX;replace Hr:=kB Hr ae;obtain⟨r0,aj,r1,ar,r2,aG,r3,cF,r4,cX⟩:=Hr.out.g5;obtain⟨n0,ft,n1,fu,n2,fw,n3,fQ,n4,fR⟩:=Hn.out.g5;replace Hb:=az Hb ae;clear ae;have hns:w.heap.size+1+1<w4.heap.size:=AG.out.lt;refine bD (λw'=>w'.cell? ⟨w.heap.size,0,none⟩=some (.bool false)/\w'.cell? ⟨w.heap.size,1,none⟩=some (.string (bs []))/\w'.cell? ⟨w.heap.size,2,none⟩=some (.int .i64 0)/\w'.cell? ⟨w.heap.size+1,0,none⟩=some (.bool q)/\w'.cell? ⟨w.heap.size+1,1,none⟩=some (.string (bs b))/\w'.cell? ⟨w.heap.size+1,2,none⟩=some (.int .i64 g)/\w'.cell? ⟨w4.heap.size,0,none⟩=some (.int .i64 g)) (λi=>Nat.blt i 11) [(0,true),(1,true),(2,true),(4,true),(5,true),(6,true),(3,false),(8,true),(7,false),(9,false),(10,true),(11,false)] zk zk rfl zk zc ⟨x0,x1,x2,y0,y1,y2,n0⟩ ?_;iterate 6 (refine pT rfl rfl ?_ (by intro w' ⟨q0,q1,q2,q3,q4,q5,q6⟩;go_simp;try with_reducible rfl);try simp only[UU])
   refine aJ rfl rfl (λK hK=>?_);go_simp;with_reducible refine(yY false [] 0 g X HX.out _ La.out IY.out (by first|exact(hT.below Hb.out) |exact aF.drew (hT.below Hb.out) |exact aF.alloc (hT.below Hb.out) _|exact aF.drew (aF.alloc (hT.below Hb.out) _) |exact aF.alloc (aF.drew (hT.below Hb.out)) _)).mono ?_
   rintro e w6 ⟨rfl,hq⟩;have ae:Bw W5 w6:=by first|exact hq|exact aO hq
   clear x0 aV x1 aW x2 aY y0 aP y1 aQ y2 aS r0 aj r1 ar r2 aG r3 cF r4 cX n0 ft n1 fu n2 fw n3 fQ n4 fR;replace Hx:=kB Hx ae;replace Hy:=kB Hy ae;replace Hr:=kB Hr ae;replace Hn:=kB Hn ae;obtain⟨x0,aV,x1,aW,x2,aY⟩:=Hx.out.g3;obtain⟨y0,aP,y1,aQ,y2,aS⟩:=Hy.out.g3;obtain⟨r0,aj,r1,ar,r2,aG,r3,cF,r4,cX⟩:=Hr.out.g5;obtain⟨n0,ft,n1,fu,n2,fw,n3,fQ,n4,fR⟩:=Hn.out.g5;replace Hb:=az Hb ae;clear ae;refine hK _ _ (λ_=>⟨x0,x1,x2,y0,y1,y2,n0⟩) ?_;clear hK K;try simp only[UU]
   refine pT rfl rfl ?_;try simp only[UU]
   refine aJ rfl rfl (λK hK=>?_);go_simp;with_reducible refine(yY q b g g Y HY.out _ Lb.out IZ.out (by first|exact(hT.below Hb.out) |exact aF.drew (hT.below Hb.out) |exact aF.alloc (hT.below Hb.out) _|exact aF.drew (aF.alloc (hT.below Hb.out) _) |exact aF.alloc (aF.drew (hT.below Hb.out)) _)).mono ?_
   rintro e w7 ⟨rfl,hq⟩;have ae:Bw w6 w7:=by first|exact hq|exact aO hq
   clear x0 aV x1 aW x2 aY y0 aP y1 aQ y2 aS r0 aj r1 ar r2 aG r3 cF r4 cX n0 ft n1 fu n2 fw n3 fQ n4 fR;replace Hx:=kB Hx ae;replace Hy:=kB Hy ae;replace Hr:=kB Hr ae;replace Hn:=kB Hn ae;obtain⟨x0,aV,x1,aW,x2,aY⟩:=Hx.out.g3;obtain⟨y0,aP,y1,aQ,y2,aS⟩:=Hy.out.g3;obtain⟨r0,aj,r1,ar,r2,aG,r3,cF,r4,cX⟩:=Hr.out.g5;obtain⟨n0,ft,n1,fu,n2,fw,n3,fQ,n4,fR⟩:=Hn.out.g5;replace Hb:=az Hb ae;clear ae;refine hK _ _ (λ_=>⟨x0,x1,x2,y0,y1,y2,n0⟩) ?_;clear hK K;try simp only[UU]
   refine aJ rfl rfl (λK hK=>?_);go_simp;refine hK _ _ (λ_=>⟨(aH zf (aH zf x0)),(aH zf (aH zf x1)),(aH zf (aH zf x2)),(aH zf (aH zf y0)),(aH zf (aH zf y1)),(aH zf (aH zf y2)),(aH zf (aH zf n0))⟩) ?_;clear hK K;try simp only[UU]
   clear x0 aV x1 aW x2 aY y0 aP y1 aQ y2 aS r0 aj r1 ar r2 aG r3 cF r4 cX n0 ft n1 fu n2 fw n3 fQ n4 fR;refine bE (λw8=>ai w8 (w.heap.size) 30 [.bool false,.string (bs []),.int .i64 0]/\ai w8 (w.heap.size+1) 30 [.bool q,.string (bs b),.int .i64 g]/\ai w8 (w.heap.size+1+1) 99 [.int .i64 0,.bool false,.string (bs []),.bool false,.string (bs [])]/\ai w8 (w4.heap.size) 99 [.int .i64 g,.bool (au X),.string (bs (nt X.natAbs)),.bool false,.string (bs [])]/\Bw w w8) ⟨((Hx.out.so (w4.heap.size) 1 zo _).so (w4.heap.size) 2 zo _),((Hy.out.so (w4.heap.size) 1 zo _).so (w4.heap.size) 2 zo _),((Hr.out.so (w4.heap.size) 1 zo _).so (w4.heap.size) 2 zo _),((Hn.out.set 1 _).set 2 _),by first|exact((Hb.out.sc (w4.heap.size) 1 ZS _).sc (w4.heap.size) 2 ZS _) |exact Below.drew ((Hb.out.sc (w4.heap.size) 1 ZS _).sc (w4.heap.size) 2 ZS _)⟩ ?_;rintro w8 ⟨qx,qy,qr,qn,ae⟩;replace Hx:=ah qx;clear qx;replace Hy:=ah qy;clear qy;replace Hr:=ah qr;clear qr;replace Hn:=ah qn;clear qn;obtain⟨x0,aV,x1,aW,x2,aY⟩:=Hx.out.g3;obtain⟨y0,aP,y1,aQ,y2,aS⟩:=Hy.out.g3;obtain⟨r0,aj,r1,ar,r2,aG,r3,cF,r4,cX⟩:=Hr.out.g5;obtain⟨n0,ft,n1,fu,n2,fw,n3,fQ,n4,fR⟩:=Hn.out.g5;replace Hb:=ah ae;clear ae;refine pT rfl rfl ?_;try simp only[UU]
   refine aJ rfl rfl (λK hK=>?_);go_simp;refine hK _ _ (λh=>absurd h zd) ?_;clear hK K;try simp only[UU]
   clear x0 aV x1 aW x2 aY y0 aP y1 aQ y2 aS r0 aj r1 ar r2 aG r3 cF r4 cX n0 ft n1 fu n2 fw n3 fQ n4 fR;refine bE (λw9=>ai w9 (w.heap.size) 30 [.bool false,.string (bs []),.int .i64 0]/\ai w9 (w.heap.size+1) 30 [.bool q,.string (bs b),.int .i64 g]/\ai w9 (w.heap.size+1+1) 99 [.int .i64 0,.bool false,.string (bs []),.bool false,.string (bs [])]/\ai w9 (w4.heap.size) 99 [.int .i64 g,.bool (au X),.string (bs (nt X.natAbs)),.bool (au Y),.string (bs (nt Y.natAbs))]/\Bw w w9) ⟨((Hx.out.so (w4.heap.size) 3 zo _).so (w4.heap.size) 4 zo _),((Hy.out.so (w4.heap.size) 3 zo _).so (w4.heap.size) 4 zo _),((Hr.out.so (w4.heap.size) 3 zo _).so (w4.heap.size) 4 zo _),((Hn.out.set 3 _).set 4 _),by first|exact((Hb.out.sc (w4.heap.size) 3 ZS _).sc (w4.heap.size) 4 ZS _) |exact Below.drew ((Hb.out.sc (w4.heap.size) 3 ZS _).sc (w4.heap.size) 4 ZS _)⟩ ?_;rintro w9 ⟨qx,qy,qr,qn,ae⟩;replace Hx:=ah qx;clear qx;replace Hy:=ah qy;clear qy;replace Hr:=ah qr;clear qr;replace Hn:=ah qn;clear qn;obtain⟨x0,aV,x1,aW,x2,aY⟩:=Hx.out.g3;obtain⟨y0,aP,y1,aQ,y2,aS⟩:=Hy.out.g3;obtain⟨r0,aj,r1,ar,r2,aG,r3,cF,r4,cX⟩:=Hr.out.g5;obtain⟨n0,ft,n1,fu,n2,fw,n3,fQ,n4,fR⟩:=Hn.out.g5;replace Hb:=ah ae;clear ae;simp only[aU];go_wp2;refine bodyPost_ret (v:=.agg #[.int .i64 g,.bool (au X),.string (bs (nt X.natAbs)),.bool (au Y),.string (bs (nt Y.natAbs))]) (by simp[results,Tryz.results71,go_sem,r0,r1,r2,r3,r4]) rfl ⟨rfl,?_⟩;(repeat first|exact Hb.out| (refine Below.setCell ?_ (by have:=Hb.out.size;first| (dsimp only;omega) | (show _<=_;omega) | (simp<;>omega)) _) | (refine Below.alloc ?_ zt _) |refine Below.drew ?_)
 . obtain⟨rfl,rfl,rfl⟩:=zB h3;subst h2;have z1:(bs []).toList=[]:=fH _;have z2:¬(bs a).toList=[]:=by rw[fH];exact nA h1
   clear zA zB nA nB pA pB;obtain⟨x0,aV,x1,aW,x2,aY⟩:=Hx.out.g3;obtain⟨y0,aP,y1,aQ,y2,aS⟩:=Hy.out.g3;obtain⟨r0,aj,r1,ar,r2,aG,r3,cF,r4,cX⟩:=Hr.out.g5;have yR:=Hx.out.lt;have VI:=Hy.out.lt;have Ge:=Hr.out.lt;go_wp2_with fail;obtain⟨R,hR⟩:∃R:World->Prop,(λW5=>ai W5 (w4.heap.size) 99 [.int .i64 g,.bool false,.string (bs []),.bool false,.string (bs [])]/\Bw w4 W5)=R:=⟨_,rfl⟩;first|refine bG R ?hR ?_|refine bF R ?hR ?_
   case hR=>subst hR;exact⟨(ai.newAt w4 _ _ (b:=w4.heap.size) rfl),zl⟩
   subst hR;rintro W5 ⟨qn,ae⟩;have Hn:=ah qn;clear qn x0 aV x1 aW x2 aY;replace Hx:=kB Hx ae;obtain⟨x0,aV,x1,aW,x2,aY⟩:=Hx.out.g3;clear y0 aP y1 aQ y2 aS;replace Hy:=kB Hy ae;obtain⟨y0,aP,y1,aQ,y2,aS⟩:=Hy.out.g3;clear r0 aj r1 ar r2 aG r3 cF r4 cX;replace Hr:=kB Hr ae;obtain⟨r0,aj,r1,ar,r2,aG,r3,cF,r4,cX⟩:=Hr.out.g5;obtain⟨n0,ft,n1,fu,n2,fw,n3,fQ,n4,fR⟩:=Hn.out.g5;replace Hb:=az Hb ae;clear ae;have hns:w.heap.size+1+1<w4.heap.size:=AG.out.lt;refine bD (λw'=>w'.cell? ⟨w.heap.size,0,none⟩=some (.bool p)/\w'.cell? ⟨w.heap.size,1,none⟩=some (.string (bs a))/\w'.cell? ⟨w.heap.size,2,none⟩=some (.int .i64 g)/\w'.cell? ⟨w.heap.size+1,0,none⟩=some (.bool false)/\w'.cell? ⟨w.heap.size+1,1,none⟩=some (.string (bs []))/\w'.cell? ⟨w.heap.size+1,2,none⟩=some (.int .i64 0)/\w'.cell? ⟨w4.heap.size,0,none⟩=some (.int .i64 g)) (λi=>Nat.blt i 11) [(0,true),(1,true),(2,true),(4,true),(5,true),(6,true),(3,false),(8,true),(7,false),(9,false),(10,true),(11,false)] zk zk rfl zk zc ⟨x0,x1,x2,y0,y1,y2,n0⟩ ?_;iterate 6 (refine pT rfl rfl ?_ (by intro w' ⟨q0,q1,q2,q3,q4,q5,q6⟩;go_simp;try with_reducible rfl);try simp only[UU])
   refine aJ rfl rfl (λK hK=>?_);go_simp;with_reducible refine(yY p a g g X HX.out _ La.out IY.out (by first|exact(hT.below Hb.out) |exact aF.drew (hT.below Hb.out) |exact aF.alloc (hT.below Hb.out) _|exact aF.drew (aF.alloc (hT.below Hb.out) _) |exact aF.alloc (aF.drew (hT.below Hb.out)) _)).mono ?_
   rintro e w6 ⟨rfl,hq⟩;have ae:Bw W5 w6:=by first|exact hq|exact aO hq
   clear x0 aV x1 aW x2 aY y0 aP y1 aQ y2 aS r0 aj r1 ar r2 aG r3 cF r4 cX n0 ft n1 fu n2 fw n3 fQ n4 fR;replace Hx:=kB Hx ae;replace Hy:=kB Hy ae;replace Hr:=kB Hr ae;replace Hn:=kB Hn ae;obtain⟨x0,aV,x1,aW,x2,aY⟩:=Hx.out.g3;obtain⟨y0,aP,y1,aQ,y2,aS⟩:=Hy.out.g3;obtain⟨r0,aj,r1,ar,r2,aG,r3,cF,r4,cX⟩:=Hr.out.g5;obtain⟨n0,ft,n1,fu,n2,fw,n3,fQ,n4,fR⟩:=Hn.out.g5;replace Hb:=az Hb ae;clear ae;refine hK _ _ (λ_=>⟨x0,x1,x2,y0,y1,y2,n0⟩) ?_;clear hK K;try simp only[UU]
   refine pT rfl rfl ?_;try simp only[UU]
   refine aJ rfl rfl (λK hK=>?_);go_simp;with_reducible refine(yY false [] 0 g Y HY.out _ Lb.out IZ.out (by first|exact(hT.below Hb.out) |exact aF.drew (hT.below Hb.out) |exact aF.alloc (hT.below Hb.out) _|exact aF.drew (aF.alloc (hT.below Hb.out) _) |exact aF.alloc (aF.drew (hT.below Hb.out)) _)).mono ?_
   rintro e w7 ⟨rfl,hq⟩;have ae:Bw w6 w7:=by first|exact hq|exact aO hq
   clear x0 aV x1 aW x2 aY y0 aP y1 aQ y2 aS r0 aj r1 ar r2 aG r3 cF r4 cX n0 ft n1 fu n2 fw n3 fQ n4 fR;replace Hx:=kB Hx ae;replace Hy:=kB Hy ae;replace Hr:=kB Hr ae;replace Hn:=kB Hn ae;obtain⟨x0,aV,x1,aW,x2,aY⟩:=Hx.out.g3;obtain⟨y0,aP,y1,aQ,y2,aS⟩:=Hy.out.g3;obtain⟨r0,aj,r1,ar,r2,aG,r3,cF,r4,cX⟩:=Hr.out.g5;obtain⟨n0,ft,n1,fu,n2,fw,n3,fQ,n4,fR⟩:=Hn.out.g5;replace Hb:=az Hb ae;clear ae;refine hK _ _ (λ_=>⟨x0,x1,x2,y0,y1,y2,n0⟩) ?_;clear hK K;try simp only[UU]
   refine aJ rfl rfl (λK hK=>?_);go_simp;refine hK _ _ (λ_=>⟨(aH zf (aH zf x0)),(aH zf (aH zf x1)),(aH zf (aH zf x2)),(aH zf (aH zf y0)),(aH zf (aH zf y1)),(aH zf (aH zf y2)),(aH zf (aH zf n0))⟩) ?_;clear hK K;try simp only[UU]
   clear x0 aV x1 aW x2 aY y0 aP y1 aQ y2 aS r0 aj r1 ar r2 aG r3 cF r4 cX n0 ft n1 fu n2 fw n3 fQ n4 fR;refine bE (λw8=>ai w8 (w.heap.size) 30 [.bool p,.string (bs a),.int .i64 g]/\ai w8 (w.heap.size+1) 30 [.bool false,.string (bs []),.int .i64 0]/\ai w8 (w.heap.size+1+1) 99 [.int .i64 0,.bool false,.string (bs []),.bool false,.string (bs [])]/\ai w8 (w4.heap.size) 99 [.int .i64 g,.bool (au X),.string (bs (nt X.natAbs)),.bool false,.string (bs [])]/\Bw w w8) ⟨((Hx.out.so (w4.heap.size) 1 zo _).so (w4.heap.size) 2 zo _),((Hy.out.so (w4.heap.size) 1 zo _).so (w4.heap.size) 2 zo _),((Hr.out.so (w4.heap.size) 1 zo _).so (w4.heap.size) 2 zo _),((Hn.out.set 1 _).set 2 _),by first|exact((Hb.out.sc (w4.heap.size) 1 ZS _).sc (w4.heap.size) 2 ZS _) |exact Below.drew ((Hb.out.sc (w4.heap.size) 1 ZS _).sc (w4.heap.size) 2 ZS _)⟩ ?_;rintro w8 ⟨qx,qy,qr,qn,ae⟩;replace Hx:=ah qx;clear qx;replace Hy:=ah qy;clear qy;replace Hr:=ah qr;clear qr;replace Hn:=ah qn;clear qn;obtain⟨x0,aV,x1,aW,x2,aY⟩:=Hx.out.g3;obtain⟨y0,aP,y1,aQ,y2,aS⟩:=Hy.out.g3;obtain⟨r0,aj,r1,ar,r2,aG,r3,cF,r4,cX⟩:=Hr.out.g5;obtain⟨n0,ft,n1,fu,n2,fw,n3,fQ,n4,fR⟩:=Hn.out.g5;replace Hb:=ah ae;clear ae;refine pT rfl rfl ?_;try simp only[UU]
   refine aJ rfl rfl (λK hK=>?_);go_simp;refine hK _ _ (λh=>absurd h zd) ?_;clear hK K;try simp only[UU]
   clear x0 aV x1 aW x2 aY y0 aP y1 aQ y2 aS r0 aj r1 ar r2 aG r3 cF r4 cX n0 ft n1 fu n2 fw n3 fQ n4 fR;refine bE (λw9=>ai w9 (w.heap.size) 30 [.bool p,.string (bs a),.int .i64 g]/\ai w9 (w.heap.size+1) 30 [.bool false,.string (bs []),.int .i64 0]/\ai w9 (w.heap.size+1+1) 99 [.int .i64 0,.bool false,.string (bs []),.bool false,.string (bs [])]/\ai w9 (w4.heap.size) 99 [.int .i64 g,.bool (au X),.string (bs (nt X.natAbs)),.bool (au Y),.string (bs (nt Y.natAbs))]/\Bw w w9) ⟨((Hx.out.so (w4.heap.size) 3 zo _).so (w4.heap.size) 4 zo _),((Hy.out.so (w4.heap.size) 3 zo _).so (w4.heap.size) 4 zo _),((Hr.out.so (w4.heap.size) 3 zo _).so (w4.heap.size) 4 zo _),((Hn.out.set 3 _).set 4 _),by first|exact((Hb.out.sc (w4.heap.size) 3 ZS _).sc (w4.heap.size) 4 ZS _) |exact Below.drew ((Hb.out.sc (w4.heap.size) 3 ZS _).sc (w4.heap.size) 4 ZS _)⟩ ?_;rintro w9 ⟨qx,qy,qr,qn,ae⟩;replace Hx:=ah qx;clear qx;replace Hy:=ah qy;clear qy;replace Hr:=ah qr;clear qr;replace Hn:=ah qn;clear qn;obtain⟨x0,aV,x1,aW,x2,aY⟩:=Hx.out.g3;obtain⟨y0,aP,y1,aQ,y2,aS⟩:=Hy.out.g3;obtain⟨r0,aj,r1,ar,r2,aG,r3,cF,r4,cX⟩:=Hr.out.g5;obtain⟨n0,ft,n1,fu,n2,fw,n3,fQ,n4,fR⟩:=Hn.out.g5;replace Hb:=ah ae;clear ae;simp only[aU];go_wp2;refine bodyPost_ret (v:=.agg #[.int .i64 g,.bool (au X),.string (bs (nt X.natAbs)),.bool (au Y),.string (bs (nt Y.natAbs))]) (by simp[results,Tryz.results71,go_sem,r0,r1,r2,r3,r4]) rfl ⟨rfl,?_⟩;(repeat first|exact Hb.out| (refine Below.setCell ?_ (by have:=Hb.out.size;first| (dsimp only;omega) | (show _<=_;omega) | (simp<;>omega)) _) | (refine Below.alloc ?_ zt _) |refine Below.drew ?_)
 . have z1:¬(bs b).toList=[]:=by rw[fH];exact nB h3
   have z2:¬(bs a).toList=[]:=by rw[fH];exact nA h1
   have z3:min i j=g:=h2.symm;clear zA zB nA nB pA pB h2;obtain⟨x0,aV,x1,aW,x2,aY⟩:=Hx.out.g3;obtain⟨y0,aP,y1,aQ,y2,aS⟩:=Hy.out.g3;obtain⟨r0,aj,r1,ar,r2,aG,r3,cF,r4,cX⟩:=Hr.out.g5;have yR:=Hx.out.lt;have VI:=Hy.out.lt;have Ge:=Hr.out.lt;go_wp2_with fail;obtain⟨R,hR⟩:∃R:World->Prop,(λW5=>ai W5 (w4.heap.size) 99 [.int .i64 g,.bool false,.string (bs []),.bool false,.string (bs [])]/\Bw w4 W5)=R:=⟨_,rfl⟩;first|refine bG R ?hR ?_|refine bF R ?hR ?_
   case hR=>subst hR;exact⟨(ai.newAt w4 _ _ (b:=w4.heap.size) rfl),zl⟩
   subst hR;rintro W5 ⟨qn,ae⟩;have Hn:=ah qn;clear qn x0 aV x1 aW x2 aY;replace Hx:=kB Hx ae;obtain⟨x0,aV,x1,aW,x2,aY⟩:=Hx.out.g3;clear y0 aP y1 aQ y2 aS;replace Hy:=kB Hy ae;obtain⟨y0,aP,y1,aQ,y2,aS⟩:=Hy.out.g3;clear r0 aj r1 ar r2 aG r3 cF r4 cX;replace Hr:=kB Hr ae;obtain⟨r0,aj,r1,ar,r2,aG,r3,cF,r4,cX⟩:=Hr.out.g5;obtain⟨n0,ft,n1,fu,n2,fw,n3,fQ,n4,fR⟩:=Hn.out.g5;replace Hb:=az Hb ae;clear ae;have hns:w.heap.size+1+1<w4.heap.size:=AG.out.lt;refine bD (λw'=>w'.cell? ⟨w.heap.size,0,none⟩=some (.bool p)/\w'.cell? ⟨w.heap.size,1,none⟩=some (.string (bs a))/\w'.cell? ⟨w.heap.size,2,none⟩=some (.int .i64 i)/\w'.cell? ⟨w.heap.size+1,0,none⟩=some (.bool q)/\w'.cell? ⟨w.heap.size+1,1,none⟩=some (.string (bs b))/\w'.cell? ⟨w.heap.size+1,2,none⟩=some (.int .i64 j)/\w'.cell? ⟨w4.heap.size,0,none⟩=some (.int .i64 g)) (λi=>Nat.blt i 11) [(0,true),(1,true),(2,true),(4,true),(5,true),(6,true),(3,false),(8,true),(7,false),(9,false),(10,true),(11,false)] zk zk rfl zk zc ⟨x0,x1,x2,y0,y1,y2,n0⟩ ?_;iterate 6 (refine pT rfl rfl ?_ (by intro w' ⟨q0,q1,q2,q3,q4,q5,q6⟩;go_simp;try with_reducible rfl);try simp only[UU])
   refine aJ rfl rfl (λK hK=>?_);go_simp;with_reducible refine(yY p a i g X HX.out _ La.out IY.out (by first|exact(hT.below Hb.out) |exact aF.drew (hT.below Hb.out) |exact aF.alloc (hT.below Hb.out) _|exact aF.drew (aF.alloc (hT.below Hb.out) _) |exact aF.alloc (aF.drew (hT.below Hb.out)) _)).mono ?_
   rintro e w6 ⟨rfl,hq⟩;have ae:Bw W5 w6:=by first|exact hq|exact aO hq
   clear x0 aV x1 aW x2 aY y0 aP y1 aQ y2 aS r0 aj r1 ar r2 aG r3 cF r4 cX n0 ft n1 fu n2 fw n3 fQ n4 fR;replace Hx:=kB Hx ae;replace Hy:=kB Hy ae;replace Hr:=kB Hr ae;replace Hn:=kB Hn ae;obtain⟨x0,aV,x1,aW,x2,aY⟩:=Hx.out.g3;obtain⟨y0,aP,y1,aQ,y2,aS⟩:=Hy.out.g3;obtain⟨r0,aj,r1,ar,r2,aG,r3,cF,r4,cX⟩:=Hr.out.g5;obtain⟨n0,ft,n1,fu,n2,fw,n3,fQ,n4,fR⟩:=Hn.out.g5;replace Hb:=az Hb ae;clear ae;refine hK _ _ (λ_=>⟨x0,x1,x2,y0,y1,y2,n0⟩) ?_;clear hK K;try simp only[UU]
   refine pT rfl rfl ?_;try simp only[UU]
   refine aJ rfl rfl (λK hK=>?_);go_simp;with_reducible refine(yY q b j g Y HY.out _ Lb.out IZ.out (by first|exact(hT.below Hb.out) |exact aF.drew (hT.below Hb.out) |exact aF.alloc (hT.below Hb.out) _|exact aF.drew (aF.alloc (hT.below Hb.out) _) |exact aF.alloc (aF.drew (hT.below Hb.out)) _)).mono ?_
   rintro e w7 ⟨rfl,hq⟩;have ae:Bw w6 w7:=by first|exact hq|exact aO hq
   clear x0 aV x1 aW x2 aY y0 aP y1 aQ y2 aS r0 aj r1 ar r2 aG r3 cF r4 cX n0 ft n1 fu n2 fw n3 fQ n4 fR;replace Hx:=kB Hx ae;replace Hy:=kB Hy ae;replace Hr:=kB Hr ae;replace Hn:=kB Hn ae;obtain⟨x0,aV,x1,aW,x2,aY⟩:=Hx.out.g3;obtain⟨y0,aP,y1,aQ,y2,aS⟩:=Hy.out.g3;obtain⟨r0,aj,r1,ar,r2,aG,r3,cF,r4,cX⟩:=Hr.out.g5;obtain⟨n0,ft,n1,fu,n2,fw,n3,fQ,n4,fR⟩:=Hn.out.g5;replace Hb:=az Hb ae;clear ae;refine hK _ _ (λ_=>⟨x0,x1,x2,y0,y1,y2,n0⟩) ?_;clear hK K;try simp only[UU]
   refine aJ rfl rfl (λK hK=>?_);go_simp;refine hK _ _ (λ_=>⟨(aH zf (aH zf x0)),(aH zf (aH zf x1)),(aH zf (aH zf x2)),(aH zf (aH zf y0)),(aH zf (aH zf y1)),(aH zf (aH zf y2)),(aH zf (aH zf n0))⟩) ?_;clear hK K;try simp only[UU]
   clear x0 aV x1 aW x2 aY y0 aP y1 aQ y2 aS r0 aj r1 ar r2 aG r3 cF r4 cX n0 ft n1 fu n2 fw n3 fQ n4 fR;refine bE (λw8=>ai w8 (w.heap.size) 30 [.bool p,.string (bs a),.int .i64 i]/\ai w8 (w.heap.size+1) 30 [.bool q,.string (bs b),.int .i64 j]/\ai w8 (w.heap.size+1+1) 99 [.int .i64 0,.bool false,.string (bs []),.bool false,.string (bs [])]/\ai w8 (w4.heap.size) 99 [.int .i64 g,.bool (au X),.string (bs (nt X.natAbs)),.bool false,.string (bs [])]/\Bw w w8) ⟨((Hx.out.so (w4.heap.size) 1 zo _).so (w4.heap.size) 2 zo _),((Hy.out.so (w4.heap.size) 1 zo _).so (w4.heap.size) 2 zo _),((Hr.out.so (w4.heap.size) 1 zo _).so (w4.heap.size) 2 zo _),((Hn.out.set 1 _).set 2 _),by first|exact((Hb.out.sc (w4.heap.size) 1 ZS _).sc (w4.heap.size) 2 ZS _) |exact Below.drew ((Hb.out.sc (w4.heap.size) 1 ZS _).sc (w4.heap.size) 2 ZS _)⟩ ?_;rintro w8 ⟨qx,qy,qr,qn,ae⟩;replace Hx:=ah qx;clear qx;replace Hy:=ah qy;clear qy;replace Hr:=ah qr;clear qr;replace Hn:=ah qn;clear qn;obtain⟨x0,aV,x1,aW,x2,aY⟩:=Hx.out.g3;obtain⟨y0,aP,y1,aQ,y2,aS⟩:=Hy.out.g3;obtain⟨r0,aj,r1,ar,r2,aG,r3,cF,r4,cX⟩:=Hr.out.g5;obtain⟨n0,ft,n1,fu,n2,fw,n3,fQ,n4,fR⟩:=Hn.out.g5;replace Hb:=ah ae;clear ae;refine pT rfl rfl ?_;try simp only[UU]
   refine aJ rfl rfl (λK hK=>?_);go_simp;refine hK _ _ (λh=>absurd h zd) ?_;clear hK K;try simp only[UU]
   clear x0 aV x1 aW x2 aY y0 aP y1 aQ y2 aS r0 aj r1 ar r2 aG r3 cF r4 cX n0 ft n1 fu n2 fw n3 fQ n4 fR;refine bE (λw9=>ai w9 (w.heap.size) 30 [.bool p,.string (bs a),.int .i64 i]/\ai w9 (w.heap.size+1) 30 [.bool q,.string (bs b),.int .i64 j]/\ai w9 (w.heap.size+1+1) 99 [.int .i64 0,.bool false,.string (bs []),.bool false,.string (bs [])]/\ai w9 (w4.heap.size) 99 [.int .i64 g,.bool (au X),.string (bs (nt X.natAbs)),.bool (au Y),.string (bs (nt Y.natAbs))]/\Bw w w9) ⟨((Hx.out.so (w4.heap.size) 3 zo _).so (w4.heap.size) 4 zo _),((Hy.out.so (w4.heap.size) 3 zo _).so (w4.heap.size) 4 zo _),((Hr.out.so (w4.heap.size) 3 zo _).so (w4.heap.size) 4 zo _),((Hn.out.set 3 _).set 4 _),by first|exact((Hb.out.sc (w4.heap.size) 3 ZS _).sc (w4.heap.size) 4 ZS _) |exact Below.drew ((Hb.out.sc (w4.heap.size) 3 ZS _).sc (w4.heap.size) 4 ZS _)⟩ ?_;rintro w9 ⟨qx,qy,qr,qn,ae⟩;replace Hx:=ah qx;clear qx;replace Hy:=ah qy;clear qy;replace Hr:=ah qr;clear qr;replace Hn:=ah qn;clear qn;obtain⟨x0,aV,x1,aW,x2,aY⟩:=Hx.out.g3;obtain⟨y0,aP,y1,aQ,y2,aS⟩:=Hy.out.g3;obtain⟨r0,aj,r1,ar,r2,aG,r3,cF,r4,cX⟩:=Hr.out.g5;obtain⟨n0,ft,n1,fu,n2,fw,n3,fQ,n4,fR⟩:=Hn.out.g5;replace Hb:=ah ae;clear ae;simp only[aU];go_wp2;refine bodyPost_ret (v:=.agg #[.int .i64 g,.bool (au X),.string (bs (nt X.natAbs)),.bool (au Y),.string (bs (nt Y.natAbs))]) (by simp[results,Tryz.results71,go_sem,r0,r1,r2,r3,r4]) rfl ⟨rfl,?_⟩;(repeat first|exact Hb.out| (refine Below.setCell ?_ (by have:=Hb.out.size;first| (dsimp only;omega) | (show _<=_;omega) | (simp<;>omega)) _) | (refine Below.alloc ?_ zt _) |refine Below.drew ?_)
theorem Qy (X Y:Int)(n:Nat)(hX:(nt X.natAbs).length<=n)(hY:(nt Y.natAbs).length<=n):(nt (X+Y).natAbs).length<=n+1:=by have h1:=fD (nt X.natAbs);have h2:=fD (nt Y.natAbs);rw[iq]at h1 h2;have h3:=Nat.lt_of_lt_of_le h1 (Nat.pow_le_pow_right (show 0<256 by decide) hX);have h4:=Nat.lt_of_lt_of_le h2 (Nat.pow_le_pow_right (show 0<256 by decide) hY);refine il ?_;rw[Nat.pow_succ];omega
theorem ag7 (X Y:Int)(m n:Nat)(hX:(nt X.natAbs).length<=m)(hY:(nt Y.natAbs).length<=n):(nt (X*Y).natAbs).length<=m+n:=by have h1:=fD (nt X.natAbs);have h2:=fD (nt Y.natAbs);rw[iq]at h1 h2;have h3:=Nat.lt_of_lt_of_le h1 (Nat.pow_le_pow_right (show 0<256 by decide) hX);have h4:=Nat.lt_of_lt_of_le h2 (Nat.pow_le_pow_right (show 0<256 by decide) hY);refine il ?_;rw[Int.natAbs_mul,Nat.pow_add];exact Nat.mul_lt_mul'' h3 h4
theorem Xf (v k:Int)(a b:Nat)(hv:v.natAbs<2^a)(hk:k<=b):(lJ v k).natAbs<2^(a+b):=by
 have h0:v.natAbs<2^(a+b):=Nat.lt_of_lt_of_le hv (Nat.pow_le_pow_right zd zo);unfold lJ;split
 . rw[Int.natAbs_mul,Int.natAbs_pow,Nat.pow_add];refine Nat.lt_of_le_of_lt (Nat.mul_le_mul_left _ (Nat.pow_le_pow_right zd (show k.toNat<=b by omega))) ?_;exact Nat.mul_lt_mul_of_pos_right hv (Nat.pow_pos zd)
 . have hp:(0:Int)<2^(-k).toNat:=by
    have:((2^(-k).toNat:Nat):Int)>0:=by have:=Nat.pow_pos (n:=(-k).toNat) (show 0<2 by decide);omega
    simpa[Int.natCast_pow]using this
   generalize (2:Int)^(-k).toNat=p at*;have:(v/p).natAbs<=v.natAbs:=by
    rcases Int.le_total 0 v with h|h
    . have h1:=Int.ediv_nonneg h (by omega:(0:Int)<=p);have h2:=Int.ediv_le_self p h;omega
    . have h1:v<=v/p:=by rw[Int.le_ediv_iff_mul_le hp];have:=Int.mul_le_mul_of_nonpos_left h (show(1:Int)<=p by omega);omega
      have h2:v/p<=0:=by have:=Int.ediv_le_ediv hp h;simpa using this
      omega
   omega
theorem VE {x y:Raw}(hx:Ok x)(hy:Ok y)(A B:Dyadic)(hA:aB x=A)(hB:aB y=B):∃g X Y,qO A B=g/\lJ (dN A) (dE A-g)=X/\lJ (dN B) (dE B-g)=Y/\A=Dyadic.ofIntWithPrec X (-g)/\B=Dyadic.ofIntWithPrec Y (-g)/\
 (nt X.natAbs).length<=17179869183/\(nt Y.natAbs).length<=17179869183/\ -1099511627776<=g/\g<=1099511627776:=by
 subst hA hB;obtain⟨M,hM,sx,sy⟩:∃M,M<=4294967296/\Sm M (aB x)/\Sm M (aB y):=⟨4294967296,Nat.le_refl _,hx.sm,hy.sm⟩;obtain⟨a1,a2,a3⟩:=sx.parts;obtain⟨b1,b2,b3⟩:=sy.parts;generalize aB x=A at*;generalize aB y=B at*;obtain⟨h1,h2⟩:=agE A B;have hg: -(M:Int)<=qO A B/\qO A B<=M:=by
  clear a1 b1;unfold qO;split
  . omega
  . split<;>omega
 refine⟨qO A B,_,_,rfl,rfl,rfl,Wq A _ h1,Wq B _ h2,?_,?_,?_,?_⟩
 . exact jm (Xf _ _ _ (2*M) a1 (by clear a1 b1;omega)) zo
 . exact jm (Xf _ _ _ (2*M) b1 (by clear a1 b1;omega)) zo
 . clear a1 b1;omega
 . clear a1 b1;omega
def bB (x:Raw):List Value:=[.bool x.1,.string (bs x.2.1),.int .i64 x.2.2]
def jR :List Raw->Dyadic
 |[]=>0
 |x::xs=>aB x+jR xs
theorem adB (xs ys:List Raw):jR (xs++ys)=jR xs+jR ys:=by
 induction xs with
 |nil=>simp only[List.nil_append,jR];grind
 |cons x xs ih=>simp only[List.cons_append,jR,ih];grind
theorem adD (xs:List Raw)(k:Nat)(hk:k<xs.length):jR (xs.take (k+1))=jR (xs.take k)+aB xs[k]:=by rw[List.take_succ_eq_append_getElem hk,adB];simp only[jR];grind
def jx :List Raw->Dyadic
 |[]=>1
 |x::xs=>aB x*jx xs
theorem adx (xs ys:List Raw):jx (xs++ys)=jx xs*jx ys:=by
 induction xs with
 |nil=>simp only[List.nil_append,jx];grind
 |cons x xs ih=>simp only[List.cons_append,jx,ih];grind
theorem adz (xs:List Raw)(k:Nat)(hk:k<xs.length):jx (xs.take (k+1))=jx (xs.take k) *aB xs[k]:=by rw[List.take_succ_eq_append_getElem hk,adx];simp only[jx];grind
theorem akr (X Y N:Int)(hN:X+Y=N)(b cap:Nat)(ty:TypeId)(w:World)(hl:(nt X.natAbs).length<=34359738368)(hm:(nt Y.natAbs).length<=34359738368)
 (ha:ai w b ty [.bool (au X),.string (bs (nt X.natAbs)),.bool (au Y),.string (bs (nt Y.natAbs))]):
 Calls Tryz.prog 76 #[.slice (some ⟨b,0,none⟩) 2 cap] w λe w'=>e=.returned (cB N)/\Bw w w':=by
 have:=XE (au X) (nt X.natAbs) (au Y) (nt Y.natAbs) b cap ty w hl hm ha;rw[eV,eV,hN]at this;exact this
theorem XH (s:Bool)(l:List UInt8)(t:Bool)(m:List UInt8)(N:Int)(hN:iv s l*iv t m=N)(b cap:Nat)(ty:TypeId)(w:World)(hl:l.length<=17179869184)(hm:m.length<=17179869184)
 (ha:ai w b ty [.bool s,.string (bs l),.bool t,.string (bs m)]):
 Calls Tryz.prog 73 #[.slice (some ⟨b,0,none⟩) 2 cap] w λe w'=>e=.returned (cB N)/\Bw w w':=by
 have:=akw [(s,l),(t,m)] (some ⟨b,0,none⟩) cap w (by simp[mY];omega) zm (At.an6 ha);have e:gj [(s,l),(t,m)]=N:=by rw[<-hN];simp[gj]
 rw[e]at this;exact this
theorem ac2 (xs:List Raw)(a:Option Addr)(cap:Nat)(w:World)(hl:∀x∈xs,Ok x)(hS:∀k,Ok (canon (jR (xs.take k))))(hx:xs.length<=1048576)
 (ha:At w a (xs.flatMap bB)) (hT:aF w):
 Calls Tryz.prog 38 #[.slice a xs.length cap] w λe w'=>e=.returned (bC (jR xs))/\Bw w w':=by
 have Hl:=ah hl;clear hl;have HS:=ah hS;clear hS;have Ha:=ah ha;clear ha;have fX:=ah hT;clear hT;go_enter Tryz.func38,Tryz.ntmps38;have Hb:Hid (Bw w w):=Below.refl _ _;go_wp2_with fail;obtain⟨R,hR⟩:∃R:World->Prop,(λW=>ai W (w.heap.size) 30 [.bool false,.string (bs []),.int .i64 0]/\ai W (w.heap.size+1) 30 [.bool false,.string (bs []),.int .i64 0]/\Bw w W)=R:=⟨_,rfl⟩;first|refine bG R ?hR ?_|refine bF R ?hR ?_
 case hR=>subst hR;exact⟨((ai.newAt w _ _ (b:=w.heap.size) rfl).alloc _),(ai.newAt (w.alloc _) _ _ (b:=w.heap.size+1) zm),(zl.alloc zj _)⟩
 subst hR;rintro W ⟨qr,qs,ae⟩;have Hr:=ah qr;clear qr;have Hs:=ah qs;clear qs;obtain⟨r0,aj,r1,ar,r2,aG⟩:=Hr.out.g3;obtain⟨s0,bM,s1,bN,s2,cm⟩:=Hs.out.g3;replace Hb:=az Hb ae;clear ae
 go_loopw[5,6,9] (λ_ _ i wr=>∃(k:Nat),k<=xs.length/\i=.int .i64 k/\ai wr w.heap.size 30 [.bool false,.string (bs []),.int .i64 0]/\
  ai wr (w.heap.size+1) 30 (bB (canon (jR (xs.take k))))/\Bw w wr) (λ_ _ i _=>xs.length-(intOf i).toNat)
 case atStart=>exact⟨0,Nat.zero_le _,rfl,Hr.out,Hs.out,Hb.out⟩
 case round=>
  obtain⟨k,hk,rfl,qr,qs,hb⟩:=hrel;replace Hr:=ah qr;replace Hs:=ah qs;replace Hb:=ah hb;clear qr qs hb r0 r1 r2 aj ar aG s0 s1 s2 bM bN cm;by_cases hlt:k<xs.length
  . obtain ⟨b,o,hab,hcs⟩:=(Ha.out.below Hb.out).elem (f:=bB) (sz:=3) (fun _=>rfl) zd k hlt;have hc0:wr.cell? ⟨b,o+k*3,none⟩=some (.bool xs[k].1):=hcs 0 zd;have hc1:wr.cell? ⟨b,o+k*3+1,none⟩=some (.string (bs xs[k].2.1)):=hcs 1 zd;have hc2:wr.cell? ⟨b,o+k*3+2,none⟩=some (.int .i64 xs[k].2.2):=hcs 2 zd;have bA:=mo xs.length cap k (k:Int) hab hlt rfl;have bS:=ah (adD xs k hlt);have jH:Hid (Ok xs[k]):=Hl.out _ (List.getElem_mem hlt);have js:=ah (HS.out k);clear hcs hab;generalize xs[k]=x at*;obtain⟨t1,l1,e1⟩:=x;generalize hS:jR (xs.take k)=S at*;clear hS;obtain⟨g,X,Y,hg,hX,hY,eA,eB,lX,lY,hg1,hg2⟩:=VE js.out jH.out S (aB (t1,l1,e1)) (bP S) rfl;obtain⟨N,hN⟩:=aC (X+Y);obtain⟨D,hD⟩:=aC (S+aB (t1,l1,e1));have HD:Hid (aB (au N,nt N.natAbs,g)=D):=by
     show _=_
     rw[tO,<-hD,<-hN,<-xj,<-eA,<-eB]
    have Ja:Hid ((nt N.natAbs).length<=34359738368):=by show _<=_;rw[<-hN];exact Nat.le_trans (Qy X Y _ lX lY) zd
    rw[hD]at bS;have xP:Hid (∀W,aF W->Calls Tryz.prog 71 #[bC S,.agg #[.bool t1,.string (bs l1),.int .i64 e1]] W λex w'=>ex=.returned (.agg #[.int .i64 g,.bool (au X),.string (bs (nt X.natAbs)),.bool (au Y),.string (bs (nt Y.natAbs))])/\Bw W w'):=λW hW=>
     Vr _ _ _ t1 l1 e1 S (aB (t1,l1,e1)) (bP S) rfl g X Y hg hX hY W js.out jH.out hW
    have LX:Hid ((nt X.natAbs).length<=34359738368):=by show _<=_;omega
    have LY:Hid ((nt Y.natAbs).length<=34359738368):=by show _<=_;omega
    have Hg:Hid (-1099511627776<=g/\g<=1099511627776):=⟨hg1,hg2⟩;have HN:=ah hN;clear eA eB hg hX hY lX lY hN hD hg1 hg2 js jH;unfold bB canon at Hs;simp only at Hs;obtain⟨r0,aj,r1,ar,r2,aG⟩:=Hr.out.g3;obtain⟨s0,bM,s1,bN,s2,cm⟩:=Hs.out.g3;have CM:=Hr.out.lt;have MM:=Hs.out.lt;go_wp2_with fail;obtain⟨R,hR⟩:∃R:World->Prop,(λW1=>ai W1 (wr.heap.size) 30 [.bool t1,.string (bs l1),.int .i64 e1]/\Bw wr W1)=R:=⟨_,rfl⟩;first|refine bG R ?hR ?_|refine bF R ?hR ?_
    case hR=>subst hR;exact⟨(ai.newAt wr _ _ (b:=wr.heap.size) rfl),zl⟩
    subst hR;rintro W1 ⟨qc,ae⟩;have Hc:=ah qc;clear qc r0 aj r1 ar r2 aG;replace Hr:=kB Hr ae;obtain⟨r0,aj,r1,ar,r2,aG⟩:=Hr.out.g3;clear s0 bM s1 bN s2 cm;replace Hs:=kB Hs ae;obtain⟨s0,bM,s1,bN,s2,cm⟩:=Hs.out.g3;obtain⟨c0,c1,c2⟩:=Hc.out.c3;replace Hb:=az Hb ae;clear ae;have HT:=ah (fX.out.below Hb.out);go_wp2_with fail;refine(xP.out _ HT.out).mono ?_;rintro e w1 ⟨rfl,ae⟩;clear r0 aj r1 ar r2 aG s0 bM s1 bN s2 cm c0 c1 c2;replace Hr:=kB Hr ae;replace Hs:=kB Hs ae;replace Hc:=kB Hc ae;obtain⟨r0,aj,r1,ar,r2,aG⟩:=Hr.out.g3;obtain⟨s0,bM,s1,bN,s2,cm⟩:=Hs.out.g3;obtain⟨c0,c1,c2⟩:=Hc.out.c3;replace Hb:=az Hb ae;clear ae;have wU:=Hr.out.lt;have anb:=Hs.out.lt;have agF:=Hc.out.lt;go_wp2_with fail;obtain⟨R,hR⟩:∃R:World->Prop,(λW2=>ai W2 (w1.heap.size) 99 [.int .i64 g,.bool (au X),.string (bs (nt X.natAbs)),.bool (au Y),.string (bs (nt Y.natAbs))]/\Bw w1 W2)=R:=⟨_,rfl⟩;first|refine bG R ?hR ?_|refine bF R ?hR ?_
    case hR=>subst hR;exact⟨(ai.newAt w1 _ _ (b:=w1.heap.size) rfl),zl⟩
    subst hR;rintro W2 ⟨qp,ae⟩;have Hp:=ah qp;clear qp r0 aj r1 ar r2 aG;replace Hr:=kB Hr ae;obtain⟨r0,aj,r1,ar,r2,aG⟩:=Hr.out.g3;clear s0 bM s1 bN s2 cm;replace Hs:=kB Hs ae;obtain⟨s0,bM,s1,bN,s2,cm⟩:=Hs.out.g3;clear c0 c1 c2;replace Hc:=kB Hc ae;obtain⟨c0,c1,c2⟩:=Hc.out.c3;obtain⟨p0,p1,p2,p3,p4⟩:=Hp.out.c5;replace Hb:=az Hb ae;clear ae;refine bD (λw'=>w'.cell? ⟨w1.heap.size,0,none⟩=some (.int .i64 g)/\w'.cell? ⟨w1.heap.size,1,none⟩=some (.bool (au X))/\w'.cell? ⟨w1.heap.size,2,none⟩=some (.string (bs (nt X.natAbs)))/\w'.cell? ⟨w1.heap.size,3,none⟩=some (.bool (au Y))/\w'.cell? ⟨w1.heap.size,4,none⟩=some (.string (bs (nt Y.natAbs)))) (λi=>Nat.blt i 9) [(0,true),(1,true),(2,true),(3,true),(6,true),(7,true),(4,false),(5,false),(8,false),(9,false)] zk zk rfl zk zc ⟨p0,p1,p2,p3,p4⟩ ?_;iterate 6 (refine pT rfl rfl ?_ (by intro w' ⟨q0,q1,q2,q3,q4⟩;go_simp;try with_reducible rfl);try simp only[UU])
    refine aJ rfl rfl (λK hK=>?_);go_simp;refine hK _ _ (λ_=>⟨aI p0,aI p1,aI p2,aI p3,aI p4⟩) ?_;clear hK K;try simp only[UU]
    refine bE (λW3=>ai W3 (W2.heap.size) 28 [.bool (au X),.string (bs (nt X.natAbs)),.bool (au Y),.string (bs (nt Y.natAbs))]/\Bw W2 W3) (by first|exact dW|exact dX) ?_;rintro W3 ⟨qv,ae⟩;clear r0 aj r1 ar r2 aG s0 bM s1 bN s2 cm c0 c1 c2 p0 p1 p2 p3 p4;have Gd:=Hr.out.lt;have agN:=Hs.out.lt;have VG:=Hc.out.lt;have agK:=Hp.out.lt;replace Hr:=kB Hr ae;replace Hs:=kB Hs ae;replace Hc:=kB Hc ae;replace Hp:=kB Hp ae;have Hv:=ah qv;clear qv;obtain⟨r0,aj,r1,ar,r2,aG⟩:=Hr.out.g3;obtain⟨s0,bM,s1,bN,s2,cm⟩:=Hs.out.g3;obtain⟨c0,c1,c2⟩:=Hc.out.c3;obtain⟨p0,p1,p2,p3,p4⟩:=Hp.out.c5;obtain⟨v0,v1,v2,v3⟩:=Hv.out.c4;replace Hb:=az Hb ae;clear ae;refine aJ rfl rfl (λK hK=>?_);go_simp;with_reducible refine(akr X Y N HN.out W2.heap.size 2 28 _ LX.out LY.out Hv.out).mono ?_
    rintro e w3 ⟨rfl,hq⟩;have ae:Bw W3 w3:=by first|exact hq|exact aO hq
    clear r0 aj r1 ar r2 aG s0 bM s1 bN s2 cm c0 c1 c2 p0 p1 p2 p3 p4 v0 v1 v2 v3;replace Hr:=kB Hr ae;replace Hs:=kB Hs ae;replace Hc:=kB Hc ae;replace Hp:=kB Hp ae;replace Hv:=kB Hv ae;obtain⟨r0,aj,r1,ar,r2,aG⟩:=Hr.out.g3;obtain⟨s0,bM,s1,bN,s2,cm⟩:=Hs.out.g3;obtain⟨c0,c1,c2⟩:=Hc.out.c3;obtain⟨p0,p1,p2,p3,p4⟩:=Hp.out.c5;obtain⟨v0,v1,v2,v3⟩:=Hv.out.c4;replace Hb:=az Hb ae;clear ae;refine hK _ _ (λ_=>⟨p0,p1,p2,p3,p4⟩) ?_;clear hK K;try simp only[UU]
    refine aJ rfl rfl (λK hK=>?_);go_simp;with_reducible refine(uB (au N) (nt N.natAbs) g D HD.out _ Ja.out Hg.out (by first|exact(fX.out.below Hb.out) |exact aF.drew (fX.out.below Hb.out) |exact aF.alloc (fX.out.below Hb.out) _|exact aF.drew (aF.alloc (fX.out.below Hb.out) _) |exact aF.alloc (aF.drew (fX.out.below Hb.out)) _)).mono ?_
    rintro e w4 ⟨rfl,hq⟩;have ae:Bw w3 w4:=by first|exact hq|exact aO hq
    clear r0 aj r1 ar r2 aG s0 bM s1 bN s2 cm c0 c1 c2 p0 p1 p2 p3 p4 v0 v1 v2 v3;replace Hr:=kB Hr ae;replace Hs:=kB Hs ae;replace Hc:=kB Hc ae;replace Hp:=kB Hp ae;replace Hv:=kB Hv ae;obtain⟨r0,aj,r1,ar,r2,aG⟩:=Hr.out.g3;obtain⟨s0,bM,s1,bN,s2,cm⟩:=Hs.out.g3;obtain⟨c0,c1,c2⟩:=Hc.out.c3;obtain⟨p0,p1,p2,p3,p4⟩:=Hp.out.c5;obtain⟨v0,v1,v2,v3⟩:=Hv.out.c4;replace Hb:=az Hb ae;clear ae;refine hK _ _ (λ_=>⟨p0,p1,p2,p3,p4⟩) ?_;clear hK K;try simp only[UU]
    refine aJ rfl rfl (λK hK=>?_);go_simp;refine hK _ _ (λh=>absurd h zd) ?_;clear hK K;try simp only[UU]
    clear r0 aj r1 ar r2 aG s0 bM s1 bN s2 cm c0 c1 c2 p0 p1 p2 p3 p4 v0 v1 v2 v3;refine bE (λw5=>ai w5 (w.heap.size) 30 [.bool false,.string (bs []),.int .i64 0]/\ai w5 (w.heap.size+1) 30 [.bool (au (dN D)),.string (bs (nt (dN D).natAbs)),.int .i64 (dE D)]/\ai w5 (wr.heap.size) 30 [.bool t1,.string (bs l1),.int .i64 e1]/\ai w5 (w1.heap.size) 99 [.int .i64 g,.bool (au X),.string (bs (nt X.natAbs)),.bool (au Y),.string (bs (nt Y.natAbs))]/\ai w5 (W2.heap.size) 28 [.bool (au X),.string (bs (nt X.natAbs)),.bool (au Y),.string (bs (nt Y.natAbs))]/\Bw w w5) ⟨(((Hr.out.so (w.heap.size+1) 0 zo _).so (w.heap.size+1) 1 zo _).so (w.heap.size+1) 2 zo _),(((Hs.out.set 0 _).set 1 _).set 2 _),(((Hc.out.so (w.heap.size+1) 0 zo _).so (w.heap.size+1) 1 zo _).so (w.heap.size+1) 2 zo _),(((Hp.out.so (w.heap.size+1) 0 zo _).so (w.heap.size+1) 1 zo _).so (w.heap.size+1) 2 zo _),(((Hv.out.so (w.heap.size+1) 0 zo _).so (w.heap.size+1) 1 zo _).so (w.heap.size+1) 2 zo _),by first|exact(((Hb.out.sc (w.heap.size+1) 0 ZS _).sc (w.heap.size+1) 1 ZS _).sc (w.heap.size+1) 2 ZS _) |exact Below.drew (((Hb.out.sc (w.heap.size+1) 0 ZS _).sc (w.heap.size+1) 1 ZS _).sc (w.heap.size+1) 2 ZS _)⟩ ?_;rintro w5 ⟨qr,qs,qc,qp,qv,ae⟩;replace Hr:=ah qr;clear qr;replace Hs:=ah qs;clear qs;replace Hc:=ah qc;clear qc;replace Hp:=ah qp;clear qp;replace Hv:=ah qv;clear qv;obtain⟨r0,aj,r1,ar,r2,aG⟩:=Hr.out.g3;obtain⟨s0,bM,s1,bN,s2,cm⟩:=Hs.out.g3;obtain⟨c0,c1,c2⟩:=Hc.out.c3;obtain⟨p0,p1,p2,p3,p4⟩:=Hp.out.c5;obtain⟨v0,v1,v2,v3⟩:=Hv.out.c4;replace Hb:=ah ae;clear ae;simp only[aU];go_wp2;go_roundw;case rel=>refine⟨k+1,by omega,by go_num,Hr.out,?_,Hb.out⟩;rw[bS.out];exact Hs.out
    case measure=>simp[intOf];omega
  . obtain rfl:k=xs.length:=by omega
    rw[List.take_length]at Hs;unfold bB canon at Hs;simp only at Hs;obtain⟨r0,aj,r1,ar,r2,aG⟩:=Hr.out.g3;obtain⟨s0,bM,s1,bN,s2,cm⟩:=Hs.out.g3;go_wp2;refine bodyPost_ret (v:=bC (jR xs)) (by simp[results,Tryz.results38,go_sem,r0,r1,r2]) rfl ⟨rfl,?_⟩;(repeat first|exact Hb.out| (refine Below.setCell ?_ (by have:=Hb.out.size;first| (dsimp only;omega) | (show _<=_;omega) | (simp<;>omega)) _) | (refine Below.alloc ?_ zt _) |refine Below.drew ?_)
theorem Sm.one :Sm 1 1:=⟨2,by rfl,by decide⟩
theorem adC {B:Nat}(xs:List Raw)(h:∀x∈xs,Sm B (aB x)):Sm (B+xs.length) (jR xs):=by
 induction xs with
 |nil=>exact Sm.zero _
 |cons x xs ih=>have h1:=h x zm;have h2:=ih (λy hy=>h y (by simp[hy]));exact(Sm.add (h1.mono (by omega:B<=B+xs.length)) h2)
theorem ady {B:Nat}(xs:List Raw)(h:∀x∈xs,Sm B (aB x)):Sm (B*xs.length+1) (jx xs):=by
 induction xs with
 |nil=>exact Sm.one
 |cons x xs ih=>have h1:=h x zm;have h2:=ih (λy hy=>h y (by simp[hy]));have:=Sm.mul h1 h2;rw[show B* (x::xs).length+1=B+(B*xs.length+1)by rw[List.length_cons,Nat.mul_add];omega];exact this
def Fit (B:Nat)(x:Raw):Prop:=Ok x/\Sm B (aB x)
theorem Fit.mono {A B:Nat}{x:Raw}(h:Fit A x)(RL:A<=B):Fit B x:=⟨h.1,h.2.mono RL⟩
theorem Sm.fit {B:Nat}{d:Dyadic}(h:Sm B d)(hB:B<=268435456):Fit B (canon d):=⟨h.ok hB,by rw[bP];exact h⟩
theorem ac3 (xs:List Raw)(B:Nat)(S:Dyadic)(hS:jR xs=S)(a:Option Addr)(cap:Nat)(w:World)(hl:∀x∈xs,Fit B x)(hB:B+xs.length<=268435456)(hx:xs.length<=1048576)
 (ha:At w a (xs.flatMap bB)) (hT:aF w):
 Calls Tryz.prog 38 #[.slice a xs.length cap] w λe w'=>e=.returned (bC S)/\Bw w w':=by
 subst hS;refine ac2 xs a cap w (λx h=>(hl x h).1) (λk=>?_) hx ha hT;refine Sm.ok (B:=B+xs.length) (Sm.mono (adC (B:=B) _ (λx h=>(hl x (List.mem_of_mem_take h)).2)) ?_) hB;rw[List.length_take];omega
theorem ac8 (xs:List Raw)(a:Option Addr)(cap:Nat)(w:World)(hl:∀x∈xs,Ok x)(hS:∀k,Ok (canon (jx (xs.take k))))(hx:xs.length<=1048576)
 (ha:At w a (xs.flatMap bB)) (hT:aF w):
 Calls Tryz.prog 35 #[.slice a xs.length cap] w λe w'=>e=.returned (bC (jx xs))/\Bw w w':=by
 have Hl:=ah hl;clear hl;have HS:=ah hS;clear hS;have Ha:=ah ha;clear ha;have fX:=ah hT;clear hT;obtain⟨I,hI⟩:∃I:Dyadic,1=I:=⟨_,rfl⟩;have HI:Hid (Dyadic.ofIntWithPrec 1 0=I):=by show _=_;rw[<-hI];rfl
 have Yd:=ah hI;clear hI;go_enter Tryz.func35,Tryz.ntmps35;have Hb:Hid (Bw w w):=Below.refl _ _;go_wp2_with fail;obtain⟨R,hR⟩:∃R:World->Prop,(λW=>ai W (w.heap.size) 30 [.bool false,.string (bs []),.int .i64 0]/\Bw w W)=R:=⟨_,rfl⟩;first|refine bG R ?hR ?_|refine bF R ?hR ?_
 case hR=>subst hR;exact⟨(ai.newAt w _ _ (b:=w.heap.size) rfl),zl⟩
 subst hR;rintro W ⟨qr,ae⟩;have Hr:=ah qr;clear qr;obtain⟨r0,aj,r1,ar,r2,aG⟩:=Hr.out.g3;replace Hb:=az Hb ae;clear ae;have HT:=ah (fX.out.below Hb.out);go_wp2_with fail;refine(ED 1 I HI.out _ zo HT.out).mono ?_;rintro e w2 ⟨rfl,ae⟩;clear r0 aj r1 ar r2 aG;replace Hr:=kB Hr ae;obtain⟨r0,aj,r1,ar,r2,aG⟩:=Hr.out.g3;replace Hb:=az Hb ae;clear ae;have wU:=Hr.out.lt;go_wp2_with fail;obtain⟨R,hR⟩:∃R:World->Prop,(λW2=>ai W2 (w2.heap.size) 30 [.bool (au (dN I)),.string (bs (nt (dN I).natAbs)),.int .i64 (dE I)]/\Bw w2 W2)=R:=⟨_,rfl⟩;first|refine bG R ?hR ?_|refine bF R ?hR ?_
 case hR=>subst hR;exact⟨(ai.newAt w2 _ _ (b:=w2.heap.size) rfl),zl⟩
 subst hR;rintro W2 ⟨qs,ae⟩;have Hs:=ah qs;clear qs r0 aj r1 ar r2 aG;replace Hr:=kB Hr ae;obtain⟨r0,aj,r1,ar,r2,aG⟩:=Hr.out.g3;obtain⟨s0,bM,s1,bN,s2,cm⟩:=Hs.out.g3;replace Hb:=az Hb ae;clear ae
 go_loopw[5,9] (λ_ i wr=>∃(k:Nat),k<=xs.length/\i=.int .i64 k/\ai wr w.heap.size 30 [.bool false,.string (bs []),.int .i64 0]/\
  ai wr w2.heap.size 30 (bB (canon (jx (xs.take k))))/\Bw w wr) (λ_ i _=>xs.length-(intOf i).toNat)
 case atStart=>
  refine⟨0,Nat.zero_le _,rfl,Hr.out,?_,Hb.out⟩;have e:jx (xs.take 0)=I:=by rw[<-Yd.out];rfl
  rw[e];exact Hs.out
 case round=>
  obtain⟨k,hk,rfl,qr,qs,hb⟩:=hrel;replace Hr:=ah qr;replace Hs:=ah qs;replace Hb:=ah hb;clear qr qs hb r0 r1 r2 aj ar aG s0 s1 s2 bM bN cm HT;by_cases hlt:k<xs.length
  . obtain ⟨b,o,hab,hcs⟩:=(Ha.out.below Hb.out).elem (f:=bB) (sz:=3) (fun _=>rfl) zd k hlt;have hc0:wr.cell? ⟨b,o+k*3,none⟩=some (.bool xs[k].1):=hcs 0 zd;have hc1:wr.cell? ⟨b,o+k*3+1,none⟩=some (.string (bs xs[k].2.1)):=hcs 1 zd;have hc2:wr.cell? ⟨b,o+k*3+2,none⟩=some (.int .i64 xs[k].2.2):=hcs 2 zd;have bA:=mo xs.length cap k (k:Int) hab hlt rfl;have bS:=ah (adz xs k hlt);have jH:Hid (Ok xs[k]):=Hl.out _ (List.getElem_mem hlt);have js:=ah (HS.out k);clear hcs hab;generalize xs[k]=x at*;obtain⟨t1,l1,e1⟩:=x;generalize hS:jx (xs.take k)=S at*;clear hS;obtain⟨N,hN⟩:=aC (dN S*iv t1 l1);obtain⟨D,hD⟩:=aC (S*aB (t1,l1,e1));obtain⟨g,hg⟩:=aC (dE S+e1);have HD:Hid (aB (au N,nt N.natAbs,g)=D):=by
     show _=_
     rw[tO,<-hD,<-hN];conv=>rhs;rw[qX S]
     unfold aB;rw[uJ];congr 1;simp only;omega
    have o1:=js.out.exp;have o2:=jH.out.exp;have o3:=js.out.len;have o4:=jH.out.len;have Ja:Hid ((nt N.natAbs).length<=34359738368):=by
     show _<=_
     have h2:=CN t1 l1 268435456 o4;rw[Int.natAbs_neg]at h2;rw[<-hN];exact Nat.le_trans (ag7 (dN S) (iv t1 l1) _ _ o3 h2) zd
    rw[hD]at bS;have LX:Hid ((nt (dN S).natAbs).length<=17179869184):=by show _<=_;omega
    have LY:Hid (l1.length<=17179869184):=by show _<=_;omega
    have Hg:Hid (-1099511627776<=g/\g<=1099511627776):=by show _/\_;omega
    have UR:IntKind.i64.wrap (dE S+e1)=g:=by rw[IntKind.wrap_i64];omega
    have HN:Hid (iv (au (dN S)) (nt (dN S).natAbs) *iv t1 l1=N):=by show _=_;rw[eV];exact hN
    clear hg hN hD js jH o1 o2 o3 o4;unfold bB canon at Hs;simp only at Hs;have hrs:w.heap.size<w2.heap.size:=wU;obtain⟨r0,aj,r1,ar,r2,aG⟩:=Hr.out.g3;obtain⟨s0,bM,s1,bN,s2,cm⟩:=Hs.out.g3;have CM:=Hr.out.lt;have MM:=Hs.out.lt;go_wp2_with fail;obtain⟨R,hR⟩:∃R:World->Prop,(λW1=>ai W1 (wr.heap.size) 30 [.bool t1,.string (bs l1),.int .i64 e1]/\Bw wr W1)=R:=⟨_,rfl⟩;first|refine bG R ?hR ?_|refine bF R ?hR ?_
    case hR=>subst hR;exact⟨(ai.newAt wr _ _ (b:=wr.heap.size) rfl),zl⟩
    subst hR;rintro W1 ⟨qc,ae⟩;have Hc:=ah qc;clear qc r0 aj r1 ar r2 aG;replace Hr:=kB Hr ae;obtain⟨r0,aj,r1,ar,r2,aG⟩:=Hr.out.g3;clear s0 bM s1 bN s2 cm;replace Hs:=kB Hs ae;obtain⟨s0,bM,s1,bN,s2,cm⟩:=Hs.out.g3;obtain⟨c0,c1,c2⟩:=Hc.out.c3;replace Hb:=az Hb ae;clear ae;refine bD (λw'=>w'.cell? ⟨wr.heap.size,0,none⟩=some (.bool t1)/\w'.cell? ⟨wr.heap.size,1,none⟩=some (.string (bs l1))/\w'.cell? ⟨wr.heap.size,2,none⟩=some (.int .i64 e1)/\w'.cell? ⟨w2.heap.size,0,none⟩=some (.bool (au (dN S)))/\w'.cell? ⟨w2.heap.size,1,none⟩=some (.string (bs (nt (dN S).natAbs)))/\w'.cell? ⟨w2.heap.size,2,none⟩=some (.int .i64 (dE S))) (λi=>Nat.blt i 12) [(0,true),(1,true),(2,true),(3,true),(6,true),(7,true),(8,true),(9,true),(10,true),(4,false),(5,false),(11,false),(12,false)] zk zk rfl zk zc ⟨c0,c1,c2,s0,s1,s2⟩ ?_;iterate 9 (refine pT rfl rfl ?_ (by intro w' ⟨q0,q1,q2,q3,q4,q5⟩;go_simp;try with_reducible rfl);try simp only[UU])
    refine aJ rfl rfl (λK hK=>?_);go_simp;refine hK _ _ (λ_=>⟨aI c0,aI c1,aI c2,aI s0,aI s1,aI s2⟩) ?_;clear hK K;try simp only[UU]
    refine bE (λW3=>ai W3 (W1.heap.size) 28 [.bool (au (dN S)),.string (bs (nt (dN S).natAbs)),.bool t1,.string (bs l1)]/\Bw W1 W3) (by first|exact dW|exact dX) ?_;rintro W3 ⟨qv,ae⟩;clear r0 aj r1 ar r2 aG s0 bM s1 bN s2 cm c0 c1 c2;have Gd:=Hr.out.lt;have agN:=Hs.out.lt;have VG:=Hc.out.lt;replace Hr:=kB Hr ae;replace Hs:=kB Hs ae;replace Hc:=kB Hc ae;have Hv:=ah qv;clear qv;obtain⟨r0,aj,r1,ar,r2,aG⟩:=Hr.out.g3;obtain⟨s0,bM,s1,bN,s2,cm⟩:=Hs.out.g3;obtain⟨c0,c1,c2⟩:=Hc.out.c3;obtain⟨v0,v1,v2,v3⟩:=Hv.out.c4;replace Hb:=az Hb ae;clear ae;refine aJ rfl rfl (λK hK=>?_);go_simp;with_reducible refine(XH (au (dN S)) (nt (dN S).natAbs) t1 l1 N HN.out W1.heap.size 2 28 _ LX.out LY.out Hv.out).mono ?_
    rintro e w3 ⟨rfl,hq⟩;have ae:Bw W3 w3:=by first|exact hq|exact aO hq
    clear r0 aj r1 ar r2 aG s0 bM s1 bN s2 cm c0 c1 c2 v0 v1 v2 v3;replace Hr:=kB Hr ae;replace Hs:=kB Hs ae;replace Hc:=kB Hc ae;replace Hv:=kB Hv ae;obtain⟨r0,aj,r1,ar,r2,aG⟩:=Hr.out.g3;obtain⟨s0,bM,s1,bN,s2,cm⟩:=Hs.out.g3;obtain⟨c0,c1,c2⟩:=Hc.out.c3;obtain⟨v0,v1,v2,v3⟩:=Hv.out.c4;replace Hb:=az Hb ae;clear ae;refine hK _ _ (λ_=>⟨c0,c1,c2,s0,s1,s2⟩) ?_;clear hK K;try simp only[UU]
    refine aJ rfl rfl (λK hK=>?_);go_simp;with_reducible refine(uB (au N) (nt N.natAbs) g D HD.out _ Ja.out Hg.out (by first|exact(fX.out.below Hb.out) |exact aF.drew (fX.out.below Hb.out) |exact aF.alloc (fX.out.below Hb.out) _|exact aF.drew (aF.alloc (fX.out.below Hb.out) _) |exact aF.alloc (aF.drew (fX.out.below Hb.out)) _)).mono ?_
    rintro e w4 ⟨rfl,hq⟩;have ae:Bw w3 w4:=by first|exact hq|exact aO hq
    clear r0 aj r1 ar r2 aG s0 bM s1 bN s2 cm c0 c1 c2 v0 v1 v2 v3;replace Hr:=kB Hr ae;replace Hs:=kB Hs ae;replace Hc:=kB Hc ae;replace Hv:=kB Hv ae;obtain⟨r0,aj,r1,ar,r2,aG⟩:=Hr.out.g3;obtain⟨s0,bM,s1,bN,s2,cm⟩:=Hs.out.g3;obtain⟨c0,c1,c2⟩:=Hc.out.c3;obtain⟨v0,v1,v2,v3⟩:=Hv.out.c4;replace Hb:=az Hb ae;clear ae;refine hK _ _ (λ_=>⟨c0,c1,c2,s0,s1,s2⟩) ?_;clear hK K;try simp only[UU]
    refine aJ rfl rfl (λK hK=>?_);go_simp;refine hK _ _ (λh=>absurd h zd) ?_;clear hK K;try simp only[UU]
    clear r0 aj r1 ar r2 aG s0 bM s1 bN s2 cm c0 c1 c2 v0 v1 v2 v3;refine bE (λw5=>ai w5 (w.heap.size) 30 [.bool false,.string (bs []),.int .i64 0]/\ai w5 (w2.heap.size) 30 [.bool (au (dN D)),.string (bs (nt (dN D).natAbs)),.int .i64 (dE D)]/\ai w5 (wr.heap.size) 30 [.bool t1,.string (bs l1),.int .i64 e1]/\ai w5 (W1.heap.size) 28 [.bool (au (dN S)),.string (bs (nt (dN S).natAbs)),.bool t1,.string (bs l1)]/\Bw w w5) ⟨(((Hr.out.so (w2.heap.size) 0 zo _).so (w2.heap.size) 1 zo _).so (w2.heap.size) 2 zo _),(((Hs.out.set 0 _).set 1 _).set 2 _),(((Hc.out.so (w2.heap.size) 0 zo _).so (w2.heap.size) 1 zo _).so (w2.heap.size) 2 zo _),(((Hv.out.so (w2.heap.size) 0 zo _).so (w2.heap.size) 1 zo _).so (w2.heap.size) 2 zo _),by first|exact(((Hb.out.sc (w2.heap.size) 0 ZS _).sc (w2.heap.size) 1 ZS _).sc (w2.heap.size) 2 ZS _) |exact Below.drew (((Hb.out.sc (w2.heap.size) 0 ZS _).sc (w2.heap.size) 1 ZS _).sc (w2.heap.size) 2 ZS _)⟩ ?_;rintro w5 ⟨qr,qs,qc,qv,ae⟩;replace Hr:=ah qr;clear qr;replace Hs:=ah qs;clear qs;replace Hc:=ah qc;clear qc;replace Hv:=ah qv;clear qv;obtain⟨r0,aj,r1,ar,r2,aG⟩:=Hr.out.g3;obtain⟨s0,bM,s1,bN,s2,cm⟩:=Hs.out.g3;obtain⟨c0,c1,c2⟩:=Hc.out.c3;obtain⟨v0,v1,v2,v3⟩:=Hv.out.c4;replace Hb:=ah ae;clear ae;simp only[aU];go_wp2;go_roundw;case rel=>refine⟨k+1,by omega,by go_num,Hr.out,?_,Hb.out⟩;rw[bS.out];exact Hs.out
    case measure=>simp[intOf];omega
  . obtain rfl:k=xs.length:=by omega
    rw[List.take_length]at Hs;unfold bB canon at Hs;simp only at Hs;obtain⟨r0,aj,r1,ar,r2,aG⟩:=Hr.out.g3;obtain⟨s0,bM,s1,bN,s2,cm⟩:=Hs.out.g3;go_wp2;refine bodyPost_ret (v:=bC (jx xs)) (by simp[results,Tryz.results35,go_sem,r0,r1,r2]) rfl ⟨rfl,?_⟩;(repeat first|exact Hb.out| (refine Below.setCell ?_ (by have:=Hb.out.size;first| (dsimp only;omega) | (show _<=_;omega) | (simp<;>omega)) _) | (refine Below.alloc ?_ zt _) |refine Below.drew ?_)
theorem ac9 (xs:List Raw)(B:Nat)(S:Dyadic)(hS:jx xs=S)(a:Option Addr)(cap:Nat)(w:World)(hl:∀x∈xs,Fit B x)(hB:B*xs.length+1<=268435456)(hx:xs.length<=1048576)
 (ha:At w a (xs.flatMap bB)) (hT:aF w):
 Calls Tryz.prog 35 #[.slice a xs.length cap] w λe w'=>e=.returned (bC S)/\Bw w w':=by
 subst hS;refine ac8 xs a cap w (λx h=>(hl x h).1) (λk=>?_) hx ha hT;refine Sm.ok (B:=B*xs.length+1) (Sm.mono (ady (B:=B) _ (λx h=>(hl x (List.mem_of_mem_take h)).2)) ?_) hB;rw[List.length_take];have:B*min k xs.length<=B*xs.length:=Nat.mul_le_mul_left _ zo;omega
theorem Bh (s:Bool)(l:List UInt8)(e:Int)(t:Bool)(m:List UInt8)(f:Int)(S:Dyadic)(B:Nat)(hS:aB (s,l,e)+aB (t,m,f)=S)(b cap:Nat)(ty:TypeId)(w:World)(hx:Fit B (s,l,e))(hy:Fit B (t,m,f))(hB:B+2<=268435456)
 (ha:ai w b ty [.bool s,.string (bs l),.int .i64 e,.bool t,.string (bs m),.int .i64 f]) (hT:aF w):
 Calls Tryz.prog 38 #[.slice (some ⟨b,0,none⟩) 2 cap] w λe w'=>e=.returned (bC S)/\Bw w w':=
 ac3 [(s,l,e),(t,m,f)] B S (by rw[<-hS];simp only[jR];grind) _ cap w (by intro x h;simp at h;rcases h with rfl|rfl;exact hx;exact hy) hB zm (At.an6 ha) hT
theorem Bi (s:Bool)(l:List UInt8)(e:Int)(t:Bool)(m:List UInt8)(f:Int)(S:Dyadic)(B:Nat)(hS:aB (s,l,e) *aB (t,m,f)=S)(b cap:Nat)(ty:TypeId)(w:World)(hx:Fit B (s,l,e))(hy:Fit B (t,m,f))(hB:2*B+1<=268435456)
 (ha:ai w b ty [.bool s,.string (bs l),.int .i64 e,.bool t,.string (bs m),.int .i64 f]) (hT:aF w):
 Calls Tryz.prog 35 #[.slice (some ⟨b,0,none⟩) 2 cap] w λe w'=>e=.returned (bC S)/\Bw w w':=
 ac9 [(s,l,e),(t,m,f)] B S (by rw[<-hS];simp only[jx];grind) _ cap w (by intro x h;simp at h;rcases h with rfl|rfl;exact hx;exact hy) zi zm (At.an6 ha) hT
theorem yj (s:Bool)(l:List UInt8)(e:Int)(t:Bool)(m:List UInt8)(f:Int)(S:Dyadic)(B:Nat)(hS:aB (s,l,e)-aB (t,m,f)=S)(w:World)(hx:Fit B (s,l,e))(hy:Fit B (t,m,f))(hB:B+2<=268435456)(hT:aF w):
 Calls Tryz.prog 56 #[.agg #[.bool s,.string (bs l),.int .i64 e],.agg #[.bool t,.string (bs m),.int .i64 f]] w λe w'=>e=.returned (bC S)/\Bw w w':=by
 obtain⟨D,hD⟩:=aC (-aB (t,m,f));have Hn:Hid (Fit B (au (dN D),nt (dN D).natAbs,dE D)):=by rw[<-hD];exact(hy.2.neg).fit zo
 have HS:Hid (aB (s,l,e)+aB (au (dN D),nt (dN D).natAbs,dE D)=S):=by show _+aB (canon D)=_;rw[bP,<-hD,<-hS];grind
 obtain⟨Hyo,HD,pW,jv⟩:=dO hy.1 hD hx hy;clear hD hx hy hS;go_enter Tryz.func56,Tryz.ntmps56;have Hb:Hid (Bw w w):=Below.refl _ _;go_wp2_with fail;obtain⟨R,hR⟩:∃R:World->Prop,(λW=>ai W (w.heap.size) 30 [.bool s,.string (bs l),.int .i64 e]/\ai W (w.heap.size+1) 30 [.bool t,.string (bs m),.int .i64 f]/\ai W (w.heap.size+1+1) 30 [.bool false,.string (bs []),.int .i64 0]/\Bw w W)=R:=⟨_,rfl⟩;first|refine bG R ?hR ?_|refine bF R ?hR ?_
 case hR=>subst hR;exact⟨(((ai.newAt w _ _ (b:=w.heap.size) rfl).alloc _).alloc _),((ai.newAt (w.alloc _) _ _ (b:=w.heap.size+1) zm).alloc _),(ai.newAt ((w.alloc _).alloc _) _ _ (b:=w.heap.size+1+1) zm),((zl.alloc zj _).alloc zj _)⟩
 subst hR;rintro W ⟨qx,qy,qr,ae⟩;have Hx:=ah qx;clear qx;have Hy:=ah qy;clear qy;have Hr:=ah qr;clear qr;obtain⟨x0,x1,x2⟩:=Hx.out.c3;obtain⟨y0,y1,y2⟩:=Hy.out.c3;obtain⟨r0,aj,r1,ar,r2,aG⟩:=Hr.out.g3;replace Hb:=az Hb ae;clear ae;refine bD (λw'=>w'.cell? ⟨w.heap.size,0,none⟩=some (.bool s)/\w'.cell? ⟨w.heap.size,1,none⟩=some (.string (bs l))/\w'.cell? ⟨w.heap.size,2,none⟩=some (.int .i64 e)/\w'.cell? ⟨w.heap.size+1,0,none⟩=some (.bool t)/\w'.cell? ⟨w.heap.size+1,1,none⟩=some (.string (bs m))/\w'.cell? ⟨w.heap.size+1,2,none⟩=some (.int .i64 f)) (λi=>Nat.blt i 5) [(0,true),(1,true),(2,false),(3,false),(4,false),(5,false)] zk zk rfl zk zc ⟨x0,x1,x2,y0,y1,y2⟩ ?_;iterate 2 (refine pT rfl rfl ?_ (by intro w' ⟨q0,q1,q2,q3,q4,q5⟩;go_simp;try with_reducible rfl);try simp only[UU])
 refine aJ rfl rfl (λK hK=>?_);go_simp;with_reducible refine(Kn t m f D HD.out _ Hyo.out (by first|exact(hT.below Hb.out) |exact aF.drew (hT.below Hb.out) |exact aF.alloc (hT.below Hb.out) _|exact aF.drew (aF.alloc (hT.below Hb.out) _) |exact aF.alloc (aF.drew (hT.below Hb.out)) _)).mono ?_
 rintro e w1 ⟨rfl,hq⟩;have ae:Bw W w1:=by first|exact hq|exact aO hq
 clear x0 x1 x2 y0 y1 y2 r0 aj r1 ar r2 aG;replace Hx:=kB Hx ae;replace Hy:=kB Hy ae;replace Hr:=kB Hr ae;obtain⟨x0,x1,x2⟩:=Hx.out.c3;obtain⟨y0,y1,y2⟩:=Hy.out.c3;obtain⟨r0,aj,r1,ar,r2,aG⟩:=Hr.out.g3;replace Hb:=az Hb ae;clear ae;refine hK _ _ (λ_=>⟨x0,x1,x2,y0,y1,y2⟩) ?_;clear hK K;try simp only[UU]
 refine aJ rfl rfl (λK hK=>?_);go_simp;refine hK _ _ (λ_=>⟨aI x0,aI x1,aI x2,aI y0,aI y1,aI y2⟩) ?_;clear hK K;try simp only[UU]
 refine bE (λW1=>ai W1 (w1.heap.size) 30 [.bool s,.string (bs l),.int .i64 e,.bool (au (dN D)),.string (bs (nt (dN D).natAbs)),.int .i64 (dE D)]/\Bw w1 W1) (by first|exact dW|exact dX) ?_;rintro W1 ⟨qv,ae⟩;clear x0 x1 x2 y0 y1 y2 r0 aj r1 ar r2 aG;have agO:=Hx.out.lt;have agQ:=Hy.out.lt;have CM:=Hr.out.lt;replace Hx:=kB Hx ae;replace Hy:=kB Hy ae;replace Hr:=kB Hr ae;have Hv:=ah qv;clear qv;obtain⟨x0,x1,x2⟩:=Hx.out.c3;obtain⟨y0,y1,y2⟩:=Hy.out.c3;obtain⟨r0,aj,r1,ar,r2,aG⟩:=Hr.out.g3;obtain⟨v0,v1,v2,v3,v4,v5⟩:=Hv.out.c6;replace Hb:=az Hb ae;clear ae;refine aJ rfl rfl (λK hK=>?_);go_simp;with_reducible refine(Bh s l e (au (dN D)) (nt (dN D).natAbs) (dE D) S B HS.out w1.heap.size 2 30 _ pW.out Hn.out hB Hv.out (by first|exact(hT.below Hb.out) |exact aF.drew (hT.below Hb.out) |exact aF.alloc (hT.below Hb.out) _|exact aF.drew (aF.alloc (hT.below Hb.out) _) |exact aF.alloc (aF.drew (hT.below Hb.out)) _)).mono ?_
 rintro e w2 ⟨rfl,hq⟩;have ae:Bw W1 w2:=by first|exact hq|exact aO hq
 clear x0 x1 x2 y0 y1 y2 r0 aj r1 ar r2 aG v0 v1 v2 v3 v4 v5;replace Hx:=kB Hx ae;replace Hy:=kB Hy ae;replace Hr:=kB Hr ae;replace Hv:=kB Hv ae;obtain⟨x0,x1,x2⟩:=Hx.out.c3;obtain⟨y0,y1,y2⟩:=Hy.out.c3;obtain⟨r0,aj,r1,ar,r2,aG⟩:=Hr.out.g3;obtain⟨v0,v1,v2,v3,v4,v5⟩:=Hv.out.c6;replace Hb:=az Hb ae;clear ae;refine hK _ _ (λ_=>⟨x0,x1,x2,y0,y1,y2⟩) ?_;clear hK K;try simp only[UU]
 refine aJ rfl rfl (λK hK=>?_);go_simp;refine hK _ _ (λh=>absurd h zd) ?_;clear hK K;try simp only[UU]
 clear x0 x1 x2 y0 y1 y2 r0 aj r1 ar r2 aG v0 v1 v2 v3 v4 v5;refine bE (λw3=>ai w3 (w.heap.size) 30 [.bool s,.string (bs l),.int .i64 e]/\ai w3 (w.heap.size+1) 30 [.bool t,.string (bs m),.int .i64 f]/\ai w3 (w.heap.size+1+1) 30 [.bool (au (dN S)),.string (bs (nt (dN S).natAbs)),.int .i64 (dE S)]/\ai w3 (w1.heap.size) 30 [.bool s,.string (bs l),.int .i64 e,.bool (au (dN D)),.string (bs (nt (dN D).natAbs)),.int .i64 (dE D)]/\Bw w w3) ⟨(((Hx.out.so (w.heap.size+1+1) 0 zo _).so (w.heap.size+1+1) 1 zo _).so (w.heap.size+1+1) 2 zo _),(((Hy.out.so (w.heap.size+1+1) 0 zo _).so (w.heap.size+1+1) 1 zo _).so (w.heap.size+1+1) 2 zo _),(((Hr.out.set 0 _).set 1 _).set 2 _),(((Hv.out.so (w.heap.size+1+1) 0 zo _).so (w.heap.size+1+1) 1 zo _).so (w.heap.size+1+1) 2 zo _),by first|exact(((Hb.out.sc (w.heap.size+1+1) 0 ZS _).sc (w.heap.size+1+1) 1 ZS _).sc (w.heap.size+1+1) 2 ZS _) |exact Below.drew (((Hb.out.sc (w.heap.size+1+1) 0 ZS _).sc (w.heap.size+1+1) 1 ZS _).sc (w.heap.size+1+1) 2 ZS _)⟩ ?_;rintro w3 ⟨qx,qy,qr,qv,ae⟩;replace Hx:=ah qx;clear qx;replace Hy:=ah qy;clear qy;replace Hr:=ah qr;clear qr;replace Hv:=ah qv;clear qv;obtain⟨x0,x1,x2⟩:=Hx.out.c3;obtain⟨y0,y1,y2⟩:=Hy.out.c3;obtain⟨r0,aj,r1,ar,r2,aG⟩:=Hr.out.g3;obtain⟨v0,v1,v2,v3,v4,v5⟩:=Hv.out.c6;replace Hb:=ah ae;clear ae;simp only[aU];go_wp2;refine bodyPost_ret (v:=bC S) (by simp[results,Tryz.results56,go_sem,r0,r1,r2]) rfl ⟨rfl,?_⟩;(repeat first|exact Hb.out| (refine Below.setCell ?_ (by have:=Hb.out.size;first| (dsimp only;omega) | (show _<=_;omega) | (simp<;>omega)) _) | (refine Below.alloc ?_ zt _) |refine Below.drew ?_)
theorem Ks (n k:Int):bW (Dyadic.ofIntWithPrec n k)=dP n:=by have h:=NN (au n) (nt n.natAbs) (-k);rw[tO,eV,Int.neg_neg]at h;exact h.symm
theorem ac6 (s:Bool)(l:List UInt8)(e:Int)(t:Bool)(m:List UInt8)(f:Int)(c:Int)(hc:bW (aB (s,l,e)-aB (t,m,f))=c)(w:World)(hx:Ok (s,l,e))(hy:Ok (t,m,f))(hT:aF w):
 Calls Tryz.prog 34 #[.agg #[.bool s,.string (bs l),.int .i64 e],.agg #[.bool t,.string (bs m),.int .i64 f]] w λe w'=>e=.returned (.int .i64 c)/\Bw w w':=by
 obtain⟨g,X,Y,hg,hX,hY,eA,eB,lX,lY,hg1,hg2⟩:=VE hx hy _ _ rfl rfl;have Lv:dP (X-Y)=c:=by rw[<-hc,eA,eB,show ∀a b:Dyadic,a-b=a+ -b from λa b=>by grind,CR,xj,Ks];rfl
 obtain⟨u,hu⟩:=aC (bW (aB (s,l,e)));obtain⟨v,hv⟩:=aC (bW (aB (t,m,f)));have hu2:dP X=u:=by rw[<-hu,eA,Ks]
 have hv2:dP Y=v:=by rw[<-hv,eB,Ks]
 have ru: -1<=u/\u<=1:=by rw[<-hu2];unfold dP;split<;>(try split)<;>omega
 have rv: -1<=v/\v<=1:=by rw[<-hv2];unfold dP;split<;>(try split)<;>omega
 have xP:Hid (∀W,aF W->Calls Tryz.prog 71 #[.agg #[.bool s,.string (bs l),.int .i64 e],.agg #[.bool t,.string (bs m),.int .i64 f]] W λex w'=>ex=.returned (.agg #[.int .i64 g,.bool (au X),.string (bs (nt X.natAbs)),.bool (au Y),.string (bs (nt Y.natAbs))])/\Bw W w'):=λW hW=>
  Vr s l e t m f _ _ rfl rfl g X Y hg hX hY W hx hy hW
 have ID:Hid (∀W,Calls Tryz.prog 72 #[cB X,cB Y] W λex w'=>ex=.returned (.int .i64 c)/\Bw W w'):=λW=>by
  have:=akt (au X) (nt X.natAbs) (au Y) (nt Y.natAbs) W zo zo (by rw[eV,eV,Int.sub_eq_add_neg];exact Nat.le_trans (Qy X (-Y) 17179869183 lX (by rw[Int.natAbs_neg];exact lY)) zd)
  rw[eV,eV,Lv]at this;exact this
 have hcl:¬u=v->max (-1) (min 1 (u-v))=c:=by intro hne;rw[<-Lv];rw[<-hu2,<-hv2]at hne⊢;unfold dP at*;split<;>split<;>(try split)<;>(try split)<;>(try split)<;>omega
 have hwr:IntKind.i64.wrap (u-v)=u-v:=by rw[IntKind.wrap_i64];omega
 obtain⟨Hu,Hv,pW,jv⟩:=dO hu hv hx hy;clear hu hv hu2 hv2 hx hy Lv hc eA eB hX hY hg;go_enter Tryz.func34,Tryz.ntmps34;have Hb:Hid (Bw w w):=Below.refl _ _;go_wp2_with fail;obtain⟨R,hR⟩:∃R:World->Prop,(λW=>ai W (w.heap.size) 30 [.bool s,.string (bs l),.int .i64 e]/\ai W (w.heap.size+1) 30 [.bool t,.string (bs m),.int .i64 f]/\Bw w W)=R:=⟨_,rfl⟩;first|refine bG R ?hR ?_|refine bF R ?hR ?_
 case hR=>subst hR;exact⟨((ai.newAt w _ _ (b:=w.heap.size) rfl).alloc _),(ai.newAt (w.alloc _) _ _ (b:=w.heap.size+1) zm),(zl.alloc zj _)⟩
 subst hR;rintro W ⟨qx,qy,ae⟩;have Hx:=ah qx;clear qx;have Hy:=ah qy;clear qy;obtain⟨x0,x1,x2⟩:=Hx.out.c3;obtain⟨y0,y1,y2⟩:=Hy.out.c3;replace Hb:=az Hb ae;clear ae;refine bD (λw'=>w'.cell? ⟨w.heap.size,0,none⟩=some (.bool s)/\w'.cell? ⟨w.heap.size,1,none⟩=some (.string (bs l))/\w'.cell? ⟨w.heap.size,2,none⟩=some (.int .i64 e)/\w'.cell? ⟨w.heap.size+1,0,none⟩=some (.bool t)/\w'.cell? ⟨w.heap.size+1,1,none⟩=some (.string (bs m))/\w'.cell? ⟨w.heap.size+1,2,none⟩=some (.int .i64 f)) (λi=>Nat.blt i 100000) [(0,true),(2,true),(1,false),(3,false),(4,true),(5,true)] zk zk rfl zk zc ⟨x0,x1,x2,y0,y1,y2⟩ ?_;iterate 2 (refine pT rfl rfl ?_ (by intro w' ⟨q0,q1,q2,q3,q4,q5⟩;go_simp;try with_reducible rfl);try simp only[UU])
 refine aJ rfl rfl (λK hK=>?_);go_simp;with_reducible refine(mL s l e u Hu.out _ pW.out).mono ?_
 rintro e w1 ⟨rfl,hq⟩;have ae:Bw W w1:=by first|exact hq|exact aO hq
 clear x0 x1 x2 y0 y1 y2;replace Hx:=kB Hx ae;replace Hy:=kB Hy ae;obtain⟨x0,x1,x2⟩:=Hx.out.c3;obtain⟨y0,y1,y2⟩:=Hy.out.c3;replace Hb:=az Hb ae;clear ae;refine hK _ _ (λ_=>⟨x0,x1,x2,y0,y1,y2⟩) ?_;clear hK K;try simp only[UU]
 refine aJ rfl rfl (λK hK=>?_);go_simp;with_reducible refine(mL t m f v Hv.out _ jv.out).mono ?_
 rintro e w2 ⟨rfl,hq⟩;have ae:Bw w1 w2:=by first|exact hq|exact aO hq
 clear x0 x1 x2 y0 y1 y2;replace Hx:=kB Hx ae;replace Hy:=kB Hy ae;obtain⟨x0,x1,x2⟩:=Hx.out.c3;obtain⟨y0,y1,y2⟩:=Hy.out.c3;replace Hb:=az Hb ae;clear ae;refine hK _ _ (λ_=>⟨x0,x1,x2,y0,y1,y2⟩) ?_;clear hK K;try simp only[UU]
 iterate 2 (refine pT rfl rfl ?_;try simp only[UU])
 simp only[aU];by_cases sK:u=v
 . subst sK;clear hcl;go_wp2_with fail;have HT:=ah (hT.below Hb.out);go_wp2_with fail;refine(xP.out _ HT.out).mono ?_;rintro e w3 ⟨rfl,ae⟩;clear x0 x1 x2 y0 y1 y2;replace Hx:=kB Hx ae;replace Hy:=kB Hy ae;obtain⟨x0,x1,x2⟩:=Hx.out.c3;obtain⟨y0,y1,y2⟩:=Hy.out.c3;replace Hb:=az Hb ae;clear ae;have ano:=Hx.out.lt;have anr:=Hy.out.lt;go_wp2_with fail;obtain⟨R,hR⟩:∃R:World->Prop,(λW4=>ai W4 (w3.heap.size) 99 [.int .i64 g,.bool (au X),.string (bs (nt X.natAbs)),.bool (au Y),.string (bs (nt Y.natAbs))]/\Bw w3 W4)=R:=⟨_,rfl⟩;first|refine bG R ?hR ?_|refine bF R ?hR ?_
   case hR=>subst hR;exact⟨(ai.newAt w3 _ _ (b:=w3.heap.size) rfl),zl⟩
   subst hR;rintro W4 ⟨qp,ae⟩;have Hp:=ah qp;clear qp x0 x1 x2;replace Hx:=kB Hx ae;obtain⟨x0,x1,x2⟩:=Hx.out.c3;clear y0 y1 y2;replace Hy:=kB Hy ae;obtain⟨y0,y1,y2⟩:=Hy.out.c3;obtain⟨p0,p1,p2,p3,p4⟩:=Hp.out.c5;replace Hb:=az Hb ae;clear ae;go_wp2_with fail;refine(ID.out _).mono ?_;rintro e w5 ⟨rfl,ae⟩;clear x0 x1 x2 y0 y1 y2 p0 p1 p2 p3 p4;replace Hx:=kB Hx ae;replace Hy:=kB Hy ae;replace Hp:=kB Hp ae;obtain⟨x0,x1,x2⟩:=Hx.out.c3;obtain⟨y0,y1,y2⟩:=Hy.out.c3;obtain⟨p0,p1,p2,p3,p4⟩:=Hp.out.c5;replace Hb:=az Hb ae;clear ae;go_wp2;go_ret;exact⟨rfl,Hb.out⟩
 . have hcl:=hcl sK;have amn:(u !=v)=true:=by simp[sK]
   go_wp2;go_ret;exact⟨rfl,Hb.out⟩
theorem acZ (s:Bool)(l:List UInt8)(e:Int)(D:Dyadic)(hD:(if bW (aB (s,l,e))<0 then-aB (s,l,e)else aB (s,l,e))=D)(w:World)(hx:Ok (s,l,e))(hT:aF w):
 Calls Tryz.prog 31 #[.agg #[.bool s,.string (bs l),.int .i64 e]] w λex w'=>ex=.returned (bC D)/\Bw w w':=by
 obtain⟨u,hu⟩:=aC (bW (aB (s,l,e)));have pW:=ah hx;clear hx;have Hu:=ah hu;rw[hu]at hD;clear hu;by_cases h:u<0
 . rw[if_pos h]at hD;have HD:=ah hD;clear hD;go_enter Tryz.func31,Tryz.ntmps31;have Hb:Hid (Bw w w):=Below.refl _ _;go_wp2_with fail;obtain⟨R,hR⟩:∃R:World->Prop,(λW=>ai W (w.heap.size) 30 [.bool s,.string (bs l),.int .i64 e]/\ai W (w.heap.size+1) 30 [.bool false,.string (bs []),.int .i64 0]/\Bw w W)=R:=⟨_,rfl⟩;first|refine bG R ?hR ?_|refine bF R ?hR ?_
   case hR=>subst hR;exact⟨((ai.newAt w _ _ (b:=w.heap.size) rfl).alloc _),(ai.newAt (w.alloc _) _ _ (b:=w.heap.size+1) zm),(zl.alloc zj _)⟩
   subst hR;rintro W ⟨qx,qr,ae⟩;have Hx:=ah qx;clear qx;have Hr:=ah qr;clear qr;obtain⟨x0,x1,x2⟩:=Hx.out.c3;obtain⟨r0,aj,r1,ar,r2,aG⟩:=Hr.out.g3;replace Hb:=az Hb ae;clear ae;go_wp2_with fail;refine(mL s l e u Hu.out _ pW.out).mono ?_;rintro e w1 ⟨rfl,ae⟩;clear x0 x1 x2 r0 aj r1 ar r2 aG;replace Hx:=kB Hx ae;replace Hr:=kB Hr ae;obtain⟨x0,x1,x2⟩:=Hx.out.c3;obtain⟨r0,aj,r1,ar,r2,aG⟩:=Hr.out.g3;replace Hb:=az Hb ae;clear ae;have HT:=ah (hT.below Hb.out);go_wp2_with fail;refine(Kn s l e D HD.out _ pW.out HT.out).mono ?_;rintro e w2 ⟨rfl,ae⟩;clear x0 x1 x2 r0 aj r1 ar r2 aG;replace Hx:=kB Hx ae;replace Hr:=kB Hr ae;obtain⟨x0,x1,x2⟩:=Hx.out.c3;obtain⟨r0,aj,r1,ar,r2,aG⟩:=Hr.out.g3;replace Hb:=az Hb ae;clear ae;go_wp2;refine bodyPost_ret (v:=bC D) (by simp[results,Tryz.results31,go_sem,r0,r1,r2]) rfl ⟨rfl,?_⟩;(repeat first|exact Hb.out| (refine Below.setCell ?_ (by have:=Hb.out.size;first| (dsimp only;omega) | (show _<=_;omega) | (simp<;>omega)) _) | (refine Below.alloc ?_ zt _) |refine Below.drew ?_)
 . rw[if_neg h]at hD;have HD:=ah hD;clear hD;have h2:0<=u:=by omega
   go_enter Tryz.func31,Tryz.ntmps31;have Hb:Hid (Bw w w):=Below.refl _ _;go_wp2_with fail;obtain⟨R,hR⟩:∃R:World->Prop,(λW=>ai W (w.heap.size) 30 [.bool s,.string (bs l),.int .i64 e]/\ai W (w.heap.size+1) 30 [.bool false,.string (bs []),.int .i64 0]/\Bw w W)=R:=⟨_,rfl⟩;first|refine bG R ?hR ?_|refine bF R ?hR ?_
   case hR=>subst hR;exact⟨((ai.newAt w _ _ (b:=w.heap.size) rfl).alloc _),(ai.newAt (w.alloc _) _ _ (b:=w.heap.size+1) zm),(zl.alloc zj _)⟩
   subst hR;rintro W ⟨qx,qr,ae⟩;have Hx:=ah qx;clear qx;have Hr:=ah qr;clear qr;obtain⟨x0,x1,x2⟩:=Hx.out.c3;obtain⟨r0,aj,r1,ar,r2,aG⟩:=Hr.out.g3;replace Hb:=az Hb ae;clear ae;go_wp2_with fail;refine(mL s l e u Hu.out _ pW.out).mono ?_;rintro e w1 ⟨rfl,ae⟩;clear x0 x1 x2 r0 aj r1 ar r2 aG;replace Hx:=kB Hx ae;replace Hr:=kB Hr ae;obtain⟨x0,x1,x2⟩:=Hx.out.c3;obtain⟨r0,aj,r1,ar,r2,aG⟩:=Hr.out.g3;replace Hb:=az Hb ae;clear ae;have HT:=ah (hT.below Hb.out);go_wp2_with fail;refine(oY s l e D HD.out _ pW.out HT.out).mono ?_;rintro e w2 ⟨rfl,ae⟩;clear x0 x1 x2 r0 aj r1 ar r2 aG;replace Hx:=kB Hx ae;replace Hr:=kB Hr ae;obtain⟨x0,x1,x2⟩:=Hx.out.c3;obtain⟨r0,aj,r1,ar,r2,aG⟩:=Hr.out.g3;replace Hb:=az Hb ae;clear ae;go_wp2;refine bodyPost_ret (v:=bC D) (by simp[results,Tryz.results31,go_sem,r0,r1,r2]) rfl ⟨rfl,?_⟩;(repeat first|exact Hb.out| (refine Below.setCell ?_ (by have:=Hb.out.size;first| (dsimp only;omega) | (show _<=_;omega) | (simp<;>omega)) _) | (refine Below.alloc ?_ zt _) |refine Below.drew ?_)
def fK (l:List UInt8)(v:Int):Bool:=(l.all λc=>decide (c.toNat<=127))&&decide ((l.length:Int)=v)
theorem MQ (l:List UInt8)(v:Int)(w:World)(hl:l.length<=9223372036854775807):
 Calls Tryz.prog 116 #[.string (bs l),.int .i64 v] w λe w'=>e=.returned (.bool (fK l v))/\Bw w w':=by
 obtain⟨n,hn⟩:=aC l.length;have hsz:(bs l).size=n:=by rw[mK,hn]
 obtain⟨M,hM⟩:=aC (fK l v);rw[hM];obtain⟨HM,Hn⟩:=aM hM hn;rw[hn]at hl;clear hM hn;go_enter Tryz.func116,Tryz.ntmps116;have Hb:Hid (Bw w w):=Below.refl _ _;go_wp2_with fail;go_loopw[8] (λx wr=>∃k:Nat,k<=n/\x=.int .i64 (k:Int)/\((l.take k).all λc=>decide (c.toNat<=127))=true/\Bw w wr) (λx _=>n-(intOf x).toNat);case atStart=>exact⟨0,Nat.zero_le _,rfl,rfl,Hb.out⟩
 case round=>
  clear Hb;obtain⟨k,hk,rfl,hall,pb⟩:=hrel;obtain⟨uY,Hb⟩:=aM hall pb;clear hall pb;by_cases hlt:k<n
  . have hk2:k<l.length:=by rw[Hn.out];exact hlt
    have ix:=wP l (k:Int) k hk2 rfl;obtain⟨c,hc⟩:∃c:Nat,(l[k]).toNat=c:=⟨_,rfl⟩;rw[hc]at ix;by_cases h1:127<c
    . have h2:(127:Int)<(c:Int):=by omega
      have qG:M=false:=by
       rw[<-HM.out];unfold fK;have:(l.all λc=>decide (c.toNat<=127))=false:=by rw[List.all_eq_false];exact⟨l[k],List.getElem_mem hk2,by simp;omega⟩
       rw[this];rfl
      subst qG;go_wp2;refine bodyPost_ret (v:=.bool false) (by simp[results,Tryz.results116,go_sem]) rfl ⟨rfl,?_⟩;(repeat first|exact Hb.out| (refine Below.setCell ?_ (by have:=Hb.out.size;first| (dsimp only;omega) | (show _<=_;omega) | (simp<;>omega)) _) | (refine Below.alloc ?_ zt _) |refine Below.drew ?_)
    . have h2:¬(127:Int)<(c:Int):=by omega
      have bS:Hid (((l.take (k+1)).all λc=>decide (c.toNat<=127))=true):=by
       show _=_
       rw[List.take_succ_eq_append_getElem hk2,List.all_append,uY.out];simp;omega
      clear hc;go_wp2;go_roundw;case rel=>exact⟨k+1,by omega,by go_num,bS.out,Hb.out⟩
      case measure=>simp[intOf];omega
  . obtain rfl:k=n:=by omega
    have hme:M=decide ((k:Int)=v):=by rw[<-HM.out];have h:=uY.out;rw[List.take_of_length_le (by rw[Hn.out];exact Nat.le_refl _)]at h;unfold fK;rw[h,Hn.out,Bool.true_and]
    have Jf:=ah hme;clear hme;go_wp2;refine bodyPost_ret (results_tmp rfl _ _ _) rfl ⟨?_,Hb.out⟩;rw[Jf.out];by_cases h:(k:Int)=v<;>simp[h]
theorem EQ (v:Int)(w:World):
 Calls Tryz.prog 93 #[.int .i64 v] w λe w'=>e=.returned (.bool (decide (0<=v/\v<=12)))/\Bw w w':=by
 have Hb:Hid (Bw w w):=Below.refl _ _;go_enter Tryz.func93,Tryz.ntmps93;by_cases h1:0<=v
 . by_cases h2:v<=12
   . go_wp2;refine bodyPost_ret (results_tmp rfl _ _ _) rfl ⟨?_,Hb.out⟩;simp[h2];omega
   . go_wp2;refine bodyPost_ret (results_tmp rfl _ _ _) rfl ⟨?_,Hb.out⟩;simp[h2]
 . go_wp2;refine bodyPost_ret (results_tmp rfl _ _ _) rfl ⟨?_,Hb.out⟩;simp;omega
end Go.Proofs.YtdaadlblknpipaaGreatDoor
