/- Package dyad: Make,Form,Sign,Shift,Of,Neg,Abs. -/
import Derived.Test.YtdaadlblknpipaaGreatDoorZ7
import Derived.Test.YtdaadlblknpipaaGreatDoorZ8
import Derived.Test.YtdaadlblknpipaaGreatDoorZ6
import Derived.Test.YtdaadlblknpipaaGreatDoorZ1
set_option linter.unusedVariables false
set_option linter.unusedSimpArgs false
set_option maxRecDepth 100000
set_option maxHeartbeats 16000000
namespace Go.Proofs.YtdaadlblknpipaaGreatDoor
open Go.RowKit
attribute [local go_sem ↓] Go.wp_at_zero Go.wp_at_succ
abbrev bH (d:Dyadic):Value:=.agg #[.bool (ar (dN d)),.string (bs (nt (dN d).natAbs)),.int .i64 (dE d)]
theorem aeA :(⟨#[]⟩:ByteArray)=bs []:=rfl
theorem al3 (s:Bool)(l:List UInt8)(n:Nat)(Z:Int)(hZ:iv s l/2^n=Z)(w:World)(hl:l.length<=34359738368)(hn:n<=549755813888)(hT:aF w):
 Calls Tryz.prog 106 #[.agg #[.bool s,.string (bs l)],.int .i64 (-(n:Int))] w λe w'=>e=.returned (cW Z)/\Bw w w':=by
 rcases Nat.eq_zero_or_pos n with h|h
 . subst h;subst hZ;have:=PZ s l 0 w zo zo;simpa using this
 . subst hZ;exact ZV s l n w hl h zo hT
theorem amL (v k:Nat)(h:v<2^k):tz v<=k:=by
 rcases Nat.eq_zero_or_pos v with h0|h0
 . subst h0;exact Nat.zero_le _
 . obtain⟨m,hm⟩:=ZG v h0;rcases Nat.lt_or_ge k (tz v)with h1|h1
   . exfalso
     have h2:=Nat.pow_le_pow_right (show 0<2 by decide) (Nat.le_of_lt h1);have h3:2^tz v<=2^tz v* (2*m+1):=Nat.le_mul_of_pos_right _ zo;omega
   . exact h1
theorem ZC (n:Int):tz n.natAbs=n.trailingZeros:=by
 unfold tz;rcases Int.natAbs_eq n with h|h
 . rw[<-h]
 . conv=>rhs;rw[h]
   rw[Int.trailingZeros_neg]
theorem LI (s:Bool)(l:List UInt8)(e:Int)(h:iv s l=0):aC (s,l,e)=0:=by unfold aC;simp only[h];exact vX _
theorem LH (s:Bool)(l:List UInt8)(e:Int)(h:iv s l≠0):dN (aC (s,l,e))=iv s l/2^tz (nv l)/\dE (aC (s,l,e))=e+(tz (nv l):Int):=by have:=Ti (k:=-e) h;unfold aC;rw[show tz (nv l)=(iv s l).trailingZeros by rw[<-nH s l];exact ZC _];exact⟨this.1,by rw[this.2];omega⟩
theorem vP (s:Bool)(l:List UInt8)(e:Int)(D:Dyadic)(hD:aC (s,l,e)=D)(w:World)(hl:l.length<=34359738368)(he: -1099511627776<=e/\e<=1099511627776)(hT:aF w):
 Calls Tryz.prog 67 #[.agg #[.bool s,.string (bs l)],.int .i64 e] w λex w'=>ex=.returned (bH D)/\Bw w w':=by
 have oU:Hid (l.length<=1099511627776):=by show _<=_;omega
 have cC:Hid (l.length<=68719476736):=by show _<=_;omega
 by_cases h0:iv s l=0
 . have h1:=LI s l e h0;rw[hD]at h1;subst h1;clear hD;have h2:ej (iv s l)=0:=by rw[h0];rfl
   have H2:=ah h2;clear h2;have Hv:Hid (bH 0=.agg #[.bool false,.string (bs []),.int .i64 0]):=rfl;go_enter Tryz.func67,Tryz.ntmps67;have Hb:Hid (Bw w w):=Below.refl _ _;go_wp2_with fail;obtain⟨R,hR⟩:∃R:World->Prop,(λW=>ak W (w.heap.size) 28 [.bool s,.string (bs l)]/\ak W (w.heap.size+1) 30 [.bool false,.string (bs []),.int .i64 0]/\Bw w W)=R:=⟨_,rfl⟩;first|refine bN R ?hR ?_|refine bL R ?hR ?_
   case hR=>subst hR;exact⟨((ak.newAt w _ _ (b:=w.heap.size) rfl).alloc _),(ak.newAt (w.alloc _) _ _ (b:=w.heap.size+1) zm),(zl.alloc zj _)⟩
   subst hR;rintro W ⟨qx,qr,ae⟩;have Hx:=ah qx;clear qx;have Hr:=ah qr;clear qr;obtain⟨x0,x1⟩:=Hx.out.c2;obtain⟨r0,ai,r1,aj,r2,aG⟩:=Hr.out.g3;replace Hb:=az Hb ae;clear ae;go_wp2_with fail;refine(EH s l _ oU.out).mono ?_;rintro e w1 ⟨rfl,ae⟩;clear x0 x1 r0 ai r1 aj r2 aG;replace Hx:=kB Hx ae;replace Hr:=kB Hr ae;obtain⟨x0,x1⟩:=Hx.out.c2;obtain⟨r0,ai,r1,aj,r2,aG⟩:=Hr.out.g3;replace Hb:=az Hb ae;clear ae;rw[H2.out];go_wp2;refine bodyPost_ret (v:=.agg #[.bool false,.string (bs []),.int .i64 0]) (by simp[results,Tryz.results67,go_sem,r0,r1,r2,aeA]) rfl ⟨by rw[Hv.out],?_⟩;(repeat first|exact Hb.out| (refine Below.setCell ?_ (by have:=Hb.out.size;first| (dsimp only;omega) | (show _<=_;omega) | (simp<;>omega)) _) | (refine Below.alloc ?_ zt _) |refine Below.drew ?_)
 . obtain⟨h1,h2⟩:=LH s l e h0;rw[hD]at h1 h2;clear hD;have hg0:ej (iv s l)≠0:=by unfold ej;split<;>(try split)<;>omega
   have Hg:Hid (∃g,ej (iv s l)=g/\g≠0):=⟨_,rfl,hg0⟩;obtain⟨g,hg,hg0⟩:=Hg.out;have Hg:=ah hg;clear hg;have hn:tz (nv l)<=549755813888:=Nat.le_trans (amL (nv l) (8*l.length) (by have:=fT l;rwa [show(256:Nat)=2^8 by rfl,<-Nat.pow_mul]at this)) zo;obtain⟨n,hn0⟩:=aB (tz (nv l));rw[hn0]at h1 h2 hn;have rJ:=ah hn0;clear hn0;obtain⟨Z,hZ⟩:=aB (dN D);obtain⟨E,hE⟩:=aB (dE D);rw[hZ]at h1;rw[hE]at h2;obtain⟨HZ,HE⟩:=aM hZ hE;clear hZ hE;have H1:=ah h1.symm;clear h1;have hwn:IntKind.i64.wrap (-(n:Int))= -(n:Int):=by rw[IntKind.wrap_i64];omega
   have ye:IntKind.i64.wrap (e+(n:Int))=E:=by rw[IntKind.wrap_i64];omega
   clear h0 h2;go_enter Tryz.func67,Tryz.ntmps67;have Hb:Hid (Bw w w):=Below.refl _ _;go_wp2_with fail;obtain⟨R,hR⟩:∃R:World->Prop,(λW=>ak W (w.heap.size) 28 [.bool s,.string (bs l)]/\ak W (w.heap.size+1) 30 [.bool false,.string (bs []),.int .i64 0]/\Bw w W)=R:=⟨_,rfl⟩;first|refine bN R ?hR ?_|refine bL R ?hR ?_
   case hR=>subst hR;exact⟨((ak.newAt w _ _ (b:=w.heap.size) rfl).alloc _),(ak.newAt (w.alloc _) _ _ (b:=w.heap.size+1) zm),(zl.alloc zj _)⟩
   subst hR;rintro W ⟨qx,qr,ae⟩;have Hx:=ah qx;clear qx;have Hr:=ah qr;clear qr;obtain⟨x0,x1⟩:=Hx.out.c2;obtain⟨r0,ai,r1,aj,r2,aG⟩:=Hr.out.g3;replace Hb:=az Hb ae;clear ae;go_wp2_with fail;refine(EH s l _ oU.out).mono ?_;rintro e w1 ⟨rfl,ae⟩;clear x0 x1 r0 ai r1 aj r2 aG;replace Hx:=kB Hx ae;replace Hr:=kB Hr ae;obtain⟨x0,x1⟩:=Hx.out.c2;obtain⟨r0,ai,r1,aj,r2,aG⟩:=Hr.out.g3;replace Hb:=az Hb ae;clear ae;rw[Hg.out];have HT:=ah (hT.below Hb.out);go_wp2_with fail;refine(Ou l _ cC.out HT.out).mono ?_;rintro e w2 ⟨rfl,ae⟩;clear x0 x1 r0 ai r1 aj r2 aG;replace Hx:=kB Hx ae;replace Hr:=kB Hr ae;obtain⟨x0,x1⟩:=Hx.out.c2;obtain⟨r0,ai,r1,aj,r2,aG⟩:=Hr.out.g3;replace Hb:=az Hb ae;clear ae;rw[rJ.out];replace HT:=ah (hT.below Hb.out);go_wp2_with fail;refine(al3 s l n Z H1.out _ hl hn HT.out).mono ?_;rintro e w3 ⟨rfl,ae⟩;clear x0 x1 r0 ai r1 aj r2 aG;replace Hx:=kB Hx ae;replace Hr:=kB Hr ae;obtain⟨x0,x1⟩:=Hx.out.c2;obtain⟨r0,ai,r1,aj,r2,aG⟩:=Hr.out.g3;replace Hb:=az Hb ae;clear ae;go_wp2;refine bodyPost_ret (v:=.agg #[.bool (ar Z),.string (bs (nt Z.natAbs)),.int .i64 E]) (by simp[results,Tryz.results67,go_sem,r0,r1,r2]) rfl ⟨by rw[<-HZ.out,<-HE.out],?_⟩;(repeat first|exact Hb.out| (refine Below.setCell ?_ (by have:=Hb.out.size;first| (dsimp only;omega) | (show _<=_;omega) | (simp<;>omega)) _) | (refine Below.alloc ?_ zt _) |refine Below.drew ?_)
theorem Ok.len {s:Bool}{l:List UInt8}{e:Int}(h:Ok (s,l,e)):l.length<=268435456:=h.1
theorem Ok.exp {s:Bool}{l:List UInt8}{e:Int}(h:Ok (s,l,e)): -268435456<=e/\e<=268435456:=h.2
theorem qJ (s:Bool)(l:List UInt8)(e:Int)(D:Dyadic)(hD:aC (s,l,e)=D)(w:World)(hx:Ok (s,l,e))(hT:aF w):
 Calls Tryz.prog 69 #[.agg #[.bool s,.string (bs l),.int .i64 e]] w λex w'=>ex=.returned (bH D)/\Bw w w':=by
 have HD:=ah hD;clear hD;have h1:=hx.len;have h2:=hx.exp;clear hx;have Hl:Hid (l.length<=34359738368):=by show _<=_;omega
 have He:Hid (-1099511627776<=e/\e<=1099511627776):=by show _/\_;omega
 go_enter Tryz.func69,Tryz.ntmps69;have Hb:Hid (Bw w w):=Below.refl _ _;go_wp2_with fail;obtain⟨R,hR⟩:∃R:World->Prop,(λW=>ak W (w.heap.size) 30 [.bool s,.string (bs l),.int .i64 e]/\ak W (w.heap.size+1) 30 [.bool false,.string (bs []),.int .i64 0]/\Bw w W)=R:=⟨_,rfl⟩;first|refine bN R ?hR ?_|refine bL R ?hR ?_
 case hR=>subst hR;exact⟨((ak.newAt w _ _ (b:=w.heap.size) rfl).alloc _),(ak.newAt (w.alloc _) _ _ (b:=w.heap.size+1) zm),(zl.alloc zj _)⟩
 subst hR;rintro W ⟨qx,qr,ae⟩;have Hx:=ah qx;clear qx;have Hr:=ah qr;clear qr;obtain⟨x0,x1,x2⟩:=Hx.out.c3;obtain⟨r0,ai,r1,aj,r2,aG⟩:=Hr.out.g3;replace Hb:=az Hb ae;clear ae;have HT:=ah (hT.below Hb.out);go_wp2_with fail;refine(vP s l e D HD.out _ Hl.out He.out HT.out).mono ?_;rintro e w1 ⟨rfl,ae⟩;clear x0 x1 x2 r0 ai r1 aj r2 aG;replace Hx:=kB Hx ae;replace Hr:=kB Hr ae;obtain⟨x0,x1,x2⟩:=Hx.out.c3;obtain⟨r0,ai,r1,aj,r2,aG⟩:=Hr.out.g3;replace Hb:=az Hb ae;clear ae;go_wp2;refine bodyPost_ret (v:=bH D) (by simp[results,Tryz.results69,go_sem,r0,r1,r2]) rfl ⟨rfl,?_⟩;(repeat first|exact Hb.out| (refine Below.setCell ?_ (by have:=Hb.out.size;first| (dsimp only;omega) | (show _<=_;omega) | (simp<;>omega)) _) | (refine Below.alloc ?_ zt _) |refine Below.drew ?_)
theorem al1 (s:Bool)(l:List UInt8)(e n:Int)(D:Dyadic)(hD:aC (s,l,e+n)=D)(w:World)(hx:Ok (s,l,e))(hn: -268435456<=n/\n<=268435456)(hT:aF w):
 Calls Tryz.prog 30 #[.agg #[.bool s,.string (bs l),.int .i64 e],.int .i64 n] w λex w'=>ex=.returned (bH D)/\Bw w w':=by
 have h1:=hx.len;have h2:=hx.exp;clear hx;obtain⟨z,hz⟩:=aB (e+n);have ye:IntKind.i64.wrap (e+n)=z:=by rw[IntKind.wrap_i64];omega
 rw[hz]at hD;have HD:=ah hD;clear hD;have Hl:Hid (l.length<=34359738368):=by show _<=_;omega
 have He:Hid (-1099511627776<=z/\z<=1099511627776):=by show _/\_;omega
 clear hz;go_enter Tryz.func30,Tryz.ntmps30;have Hb:Hid (Bw w w):=Below.refl _ _;go_wp2_with fail;obtain⟨R,hR⟩:∃R:World->Prop,(λW=>ak W (w.heap.size) 30 [.bool s,.string (bs l),.int .i64 e]/\ak W (w.heap.size+1) 30 [.bool false,.string (bs []),.int .i64 0]/\Bw w W)=R:=⟨_,rfl⟩;first|refine bN R ?hR ?_|refine bL R ?hR ?_
 case hR=>subst hR;exact⟨((ak.newAt w _ _ (b:=w.heap.size) rfl).alloc _),(ak.newAt (w.alloc _) _ _ (b:=w.heap.size+1) zm),(zl.alloc zj _)⟩
 subst hR;rintro W ⟨qx,qr,ae⟩;have Hx:=ah qx;clear qx;have Hr:=ah qr;clear qr;obtain⟨x0,x1,x2⟩:=Hx.out.c3;obtain⟨r0,ai,r1,aj,r2,aG⟩:=Hr.out.g3;replace Hb:=az Hb ae;clear ae;have HT:=ah (hT.below Hb.out);go_wp2_with fail;refine(vP s l z D HD.out _ Hl.out He.out HT.out).mono ?_;rintro e w1 ⟨rfl,ae⟩;clear x0 x1 x2 r0 ai r1 aj r2 aG;replace Hx:=kB Hx ae;replace Hr:=kB Hr ae;obtain⟨x0,x1,x2⟩:=Hx.out.c3;obtain⟨r0,ai,r1,aj,r2,aG⟩:=Hr.out.g3;replace Hb:=az Hb ae;clear ae;go_wp2;refine bodyPost_ret (v:=bH D) (by simp[results,Tryz.results30,go_sem,r0,r1,r2]) rfl ⟨rfl,?_⟩;(repeat first|exact Hb.out| (refine Below.setCell ?_ (by have:=Hb.out.size;first| (dsimp only;omega) | (show _<=_;omega) | (simp<;>omega)) _) | (refine Below.alloc ?_ zt _) |refine Below.drew ?_)
theorem PF (s:Bool)(l:List UInt8)(e:Int):ej (iv s l)=ej (dN (aC (s,l,e))):=by
 by_cases h0:iv s l=0
 . rw[LI s l e h0,h0,Lx]
 . rw[(LH s l e h0).1];obtain⟨q,hq⟩:(2:Int)^tz (nv l)∣iv s l:=by rw[show tz (nv l)=(iv s l).trailingZeros by rw[<-nH s l];exact ZC _];exact Int.two_pow_trailingZeros_dvd h0
   have hp:(0:Int)<2^tz (nv l):=by
    have:((2^tz (nv l):Nat):Int)>0:=by have:=Nat.pow_pos (n:=tz (nv l)) (show 0<2 by decide);omega
    simpa[Int.natCast_pow]using this
   generalize (2:Int)^tz (nv l)=p at*;rw[hq,Int.mul_ediv_cancel_left _ zo];unfold ej;rcases Int.lt_trichotomy q 0 with h|h|h
   . have:=Int.mul_neg_of_pos_of_neg hp h;simp only[h,this,if_true]
   . subst h;simp
   . have:=Int.mul_pos hp h;rw[if_neg zo,if_neg zo,if_neg zo,if_neg zo]
abbrev bZ (d:Dyadic):Int:=ej (dN d)
theorem nU (s:Bool)(l:List UInt8)(e:Int)(g:Int)(hg:bZ (aC (s,l,e))=g)(w:World)(hx:Ok (s,l,e)):
 Calls Tryz.prog 37 #[.agg #[.bool s,.string (bs l),.int .i64 e]] w λex w'=>ex=.returned (.int .i64 g)/\Bw w w':=by
 have h1:=hx.len;clear hx;have Hg:Hid (ej (iv s l)=g):=by show _=_;rw[<-hg];exact PF s l e
 have Hl:Hid (l.length<=1099511627776):=by show _<=_;omega
 clear hg;go_enter Tryz.func37,Tryz.ntmps37;have Hb:Hid (Bw w w):=Below.refl _ _;go_wp2_with fail;obtain⟨R,hR⟩:∃R:World->Prop,(λW=>ak W (w.heap.size) 30 [.bool s,.string (bs l),.int .i64 e]/\Bw w W)=R:=⟨_,rfl⟩;first|refine bN R ?hR ?_|refine bL R ?hR ?_
 case hR=>subst hR;exact⟨(ak.newAt w _ _ (b:=w.heap.size) rfl),zl⟩
 subst hR;rintro W ⟨qx,ae⟩;have Hx:=ah qx;clear qx;obtain⟨x0,x1,x2⟩:=Hx.out.c3;replace Hb:=az Hb ae;clear ae;go_wp2_with fail;refine(EH s l _ Hl.out).mono ?_;rintro e w1 ⟨rfl,ae⟩;clear x0 x1 x2;replace Hx:=kB Hx ae;obtain⟨x0,x1,x2⟩:=Hx.out.c3;replace Hb:=az Hb ae;clear ae;rw[Hg.out];go_wp2;go_ret;exact⟨rfl,Hb.out⟩
theorem uR (n e:Int):aC (ar n,nt n.natAbs,e)=Dyadic.ofIntWithPrec n (-e):=by unfold aC;simp only[ft]
theorem Ge (n:Int)(D:Dyadic)(hD:Dyadic.ofIntWithPrec n 0=D)(w:World)(hn: -9223372036854775808<=n/\n<=9223372036854775807)(hT:aF w):
 Calls Tryz.prog 36 #[.int .i64 n] w λex w'=>ex=.returned (bH D)/\Bw w w':=by
 obtain⟨N,hN⟩:=aB n;have HD:Hid (aC (ar N,nt N.natAbs,0)=D):=by show _=_;rw[uR,<-hN];exact hD
 have Hl:Hid ((nt N.natAbs).length<=34359738368):=by
  show _<=_
  exact Nat.le_trans (ja (k:=8) zo) zd
 have HN:=ah hN;clear hN hD;go_enter Tryz.func36,Tryz.ntmps36;have Hb:Hid (Bw w w):=Below.refl _ _;go_wp2_with fail;obtain⟨R,hR⟩:∃R:World->Prop,(λW=>ak W (w.heap.size) 30 [.bool false,.string (bs []),.int .i64 0]/\Bw w W)=R:=⟨_,rfl⟩;first|refine bN R ?hR ?_|refine bL R ?hR ?_
 case hR=>subst hR;exact⟨(ak.newAt w _ _ (b:=w.heap.size) rfl),zl⟩
 subst hR;rintro W ⟨qr,ae⟩;have Hr:=ah qr;clear qr;obtain⟨r0,ai,r1,aj,r2,aG⟩:=Hr.out.g3;replace Hb:=az Hb ae;clear ae;go_wp2_with fail;refine(PY n N HN.out _ hn.1 hn.2).mono ?_;rintro e w1 ⟨rfl,ae⟩;clear r0 ai r1 aj r2 aG;replace Hr:=kB Hr ae;obtain⟨r0,ai,r1,aj,r2,aG⟩:=Hr.out.g3;replace Hb:=az Hb ae;clear ae;have HT:=ah (hT.below Hb.out);go_wp2_with fail;refine(vP (ar N) (nt N.natAbs) 0 D HD.out _ Hl.out zo HT.out).mono ?_;rintro e w2 ⟨rfl,ae⟩;clear r0 ai r1 aj r2 aG;replace Hr:=kB Hr ae;obtain⟨r0,ai,r1,aj,r2,aG⟩:=Hr.out.g3;replace Hb:=az Hb ae;clear ae;go_wp2;refine bodyPost_ret (v:=bH D) (by simp[results,Tryz.results36,go_sem,r0,r1,r2]) rfl ⟨rfl,?_⟩;(repeat first|exact Hb.out| (refine Below.setCell ?_ (by have:=Hb.out.size;first| (dsimp only;omega) | (show _<=_;omega) | (simp<;>omega)) _) | (refine Below.alloc ?_ zt _) |refine Below.drew ?_)
theorem Lz (s:Bool)(l:List UInt8)(e:Int)(D:Dyadic)(hD: -aC (s,l,e)=D)(w:World)(hx:Ok (s,l,e))(hT:aF w):
 Calls Tryz.prog 68 #[.agg #[.bool s,.string (bs l),.int .i64 e]] w λex w'=>ex=.returned (bH D)/\Bw w w':=by
 have h1:=hx.len;have h2:=hx.exp;clear hx;obtain⟨N,hN⟩:=aB (-(iv s l));have HD:Hid (aC (ar N,nt N.natAbs,e)=D):=by
  show _=_
  rw[uR,<-hN,<-hD];unfold aC;rw[Ek]
 have Hl:Hid ((nt N.natAbs).length<=34359738368):=by show _<=_;rw[<-hN];exact Eg s l _ zo
 have oU:Hid (l.length<=1099511627776):=by show _<=_;omega
 have He:Hid (-1099511627776<=e/\e<=1099511627776):=by show _/\_;omega
 have HN:=ah hN;clear hN hD;go_enter Tryz.func68,Tryz.ntmps68;have Hb:Hid (Bw w w):=Below.refl _ _;go_wp2_with fail;obtain⟨R,hR⟩:∃R:World->Prop,(λW=>ak W (w.heap.size) 30 [.bool s,.string (bs l),.int .i64 e]/\ak W (w.heap.size+1) 30 [.bool false,.string (bs []),.int .i64 0]/\Bw w W)=R:=⟨_,rfl⟩;first|refine bN R ?hR ?_|refine bL R ?hR ?_
 case hR=>subst hR;exact⟨((ak.newAt w _ _ (b:=w.heap.size) rfl).alloc _),(ak.newAt (w.alloc _) _ _ (b:=w.heap.size+1) zm),(zl.alloc zj _)⟩
 subst hR;rintro W ⟨qx,qr,ae⟩;have Hx:=ah qx;clear qx;have Hr:=ah qr;clear qr;obtain⟨x0,x1,x2⟩:=Hx.out.c3;obtain⟨r0,ai,r1,aj,r2,aG⟩:=Hr.out.g3;replace Hb:=az Hb ae;clear ae;refine bM (λw'=>w'.cell? ⟨w.heap.size,0,none⟩=some (.bool s)/\w'.cell? ⟨w.heap.size,1,none⟩=some (.string (bs l))/\w'.cell? ⟨w.heap.size,2,none⟩=some (.int .i64 e)) (λi=>Nat.blt i 6) [(0,true),(1,true),(3,true),(4,true),(2,false),(5,false),(6,false)] zk zk rfl zk zc ⟨x0,x1,x2⟩ ?_;iterate 4 (refine pT rfl rfl ?_ (by intro w' ⟨q0,q1,q2⟩;go_simp;try with_reducible rfl);try simp only[UU])
 refine aI rfl rfl (λK hK=>?_);go_simp;with_reducible refine(Je s l N HN.out _ oU.out).mono ?_
 rintro e w1 ⟨rfl,hq⟩;have ae:Bw W w1:=by first|exact hq|exact aV hq
 clear x0 x1 x2 r0 ai r1 aj r2 aG;replace Hx:=kB Hx ae;replace Hr:=kB Hr ae;obtain⟨x0,x1,x2⟩:=Hx.out.c3;obtain⟨r0,ai,r1,aj,r2,aG⟩:=Hr.out.g3;replace Hb:=az Hb ae;clear ae;refine hK _ _ (λ_=>⟨x0,x1,x2⟩) ?_;clear hK K;try simp only[UU]
 refine aI rfl rfl (λK hK=>?_);go_simp;with_reducible refine(vP (ar N) (nt N.natAbs) e D HD.out _ Hl.out He.out (hT.below Hb.out)).mono ?_
 rintro e w2 ⟨rfl,hq⟩;have ae:Bw w1 w2:=by first|exact hq|exact aV hq
 clear x0 x1 x2 r0 ai r1 aj r2 aG;replace Hx:=kB Hx ae;replace Hr:=kB Hr ae;obtain⟨x0,x1,x2⟩:=Hx.out.c3;obtain⟨r0,ai,r1,aj,r2,aG⟩:=Hr.out.g3;replace Hb:=az Hb ae;clear ae;refine hK _ _ (λ_=>⟨x0,x1,x2⟩) ?_;clear hK K;try simp only[UU]
 refine aI rfl rfl (λK hK=>?_);go_simp;refine hK _ _ (λh=>absurd h zd) ?_;clear hK K;try simp only[UU]
 clear x0 x1 x2 r0 ai r1 aj r2 aG;refine bO (bK w2 (w.heap.size+1) 0 [.bool (ar (dN D)),.string (bs (nt (dN D).natAbs)),.int .i64 (dE D)]) bV ?_;intro w3 hs;replace Hx:=kS Hx hs zo;replace Hr:=cF Hr hs;obtain⟨x0,x1,x2⟩:=Hx.out.c3;obtain⟨r0,ai,r1,aj,r2,aG⟩:=Hr.out.g3;replace Hb:=bS Hb hs ZS;clear hs;simp only[aZ];go_wp2;refine bodyPost_ret (v:=bH D) (by simp[results,Tryz.results68,go_sem,r0,r1,r2]) rfl ⟨rfl,?_⟩;(repeat first|exact Hb.out| (refine Below.setCell ?_ (by have:=Hb.out.size;first| (dsimp only;omega) | (show _<=_;omega) | (simp<;>omega)) _) | (refine Below.alloc ?_ zt _) |refine Below.drew ?_)
theorem aF.drew {w:World}(h:aF w):aF w.drew:=h
theorem aF.alloc {w:World}(h:aF w)(o:Obj):aF (w.alloc o):=λj hj=>aJ (h j hj)
def mP (v k:Int):Int:=if 0<=k then v*2^k.toNat else v/2^(-k).toNat
theorem am7 (s:Bool)(l:List UInt8)(k Z:Int)(hZ:mP (iv s l) k=Z)(w:World)(hl:l.length<=34359738368)(hk: -549755813888<=k/\k<=549755813888)(hT:aF w):
 Calls Tryz.prog 106 #[.agg #[.bool s,.string (bs l)],.int .i64 k] w λe w'=>e=.returned (cW Z)/\Bw w w':=by
 subst hZ;unfold mP;split
 . rename_i h
   have:=PZ s l k.toNat w zo zo;rw[Int.toNat_of_nonneg h]at this;exact this
 . rename_i h
   have:=ZV s l (-k).toNat w hl zo zo hT;rw[Int.toNat_of_nonneg zo,Int.neg_neg]at this;exact this
theorem AE (s:Bool)(l:List UInt8)(e g Z:Int)(hZ:mP (iv s l) (e-g)=Z)(w:World)(hl:l.length<=34359738368)(hk: -549755813888<=e-g/\e-g<=549755813888)(hT:aF w):
 Calls Tryz.prog 108 #[.int .i64 g,.agg #[.bool s,.string (bs l),.int .i64 e]] w λe w'=>e=.returned (cW Z)/\Bw w w':=by
 obtain⟨k,kM⟩:=aB (e-g);have ye:IntKind.i64.wrap (e-g)=k:=by rw[IntKind.wrap_i64];omega
 rw[kM]at hZ hk;have HZ:=ah hZ;clear hZ kM;go_enter Tryz.func108,Tryz.ntmps108;have Hb:Hid (Bw w w):=Below.refl _ _;go_wp2_with fail;obtain⟨R,hR⟩:∃R:World->Prop,(λW=>ak W (w.heap.size) 30 [.bool s,.string (bs l),.int .i64 e]/\ak W (w.heap.size+1) 28 [.bool false,.string (bs [])]/\Bw w W)=R:=⟨_,rfl⟩;first|refine bN R ?hR ?_|refine bL R ?hR ?_
 case hR=>subst hR;exact⟨((ak.newAt w _ _ (b:=w.heap.size) rfl).alloc _),(ak.newAt (w.alloc _) _ _ (b:=w.heap.size+1) zm),(zl.alloc zj _)⟩
 subst hR;rintro W ⟨qx,qr,ae⟩;have Hx:=ah qx;clear qx;have Hr:=ah qr;clear qr;obtain⟨x0,x1,x2⟩:=Hx.out.c3;obtain⟨r0,ai,r1,aj⟩:=Hr.out.g2;replace Hb:=az Hb ae;clear ae;have HT:=ah (hT.below Hb.out);go_wp2_with fail;refine(am7 s l k Z HZ.out _ hl hk HT.out).mono ?_;rintro e w1 ⟨rfl,ae⟩;clear x0 x1 x2 r0 ai r1 aj;replace Hx:=kB Hx ae;replace Hr:=kB Hr ae;obtain⟨x0,x1,x2⟩:=Hx.out.c3;obtain⟨r0,ai,r1,aj⟩:=Hr.out.g2;replace Hb:=az Hb ae;clear ae;go_wp2;refine bodyPost_ret (v:=cW Z) (by simp[results,Tryz.results108,go_sem,r0,r1]) rfl ⟨rfl,?_⟩;(repeat first|exact Hb.out| (refine Below.setCell ?_ (by have:=Hb.out.size;first| (dsimp only;omega) | (show _<=_;omega) | (simp<;>omega)) _) | (refine Below.alloc ?_ zt _) |refine Below.drew ?_)
def sf (A B:Dyadic):Int:=if A=0 then dE B else if B=0 then dE A else min (dE A) (dE B)
theorem sF (A:Dyadic):A=Dyadic.ofIntWithPrec (dN A) (-(dE A)):=by have:=bP A;unfold aC canon at this;simp only[ft]at this;exact this.symm
theorem Yu (A:Dyadic)(g:Int)(h:A=0\/g<=dE A):A=Dyadic.ofIntWithPrec (mP (dN A) (dE A-g)) (-g):=by
 rcases h with h|h
 . subst h;have:mP (dN 0) (dE 0-g)=0:=by unfold mP;rw[Lx];split<;>simp
   rw[this,vX]
 . unfold mP;rw[if_pos zo];have:=uf (dN A) (dE A-g).toNat (-(dE A));rw[show-(dE A)+((dE A-g).toNat:Int)= -g by omega]at this;rw[this];exact sF A
theorem ai8 (A B:Dyadic):(A=0\/sf A B<=dE A)/\(B=0\/sf A B<=dE B):=by
 unfold sf;split
 . exact⟨.inl ‹_›,.inr zo⟩
 . split
   . exact⟨.inr zo,.inl ‹_›⟩
   . exact⟨.inr zo,.inr zo⟩
theorem Yk {A:Dyadic}:A=0\/((nt (dN A).natAbs)≠[]/\A≠0):=by
 by_cases h:A=0
 . exact .inl h
 . refine .inr ⟨?_,h⟩;intro h2;apply h;have:(dN A).natAbs=0:=by rw[<-jb (dN A).natAbs,h2];rfl
   rw[sF A,show dN A=0 by omega,vX]
theorem Ok.parts {x:Raw}(h:Ok x):(nt (dN (aC x)).natAbs).length<=1073741824/\ -4294967296<=dE (aC x)/\dE (aC x)<=4294967296:=by obtain⟨B,hB,hs⟩:∃B,B<=4294967296/\Sm B (aC x):=⟨4294967296,Nat.le_refl _,h.sm⟩;obtain⟨h1,h2,h3⟩:=hs.parts;exact⟨ki h1 zo,by clear h1;omega,by clear h1;omega⟩
theorem Xr (s:Bool)(l:List UInt8)(e:Int)(t:Bool)(m:List UInt8)(f:Int)(A B:Dyadic)(hA:aC (s,l,e)=A)(hB:aC (t,m,f)=B)(g X Y:Int)(hg:sf A B=g)(hX:mP (dN A) (dE A-g)=X)(hY:mP (dN B) (dE B-g)=Y)
 (w:World) (hx:Ok (s,l,e)) (hy:Ok (t,m,f)) (hT:aF w):
 Calls Tryz.prog 71 #[.agg #[.bool s,.string (bs l),.int .i64 e],.agg #[.bool t,.string (bs m),.int .i64 f]] w λex w'=>ex=.returned (.agg #[.int .i64 g,.bool (ar X),.string (bs (nt X.natAbs)),.bool (ar Y),.string (bs (nt Y.natAbs))])/\Bw w w':=by
 have pA:=hx.parts;rw[hA]at pA;have pB:=hy.parts;rw[hB]at pB;obtain⟨HA,HB⟩:=aM hA hB;clear hA hB;obtain⟨a,ha⟩:=aB (nt (dN A).natAbs);obtain⟨p,hp⟩:=aB (ar (dN A));obtain⟨i,hi⟩:=aB (dE A);obtain⟨b,hb⟩:=aB (nt (dN B).natAbs);obtain⟨q,hq⟩:=aB (ar (dN B));obtain⟨j,hj⟩:=aB (dE B);have rS:mP (iv p a) (i-g)=X:=by rw[<-hp,<-ha,ft,<-hi];exact hX
 have UN:mP (iv q b) (j-g)=Y:=by rw[<-hq,<-hb,ft,<-hj];exact hY
 have Ri:Hid (∀W,aF W->Calls Tryz.prog 69 #[.agg #[.bool s,.string (bs l),.int .i64 e]] W λex w'=>ex=.returned (.agg #[.bool p,.string (bs a),.int .i64 i])/\Bw W w'):=by intro W hW;rw[<-hp,<-ha,<-hi];exact qJ s l e A HA.out W hx hW
 have Rj:Hid (∀W,aF W->Calls Tryz.prog 69 #[.agg #[.bool t,.string (bs m),.int .i64 f]] W λex w'=>ex=.returned (.agg #[.bool q,.string (bs b),.int .i64 j])/\Bw W w'):=by intro W hW;rw[<-hq,<-hb,<-hj];exact qJ t m f B HB.out W hy hW
 have hlv:(A=0/\g=j)\/(A≠0/\B=0/\g=i)\/(A≠0/\B≠0/\g=min i j):=by
  rw[<-hg];unfold sf;by_cases h1:A=0
  . simp[h1,hj]
  . by_cases h2:B=0<;>simp[h1,h2,hi,hj]
 rw[ha,hi]at pA;rw[hb,hj]at pB;have zA:A=0->(p=false/\a=[]/\i=0):=by rintro rfl;exact⟨hp.symm,ha.symm,hi.symm⟩
 have zB:B=0->(q=false/\b=[]/\j=0):=by rintro rfl;exact⟨hq.symm,hb.symm,hj.symm⟩
 have nA:A≠0->a≠[]:=by intro h;rw[<-ha];rcases Yk (A:=A)with h2|h2;exact absurd h2 h;exact h2.1
 have nB:B≠0->b≠[]:=by intro h;rw[<-hb];rcases Yk (A:=B)with h2|h2;exact absurd h2 h;exact h2.1
 have VA: -549755813888<=i-g/\i-g<=549755813888:=by rcases hlv with⟨_,h⟩ |⟨_,_,h⟩ |⟨_,_,h⟩<;>omega
 have VB: -549755813888<=j-g/\j-g<=549755813888:=by rcases hlv with⟨_,h⟩ |⟨_,_,h⟩ |⟨_,_,h⟩<;>omega
 obtain⟨HX,HY⟩:=aM rS UN;have La:Hid (a.length<=34359738368):=by show _<=_;omega
 have Lb:Hid (b.length<=34359738368):=by show _<=_;omega
 obtain⟨Ka,Kb⟩:=aM VA VB;clear rS UN hX hY hg ha hp hi hb hq hj VA VB HA HB hx hy;go_enter Tryz.func71,Tryz.ntmps71;have Hb:Hid (Bw w w):=Below.refl _ _;go_wp2_with fail;obtain⟨R,hR⟩:∃R:World->Prop,(λW=>ak W (w.heap.size) 30 [.bool s,.string (bs l),.int .i64 e]/\ak W (w.heap.size+1) 30 [.bool t,.string (bs m),.int .i64 f]/\ak W (w.heap.size+1+1) 99 [.int .i64 0,.bool false,.string (bs []),.bool false,.string (bs [])]/\Bw w W)=R:=⟨_,rfl⟩;first|refine bN R ?hR ?_|refine bL R ?hR ?_
 case hR=>subst hR;exact⟨(((ak.newAt w _ _ (b:=w.heap.size) rfl).alloc _).alloc _),((ak.newAt (w.alloc _) _ _ (b:=w.heap.size+1) zm).alloc _),(ak.newAt ((w.alloc _).alloc _) _ _ (b:=w.heap.size+1+1) zm),((zl.alloc zj _).alloc zj _)⟩
 subst hR;rintro W ⟨qx,qy,qr,ae⟩;have Hx:=ah qx;clear qx;have Hy:=ah qy;clear qy;have Hr:=ah qr;clear qr;obtain⟨x0,aX,x1,aY,x2,bi⟩:=Hx.out.g3;obtain⟨y0,aR,y1,aS,y2,aW⟩:=Hy.out.g3;obtain⟨r0,ai,r1,aj,r2,aG,r3,dh,r4,dF⟩:=Hr.out.g5;replace Hb:=az Hb ae;clear ae;have HT:=ah (hT.below Hb.out);refine bM (λw'=>w'.cell? ⟨w.heap.size,0,none⟩=some (.bool s)/\w'.cell? ⟨w.heap.size,1,none⟩=some (.string (bs l))/\w'.cell? ⟨w.heap.size,2,none⟩=some (.int .i64 e)/\w'.cell? ⟨w.heap.size+1,0,none⟩=some (.bool t)/\w'.cell? ⟨w.heap.size+1,1,none⟩=some (.string (bs m))/\w'.cell? ⟨w.heap.size+1,2,none⟩=some (.int .i64 f)) (λi=>Nat.blt i 4) [(0,true),(2,true),(1,false),(3,false),(4,false),(5,false)] zk zk rfl zk zc ⟨x0,x1,x2,y0,y1,y2⟩ ?_;iterate 2 (refine pT rfl rfl ?_ (by intro w' ⟨q0,q1,q2,q3,q4,q5⟩;go_simp;try with_reducible rfl);try simp only[UU])
 refine aI rfl rfl (λK hK=>?_);go_simp;with_reducible refine(Ri.out _ (by first|exact HT.out|exact aF.drew HT.out|exact aF.alloc HT.out _|exact aF.drew (aF.alloc HT.out _) |exact aF.alloc (aF.drew HT.out) _)).mono ?_
 rintro e w1 ⟨rfl,hq⟩;have ae:Bw W w1:=by first|exact hq|exact aV hq
 clear x0 aX x1 aY x2 bi y0 aR y1 aS y2 aW r0 ai r1 aj r2 aG r3 dh r4 dF;replace Hx:=kB Hx ae;replace Hy:=kB Hy ae;replace Hr:=kB Hr ae;obtain⟨x0,aX,x1,aY,x2,bi⟩:=Hx.out.g3;obtain⟨y0,aR,y1,aS,y2,aW⟩:=Hy.out.g3;obtain⟨r0,ai,r1,aj,r2,aG,r3,dh,r4,dF⟩:=Hr.out.g5;replace Hb:=az Hb ae;clear ae;refine hK _ _ (λ_=>⟨x0,x1,x2,y0,y1,y2⟩) ?_;clear hK K;try simp only[UU]
 refine aI rfl rfl (λK hK=>?_);go_simp;with_reducible refine(Rj.out _ (by first|exact(hT.below Hb.out) |exact aF.drew (hT.below Hb.out) |exact aF.alloc (hT.below Hb.out) _|exact aF.drew (aF.alloc (hT.below Hb.out) _) |exact aF.alloc (aF.drew (hT.below Hb.out)) _)).mono ?_
 rintro e w2 ⟨rfl,hq⟩;have ae:Bw w1 w2:=by first|exact hq|exact aV hq
 clear x0 aX x1 aY x2 bi y0 aR y1 aS y2 aW r0 ai r1 aj r2 aG r3 dh r4 dF;replace Hx:=kB Hx ae;replace Hy:=kB Hy ae;replace Hr:=kB Hr ae;obtain⟨x0,aX,x1,aY,x2,bi⟩:=Hx.out.g3;obtain⟨y0,aR,y1,aS,y2,aW⟩:=Hy.out.g3;obtain⟨r0,ai,r1,aj,r2,aG,r3,dh,r4,dF⟩:=Hr.out.g5;replace Hb:=az Hb ae;clear ae;refine hK _ _ (λ_=>⟨x0,x1,x2,y0,y1,y2⟩) ?_;clear hK K;try simp only[UU]
 refine aI rfl rfl (λK hK=>?_);go_simp;refine hK _ _ (λh=>absurd h zd) ?_;clear hK K;try simp only[UU]
 clear x0 aX x1 aY x2 bi y0 aR y1 aS y2 aW r0 ai r1 aj r2 aG r3 dh r4 dF;refine bO (bK w2 (w.heap.size) 0 [.bool p,.string (bs a),.int .i64 i]) bV ?_;intro w3 hs;replace Hx:=cF Hx hs;replace Hy:=kS Hy hs zo;replace Hr:=kS Hr hs zo;obtain⟨x0,aX,x1,aY,x2,bi⟩:=Hx.out.g3;obtain⟨y0,aR,y1,aS,y2,aW⟩:=Hy.out.g3;obtain⟨r0,ai,r1,aj,r2,aG,r3,dh,r4,dF⟩:=Hr.out.g5;replace Hb:=bS Hb hs ZS;clear hs;refine aI rfl rfl (λK hK=>?_);go_simp;refine hK _ _ (λh=>absurd h zd) ?_;clear hK K;try simp only[UU]
 clear x0 aX x1 aY x2 bi y0 aR y1 aS y2 aW r0 ai r1 aj r2 aG r3 dh r4 dF;refine bO (bK w3 (w.heap.size+1) 0 [.bool q,.string (bs b),.int .i64 j]) bV ?_;intro w4 hs;replace Hx:=kS Hx hs zo;replace Hy:=cF Hy hs;replace Hr:=kS Hr hs zo;obtain⟨x0,aX,x1,aY,x2,bi⟩:=Hx.out.g3;obtain⟨y0,aR,y1,aS,y2,aW⟩:=Hy.out.g3;obtain⟨r0,ai,r1,aj,r2,aG,r3,dh,r4,dF⟩:=Hr.out.g5;replace Hb:=bS Hb hs ZS;clear hs;simp only[aZ];have BZ:=Hr;clear x0 x1 x2 aX aY bi y0 y1 y2 aR aS aW r0 r1 r2 r3 r4 ai aj aG dh dF HT Ri Rj;rcases hlv with⟨h1,h2⟩ |⟨h1,h3,h2⟩ |⟨h1,h3,h2⟩
 . obtain⟨rfl,rfl,rfl⟩:=zA h1;subst h2;have z1:(bs []).toList=[]:=fY _;clear zA zB nA nB pA pB;obtain⟨x0,aX,x1,aY,x2,bi⟩:=Hx.out.g3;obtain⟨y0,aR,y1,aS,y2,aW⟩:=Hy.out.g3;obtain⟨r0,ai,r1,aj,r2,aG,r3,dh,r4,dF⟩:=Hr.out.g5;have Aw:=Hx.out.lt;have XO:=Hy.out.lt;have IE:=Hr.out.lt;go_wp2_with fail;obtain⟨R,hR⟩:∃R:World->Prop,(λW5=>ak W5 (w4.heap.size) 99 [.int .i64 g,.bool false,.string (bs []),.bool false,.string (bs [])]/\Bw w4 W5)=R:=⟨_,rfl⟩;first|refine bN R ?hR ?_|refine bL R ?hR ?_
   case hR=>subst hR;exact⟨(ak.newAt w4 _ _ (b:=w4.heap.size) rfl),zl⟩
   subst hR;rintro W5 ⟨qn,ae⟩;have Hn:=ah qn;clear qn x0 aX x1 aY x2 bi;replace Hx:=kB Hx ae;obtain⟨x0,aX,x1,aY,x2,bi⟩:=Hx.out.g3;clear y0 aR y1 aS y2 aW;replace Hy:=kB Hy ae;obtain⟨y0,aR,y1,aS,y2,aW⟩:=Hy.out.g3;clear r0 ai r1 aj r2 aG r3 dh r4 dF;replace Hr:=kB Hr ae;obtain⟨r0,ai,r1,aj,r2,aG,r3,dh,r4,dF⟩:=Hr.out.g5;obtain⟨n0,fN,n1,fO,n2,fP,n3,gz,n4,gA⟩:=Hn.out.g5;replace Hb:=az Hb ae;clear ae;have hns:w.heap.size+1+1<w4.heap.size:=BZ.out.lt;refine bM (λw'=>w'.cell? ⟨w.heap.size,0,none⟩=some (.bool false)/\w'.cell? ⟨w.heap.size,1,none⟩=some (.string (bs []))/\w'.cell? ⟨w.heap.size,2,none⟩=some (.int .i64 0)/\w'.cell? ⟨w.heap.size+1,0,none⟩=some (.bool q)/\w'.cell? ⟨w.heap.size+1,1,none⟩=some (.string (bs b))/\w'.cell? ⟨w.heap.size+1,2,none⟩=some (.int .i64 g)/\w'.cell? ⟨w4.heap.size,0,none⟩=some (.int .i64 g)) (λi=>Nat.blt i 11) [(0,true),(1,true),(2,true),(4,true),(5,true),(6,true),(3,false),(8,true),(7,false),(9,false),(10,true),(11,false)] zk zk rfl zk zc ⟨x0,x1,x2,y0,y1,y2,n0⟩ ?_;iterate 6 (refine pT rfl rfl ?_ (by intro w' ⟨q0,q1,q2,q3,q4,q5,q6⟩;go_simp;try with_reducible rfl);try simp only[UU])
   refine aI rfl rfl (λK hK=>?_);go_simp;with_reducible refine(AE false [] 0 g X HX.out _ La.out Ka.out (by first|exact(hT.below Hb.out) |exact aF.drew (hT.below Hb.out) |exact aF.alloc (hT.below Hb.out) _|exact aF.drew (aF.alloc (hT.below Hb.out) _) |exact aF.alloc (aF.drew (hT.below Hb.out)) _)).mono ?_
   rintro e w6 ⟨rfl,hq⟩;have ae:Bw W5 w6:=by first|exact hq|exact aV hq
   clear x0 aX x1 aY x2 bi y0 aR y1 aS y2 aW r0 ai r1 aj r2 aG r3 dh r4 dF n0 fN n1 fO n2 fP n3 gz n4 gA;replace Hx:=kB Hx ae;replace Hy:=kB Hy ae;replace Hr:=kB Hr ae;replace Hn:=kB Hn ae;obtain⟨x0,aX,x1,aY,x2,bi⟩:=Hx.out.g3;obtain⟨y0,aR,y1,aS,y2,aW⟩:=Hy.out.g3;obtain⟨r0,ai,r1,aj,r2,aG,r3,dh,r4,dF⟩:=Hr.out.g5;obtain⟨n0,fN,n1,fO,n2,fP,n3,gz,n4,gA⟩:=Hn.out.g5;replace Hb:=az Hb ae;clear ae;refine hK _ _ (λ_=>⟨x0,x1,x2,y0,y1,y2,n0⟩) ?_;clear hK K;try simp only[UU]
   refine pT rfl rfl ?_;try simp only[UU]
   refine aI rfl rfl (λK hK=>?_);go_simp;with_reducible refine(AE q b g g Y HY.out _ Lb.out Kb.out (by first|exact(hT.below Hb.out) |exact aF.drew (hT.below Hb.out) |exact aF.alloc (hT.below Hb.out) _|exact aF.drew (aF.alloc (hT.below Hb.out) _) |exact aF.alloc (aF.drew (hT.below Hb.out)) _)).mono ?_
   rintro e w7 ⟨rfl,hq⟩;have ae:Bw w6 w7:=by first|exact hq|exact aV hq
   clear x0 aX x1 aY x2 bi y0 aR y1 aS y2 aW r0 ai r1 aj r2 aG r3 dh r4 dF n0 fN n1 fO n2 fP n3 gz n4 gA;replace Hx:=kB Hx ae;replace Hy:=kB Hy ae;replace Hr:=kB Hr ae;replace Hn:=kB Hn ae;obtain⟨x0,aX,x1,aY,x2,bi⟩:=Hx.out.g3;obtain⟨y0,aR,y1,aS,y2,aW⟩:=Hy.out.g3;obtain⟨r0,ai,r1,aj,r2,aG,r3,dh,r4,dF⟩:=Hr.out.g5;obtain⟨n0,fN,n1,fO,n2,fP,n3,gz,n4,gA⟩:=Hn.out.g5;replace Hb:=az Hb ae;clear ae;refine hK _ _ (λ_=>⟨x0,x1,x2,y0,y1,y2,n0⟩) ?_;clear hK K;try simp only[UU]
   refine aI rfl rfl (λK hK=>?_);go_simp;refine hK _ _ (λ_=>⟨(aH zf (aH zf x0)),(aH zf (aH zf x1)),(aH zf (aH zf x2)),(aH zf (aH zf y0)),(aH zf (aH zf y1)),(aH zf (aH zf y2)),(aH zf (aH zf n0))⟩) ?_;clear hK K;try simp only[UU]
   clear x0 aX x1 aY x2 bi y0 aR y1 aS y2 aW r0 ai r1 aj r2 aG r3 dh r4 dF n0 fN n1 fO n2 fP n3 gz n4 gA;refine bO (bK w7 (w4.heap.size) 1 [.bool (ar X),.string (bs (nt X.natAbs))]) bV ?_;intro w8 hs;replace Hx:=kS Hx hs zo;replace Hy:=kS Hy hs zo;replace Hr:=kS Hr hs zo;replace Hn:Hid (ak w8 (w4.heap.size) 99 [.int .i64 g,.bool (ar X),.string (bs (nt X.natAbs)),.bool false,.string (bs [])]):=yh Hn hs;obtain⟨x0,aX,x1,aY,x2,bi⟩:=Hx.out.g3;obtain⟨y0,aR,y1,aS,y2,aW⟩:=Hy.out.g3;obtain⟨r0,ai,r1,aj,r2,aG,r3,dh,r4,dF⟩:=Hr.out.g5;obtain⟨n0,fN,n1,fO,n2,fP,n3,gz,n4,gA⟩:=Hn.out.g5;replace Hb:=bS Hb hs ZS;clear hs;refine pT rfl rfl ?_;try simp only[UU]
   refine aI rfl rfl (λK hK=>?_);go_simp;refine hK _ _ (λh=>absurd h zd) ?_;clear hK K;try simp only[UU]
   clear x0 aX x1 aY x2 bi y0 aR y1 aS y2 aW r0 ai r1 aj r2 aG r3 dh r4 dF n0 fN n1 fO n2 fP n3 gz n4 gA;refine bO (bK w8 (w4.heap.size) 3 [.bool (ar Y),.string (bs (nt Y.natAbs))]) bV ?_;intro w9 hs;replace Hx:=kS Hx hs zo;replace Hy:=kS Hy hs zo;replace Hr:=kS Hr hs zo;replace Hn:Hid (ak w9 (w4.heap.size) 99 [.int .i64 g,.bool (ar X),.string (bs (nt X.natAbs)),.bool (ar Y),.string (bs (nt Y.natAbs))]):=yh Hn hs;obtain⟨x0,aX,x1,aY,x2,bi⟩:=Hx.out.g3;obtain⟨y0,aR,y1,aS,y2,aW⟩:=Hy.out.g3;obtain⟨r0,ai,r1,aj,r2,aG,r3,dh,r4,dF⟩:=Hr.out.g5;obtain⟨n0,fN,n1,fO,n2,fP,n3,gz,n4,gA⟩:=Hn.out.g5;replace Hb:=bS Hb hs ZS;clear hs;simp only[aZ];go_wp2;refine bodyPost_ret (v:=.agg #[.int .i64 g,.bool (ar X),.string (bs (nt X.natAbs)),.bool (ar Y),.string (bs (nt Y.natAbs))]) (by simp[results,Tryz.results71,go_sem,r0,r1,r2,r3,r4]) rfl ⟨rfl,?_⟩;(repeat first|exact Hb.out| (refine Below.setCell ?_ (by have:=Hb.out.size;first| (dsimp only;omega) | (show _<=_;omega) | (simp<;>omega)) _) | (refine Below.alloc ?_ zt _) |refine Below.drew ?_)
 . obtain⟨rfl,rfl,rfl⟩:=zB h3;subst h2;have z1:(bs []).toList=[]:=fY _;have z2:¬(bs a).toList=[]:=by rw[fY];exact nA h1
   clear zA zB nA nB pA pB;obtain⟨x0,aX,x1,aY,x2,bi⟩:=Hx.out.g3;obtain⟨y0,aR,y1,aS,y2,aW⟩:=Hy.out.g3;obtain⟨r0,ai,r1,aj,r2,aG,r3,dh,r4,dF⟩:=Hr.out.g5;have Aw:=Hx.out.lt;have XO:=Hy.out.lt;have IE:=Hr.out.lt;go_wp2_with fail;obtain⟨R,hR⟩:∃R:World->Prop,(λW5=>ak W5 (w4.heap.size) 99 [.int .i64 g,.bool false,.string (bs []),.bool false,.string (bs [])]/\Bw w4 W5)=R:=⟨_,rfl⟩;first|refine bN R ?hR ?_|refine bL R ?hR ?_
   case hR=>subst hR;exact⟨(ak.newAt w4 _ _ (b:=w4.heap.size) rfl),zl⟩
   subst hR;rintro W5 ⟨qn,ae⟩;have Hn:=ah qn;clear qn x0 aX x1 aY x2 bi;replace Hx:=kB Hx ae;obtain⟨x0,aX,x1,aY,x2,bi⟩:=Hx.out.g3;clear y0 aR y1 aS y2 aW;replace Hy:=kB Hy ae;obtain⟨y0,aR,y1,aS,y2,aW⟩:=Hy.out.g3;clear r0 ai r1 aj r2 aG r3 dh r4 dF;replace Hr:=kB Hr ae;obtain⟨r0,ai,r1,aj,r2,aG,r3,dh,r4,dF⟩:=Hr.out.g5;obtain⟨n0,fN,n1,fO,n2,fP,n3,gz,n4,gA⟩:=Hn.out.g5;replace Hb:=az Hb ae;clear ae;have hns:w.heap.size+1+1<w4.heap.size:=BZ.out.lt;refine bM (λw'=>w'.cell? ⟨w.heap.size,0,none⟩=some (.bool p)/\w'.cell? ⟨w.heap.size,1,none⟩=some (.string (bs a))/\w'.cell? ⟨w.heap.size,2,none⟩=some (.int .i64 g)/\w'.cell? ⟨w.heap.size+1,0,none⟩=some (.bool false)/\w'.cell? ⟨w.heap.size+1,1,none⟩=some (.string (bs []))/\w'.cell? ⟨w.heap.size+1,2,none⟩=some (.int .i64 0)/\w'.cell? ⟨w4.heap.size,0,none⟩=some (.int .i64 g)) (λi=>Nat.blt i 11) [(0,true),(1,true),(2,true),(4,true),(5,true),(6,true),(3,false),(8,true),(7,false),(9,false),(10,true),(11,false)] zk zk rfl zk zc ⟨x0,x1,x2,y0,y1,y2,n0⟩ ?_;iterate 6 (refine pT rfl rfl ?_ (by intro w' ⟨q0,q1,q2,q3,q4,q5,q6⟩;go_simp;try with_reducible rfl);try simp only[UU])
   refine aI rfl rfl (λK hK=>?_);go_simp;with_reducible refine(AE p a g g X HX.out _ La.out Ka.out (by first|exact(hT.below Hb.out) |exact aF.drew (hT.below Hb.out) |exact aF.alloc (hT.below Hb.out) _|exact aF.drew (aF.alloc (hT.below Hb.out) _) |exact aF.alloc (aF.drew (hT.below Hb.out)) _)).mono ?_
   rintro e w6 ⟨rfl,hq⟩;have ae:Bw W5 w6:=by first|exact hq|exact aV hq
   clear x0 aX x1 aY x2 bi y0 aR y1 aS y2 aW r0 ai r1 aj r2 aG r3 dh r4 dF n0 fN n1 fO n2 fP n3 gz n4 gA;replace Hx:=kB Hx ae;replace Hy:=kB Hy ae;replace Hr:=kB Hr ae;replace Hn:=kB Hn ae;obtain⟨x0,aX,x1,aY,x2,bi⟩:=Hx.out.g3;obtain⟨y0,aR,y1,aS,y2,aW⟩:=Hy.out.g3;obtain⟨r0,ai,r1,aj,r2,aG,r3,dh,r4,dF⟩:=Hr.out.g5;obtain⟨n0,fN,n1,fO,n2,fP,n3,gz,n4,gA⟩:=Hn.out.g5;replace Hb:=az Hb ae;clear ae;refine hK _ _ (λ_=>⟨x0,x1,x2,y0,y1,y2,n0⟩) ?_;clear hK K;try simp only[UU]
   refine pT rfl rfl ?_;try simp only[UU]
   refine aI rfl rfl (λK hK=>?_);go_simp;with_reducible refine(AE false [] 0 g Y HY.out _ Lb.out Kb.out (by first|exact(hT.below Hb.out) |exact aF.drew (hT.below Hb.out) |exact aF.alloc (hT.below Hb.out) _|exact aF.drew (aF.alloc (hT.below Hb.out) _) |exact aF.alloc (aF.drew (hT.below Hb.out)) _)).mono ?_
   rintro e w7 ⟨rfl,hq⟩;have ae:Bw w6 w7:=by first|exact hq|exact aV hq
   clear x0 aX x1 aY x2 bi y0 aR y1 aS y2 aW r0 ai r1 aj r2 aG r3 dh r4 dF n0 fN n1 fO n2 fP n3 gz n4 gA;replace Hx:=kB Hx ae;replace Hy:=kB Hy ae;replace Hr:=kB Hr ae;replace Hn:=kB Hn ae;obtain⟨x0,aX,x1,aY,x2,bi⟩:=Hx.out.g3;obtain⟨y0,aR,y1,aS,y2,aW⟩:=Hy.out.g3;obtain⟨r0,ai,r1,aj,r2,aG,r3,dh,r4,dF⟩:=Hr.out.g5;obtain⟨n0,fN,n1,fO,n2,fP,n3,gz,n4,gA⟩:=Hn.out.g5;replace Hb:=az Hb ae;clear ae;refine hK _ _ (λ_=>⟨x0,x1,x2,y0,y1,y2,n0⟩) ?_;clear hK K;try simp only[UU]
   refine aI rfl rfl (λK hK=>?_);go_simp;refine hK _ _ (λ_=>⟨(aH zf (aH zf x0)),(aH zf (aH zf x1)),(aH zf (aH zf x2)),(aH zf (aH zf y0)),(aH zf (aH zf y1)),(aH zf (aH zf y2)),(aH zf (aH zf n0))⟩) ?_;clear hK K;try simp only[UU]
   clear x0 aX x1 aY x2 bi y0 aR y1 aS y2 aW r0 ai r1 aj r2 aG r3 dh r4 dF n0 fN n1 fO n2 fP n3 gz n4 gA;refine bO (bK w7 (w4.heap.size) 1 [.bool (ar X),.string (bs (nt X.natAbs))]) bV ?_;intro w8 hs;replace Hx:=kS Hx hs zo;replace Hy:=kS Hy hs zo;replace Hr:=kS Hr hs zo;replace Hn:Hid (ak w8 (w4.heap.size) 99 [.int .i64 g,.bool (ar X),.string (bs (nt X.natAbs)),.bool false,.string (bs [])]):=yh Hn hs;obtain⟨x0,aX,x1,aY,x2,bi⟩:=Hx.out.g3;obtain⟨y0,aR,y1,aS,y2,aW⟩:=Hy.out.g3;obtain⟨r0,ai,r1,aj,r2,aG,r3,dh,r4,dF⟩:=Hr.out.g5;obtain⟨n0,fN,n1,fO,n2,fP,n3,gz,n4,gA⟩:=Hn.out.g5;replace Hb:=bS Hb hs ZS;clear hs;refine pT rfl rfl ?_;try simp only[UU]
   refine aI rfl rfl (λK hK=>?_);go_simp;refine hK _ _ (λh=>absurd h zd) ?_;clear hK K;try simp only[UU]
   clear x0 aX x1 aY x2 bi y0 aR y1 aS y2 aW r0 ai r1 aj r2 aG r3 dh r4 dF n0 fN n1 fO n2 fP n3 gz n4 gA;refine bO (bK w8 (w4.heap.size) 3 [.bool (ar Y),.string (bs (nt Y.natAbs))]) bV ?_;intro w9 hs;replace Hx:=kS Hx hs zo;replace Hy:=kS Hy hs zo;replace Hr:=kS Hr hs zo;replace Hn:Hid (ak w9 (w4.heap.size) 99 [.int .i64 g,.bool (ar X),.string (bs (nt X.natAbs)),.bool (ar Y),.string (bs (nt Y.natAbs))]):=yh Hn hs;obtain⟨x0,aX,x1,aY,x2,bi⟩:=Hx.out.g3;obtain⟨y0,aR,y1,aS,y2,aW⟩:=Hy.out.g3;obtain⟨r0,ai,r1,aj,r2,aG,r3,dh,r4,dF⟩:=Hr.out.g5;obtain⟨n0,fN,n1,fO,n2,fP,n3,gz,n4,gA⟩:=Hn.out.g5;replace Hb:=bS Hb hs ZS;clear hs;simp only[aZ];go_wp2;refine bodyPost_ret (v:=.agg #[.int .i64 g,.bool (ar X),.string (bs (nt X.natAbs)),.bool (ar Y),.string (bs (nt Y.natAbs))]) (by simp[results,Tryz.results71,go_sem,r0,r1,r2,r3,r4]) rfl ⟨rfl,?_⟩;(repeat first|exact Hb.out| (refine Below.setCell ?_ (by have:=Hb.out.size;first| (dsimp only;omega) | (show _<=_;omega) | (simp<;>omega)) _) | (refine Below.alloc ?_ zt _) |refine Below.drew ?_)
 . have z1:¬(bs b).toList=[]:=by rw[fY];exact nB h3
   have z2:¬(bs a).toList=[]:=by rw[fY];exact nA h1
   have z3:min i j=g:=h2.symm;clear zA zB nA nB pA pB h2;obtain⟨x0,aX,x1,aY,x2,bi⟩:=Hx.out.g3;obtain⟨y0,aR,y1,aS,y2,aW⟩:=Hy.out.g3;obtain⟨r0,ai,r1,aj,r2,aG,r3,dh,r4,dF⟩:=Hr.out.g5;have Aw:=Hx.out.lt;have XO:=Hy.out.lt;have IE:=Hr.out.lt;go_wp2_with fail;obtain⟨R,hR⟩:∃R:World->Prop,(λW5=>ak W5 (w4.heap.size) 99 [.int .i64 g,.bool false,.string (bs []),.bool false,.string (bs [])]/\Bw w4 W5)=R:=⟨_,rfl⟩;first|refine bN R ?hR ?_|refine bL R ?hR ?_
   case hR=>subst hR;exact⟨(ak.newAt w4 _ _ (b:=w4.heap.size) rfl),zl⟩
   subst hR;rintro W5 ⟨qn,ae⟩;have Hn:=ah qn;clear qn x0 aX x1 aY x2 bi;replace Hx:=kB Hx ae;obtain⟨x0,aX,x1,aY,x2,bi⟩:=Hx.out.g3;clear y0 aR y1 aS y2 aW;replace Hy:=kB Hy ae;obtain⟨y0,aR,y1,aS,y2,aW⟩:=Hy.out.g3;clear r0 ai r1 aj r2 aG r3 dh r4 dF;replace Hr:=kB Hr ae;obtain⟨r0,ai,r1,aj,r2,aG,r3,dh,r4,dF⟩:=Hr.out.g5;obtain⟨n0,fN,n1,fO,n2,fP,n3,gz,n4,gA⟩:=Hn.out.g5;replace Hb:=az Hb ae;clear ae;have hns:w.heap.size+1+1<w4.heap.size:=BZ.out.lt;refine bM (λw'=>w'.cell? ⟨w.heap.size,0,none⟩=some (.bool p)/\w'.cell? ⟨w.heap.size,1,none⟩=some (.string (bs a))/\w'.cell? ⟨w.heap.size,2,none⟩=some (.int .i64 i)/\w'.cell? ⟨w.heap.size+1,0,none⟩=some (.bool q)/\w'.cell? ⟨w.heap.size+1,1,none⟩=some (.string (bs b))/\w'.cell? ⟨w.heap.size+1,2,none⟩=some (.int .i64 j)/\w'.cell? ⟨w4.heap.size,0,none⟩=some (.int .i64 g)) (λi=>Nat.blt i 11) [(0,true),(1,true),(2,true),(4,true),(5,true),(6,true),(3,false),(8,true),(7,false),(9,false),(10,true),(11,false)] zk zk rfl zk zc ⟨x0,x1,x2,y0,y1,y2,n0⟩ ?_;iterate 6 (refine pT rfl rfl ?_ (by intro w' ⟨q0,q1,q2,q3,q4,q5,q6⟩;go_simp;try with_reducible rfl);try simp only[UU])
   refine aI rfl rfl (λK hK=>?_);go_simp;with_reducible refine(AE p a i g X HX.out _ La.out Ka.out (by first|exact(hT.below Hb.out) |exact aF.drew (hT.below Hb.out) |exact aF.alloc (hT.below Hb.out) _|exact aF.drew (aF.alloc (hT.below Hb.out) _) |exact aF.alloc (aF.drew (hT.below Hb.out)) _)).mono ?_
   rintro e w6 ⟨rfl,hq⟩;have ae:Bw W5 w6:=by first|exact hq|exact aV hq
   clear x0 aX x1 aY x2 bi y0 aR y1 aS y2 aW r0 ai r1 aj r2 aG r3 dh r4 dF n0 fN n1 fO n2 fP n3 gz n4 gA;replace Hx:=kB Hx ae;replace Hy:=kB Hy ae;replace Hr:=kB Hr ae;replace Hn:=kB Hn ae;obtain⟨x0,aX,x1,aY,x2,bi⟩:=Hx.out.g3;obtain⟨y0,aR,y1,aS,y2,aW⟩:=Hy.out.g3;obtain⟨r0,ai,r1,aj,r2,aG,r3,dh,r4,dF⟩:=Hr.out.g5;obtain⟨n0,fN,n1,fO,n2,fP,n3,gz,n4,gA⟩:=Hn.out.g5;replace Hb:=az Hb ae;clear ae;refine hK _ _ (λ_=>⟨x0,x1,x2,y0,y1,y2,n0⟩) ?_;clear hK K;try simp only[UU]
   refine pT rfl rfl ?_;try simp only[UU]
   refine aI rfl rfl (λK hK=>?_);go_simp;with_reducible refine(AE q b j g Y HY.out _ Lb.out Kb.out (by first|exact(hT.below Hb.out) |exact aF.drew (hT.below Hb.out) |exact aF.alloc (hT.below Hb.out) _|exact aF.drew (aF.alloc (hT.below Hb.out) _) |exact aF.alloc (aF.drew (hT.below Hb.out)) _)).mono ?_
   rintro e w7 ⟨rfl,hq⟩;have ae:Bw w6 w7:=by first|exact hq|exact aV hq
   clear x0 aX x1 aY x2 bi y0 aR y1 aS y2 aW r0 ai r1 aj r2 aG r3 dh r4 dF n0 fN n1 fO n2 fP n3 gz n4 gA;replace Hx:=kB Hx ae;replace Hy:=kB Hy ae;replace Hr:=kB Hr ae;replace Hn:=kB Hn ae;obtain⟨x0,aX,x1,aY,x2,bi⟩:=Hx.out.g3;obtain⟨y0,aR,y1,aS,y2,aW⟩:=Hy.out.g3;obtain⟨r0,ai,r1,aj,r2,aG,r3,dh,r4,dF⟩:=Hr.out.g5;obtain⟨n0,fN,n1,fO,n2,fP,n3,gz,n4,gA⟩:=Hn.out.g5;replace Hb:=az Hb ae;clear ae;refine hK _ _ (λ_=>⟨x0,x1,x2,y0,y1,y2,n0⟩) ?_;clear hK K;try simp only[UU]
   refine aI rfl rfl (λK hK=>?_);go_simp;refine hK _ _ (λ_=>⟨(aH zf (aH zf x0)),(aH zf (aH zf x1)),(aH zf (aH zf x2)),(aH zf (aH zf y0)),(aH zf (aH zf y1)),(aH zf (aH zf y2)),(aH zf (aH zf n0))⟩) ?_;clear hK K;try simp only[UU]
   clear x0 aX x1 aY x2 bi y0 aR y1 aS y2 aW r0 ai r1 aj r2 aG r3 dh r4 dF n0 fN n1 fO n2 fP n3 gz n4 gA;refine bO (bK w7 (w4.heap.size) 1 [.bool (ar X),.string (bs (nt X.natAbs))]) bV ?_;intro w8 hs;replace Hx:=kS Hx hs zo;replace Hy:=kS Hy hs zo;replace Hr:=kS Hr hs zo;replace Hn:Hid (ak w8 (w4.heap.size) 99 [.int .i64 g,.bool (ar X),.string (bs (nt X.natAbs)),.bool false,.string (bs [])]):=yh Hn hs;obtain⟨x0,aX,x1,aY,x2,bi⟩:=Hx.out.g3;obtain⟨y0,aR,y1,aS,y2,aW⟩:=Hy.out.g3;obtain⟨r0,ai,r1,aj,r2,aG,r3,dh,r4,dF⟩:=Hr.out.g5;obtain⟨n0,fN,n1,fO,n2,fP,n3,gz,n4,gA⟩:=Hn.out.g5;replace Hb:=bS Hb hs ZS;clear hs;refine pT rfl rfl ?_;try simp only[UU]
   refine aI rfl rfl (λK hK=>?_);go_simp;refine hK _ _ (λh=>absurd h zd) ?_;clear hK K;try simp only[UU]
   clear x0 aX x1 aY x2 bi y0 aR y1 aS y2 aW r0 ai r1 aj r2 aG r3 dh r4 dF n0 fN n1 fO n2 fP n3 gz n4 gA;refine bO (bK w8 (w4.heap.size) 3 [.bool (ar Y),.string (bs (nt Y.natAbs))]) bV ?_;intro w9 hs;replace Hx:=kS Hx hs zo;replace Hy:=kS Hy hs zo;replace Hr:=kS Hr hs zo;replace Hn:Hid (ak w9 (w4.heap.size) 99 [.int .i64 g,.bool (ar X),.string (bs (nt X.natAbs)),.bool (ar Y),.string (bs (nt Y.natAbs))]):=yh Hn hs;obtain⟨x0,aX,x1,aY,x2,bi⟩:=Hx.out.g3;obtain⟨y0,aR,y1,aS,y2,aW⟩:=Hy.out.g3;obtain⟨r0,ai,r1,aj,r2,aG,r3,dh,r4,dF⟩:=Hr.out.g5;obtain⟨n0,fN,n1,fO,n2,fP,n3,gz,n4,gA⟩:=Hn.out.g5;replace Hb:=bS Hb hs ZS;clear hs;simp only[aZ];go_wp2;refine bodyPost_ret (v:=.agg #[.int .i64 g,.bool (ar X),.string (bs (nt X.natAbs)),.bool (ar Y),.string (bs (nt Y.natAbs))]) (by simp[results,Tryz.results71,go_sem,r0,r1,r2,r3,r4]) rfl ⟨rfl,?_⟩;(repeat first|exact Hb.out| (refine Below.setCell ?_ (by have:=Hb.out.size;first| (dsimp only;omega) | (show _<=_;omega) | (simp<;>omega)) _) | (refine Below.alloc ?_ zt _) |refine Below.drew ?_)
theorem Sw (X Y:Int)(n:Nat)(hX:(nt X.natAbs).length<=n)(hY:(nt Y.natAbs).length<=n):(nt (X+Y).natAbs).length<=n+1:=by have h1:=fT (nt X.natAbs);have h2:=fT (nt Y.natAbs);rw[jb]at h1 h2;have h3:=Nat.lt_of_lt_of_le h1 (Nat.pow_le_pow_right (show 0<256 by decide) hX);have h4:=Nat.lt_of_lt_of_le h2 (Nat.pow_le_pow_right (show 0<256 by decide) hY);refine ja ?_;rw[Nat.pow_succ];omega
theorem ajF (X Y:Int)(m n:Nat)(hX:(nt X.natAbs).length<=m)(hY:(nt Y.natAbs).length<=n):(nt (X*Y).natAbs).length<=m+n:=by have h1:=fT (nt X.natAbs);have h2:=fT (nt Y.natAbs);rw[jb]at h1 h2;have h3:=Nat.lt_of_lt_of_le h1 (Nat.pow_le_pow_right (show 0<256 by decide) hX);have h4:=Nat.lt_of_lt_of_le h2 (Nat.pow_le_pow_right (show 0<256 by decide) hY);refine ja ?_;rw[Int.natAbs_mul,Nat.pow_add];exact Nat.mul_lt_mul'' h3 h4
theorem Zg (v k:Int)(a b:Nat)(hv:v.natAbs<2^a)(hk:k<=b):(mP v k).natAbs<2^(a+b):=by
 have h0:v.natAbs<2^(a+b):=Nat.lt_of_lt_of_le hv (Nat.pow_le_pow_right zd zo);unfold mP;split
 . rw[Int.natAbs_mul,Int.natAbs_pow,Nat.pow_add];refine Nat.lt_of_le_of_lt (Nat.mul_le_mul_left _ (Nat.pow_le_pow_right zd (show k.toNat<=b by omega))) ?_;exact Nat.mul_lt_mul_of_pos_right hv (Nat.pow_pos zd)
 . have hp:(0:Int)<2^(-k).toNat:=by
    have:((2^(-k).toNat:Nat):Int)>0:=by have:=Nat.pow_pos (n:=(-k).toNat) (show 0<2 by decide);omega
    simpa[Int.natCast_pow]using this
   generalize (2:Int)^(-k).toNat=p at*;have:(v/p).natAbs<=v.natAbs:=by
    rcases Int.le_total 0 v with h|h
    . have h1:=Int.ediv_nonneg h (by omega:(0:Int)<=p);have h2:=Int.ediv_le_self p h;omega
    . have h1:v<=v/p:=by rw[Int.le_ediv_iff_mul_le hp];have:=Int.mul_le_mul_of_nonpos_left h (show(1:Int)<=p by omega);omega
      have h2:v/p<=0:=by have:=Int.ediv_le_ediv hp h;simpa using this
      omega
   omega
theorem XJ {x y:Raw}(hx:Ok x)(hy:Ok y)(A B:Dyadic)(hA:aC x=A)(hB:aC y=B):∃g X Y,sf A B=g/\mP (dN A) (dE A-g)=X/\mP (dN B) (dE B-g)=Y/\A=Dyadic.ofIntWithPrec X (-g)/\B=Dyadic.ofIntWithPrec Y (-g)/\
 (nt X.natAbs).length<=17179869183/\(nt Y.natAbs).length<=17179869183/\ -1099511627776<=g/\g<=1099511627776:=by
 subst hA hB;obtain⟨M,hM,sx,sy⟩:∃M,M<=4294967296/\Sm M (aC x)/\Sm M (aC y):=⟨4294967296,Nat.le_refl _,hx.sm,hy.sm⟩;obtain⟨a1,a2,a3⟩:=sx.parts;obtain⟨b1,b2,b3⟩:=sy.parts;generalize aC x=A at*;generalize aC y=B at*;obtain⟨h1,h2⟩:=ai8 A B;have hg: -(M:Int)<=sf A B/\sf A B<=M:=by
  clear a1 b1;unfold sf;split
  . omega
  . split<;>omega
 refine⟨sf A B,_,_,rfl,rfl,rfl,Yu A _ h1,Yu B _ h2,?_,?_,?_,?_⟩
 . exact ki (Zg _ _ _ (2*M) a1 (by clear a1 b1;omega)) zo
 . exact ki (Zg _ _ _ (2*M) b1 (by clear a1 b1;omega)) zo
 . clear a1 b1;omega
 . clear a1 b1;omega
def bA (x:Raw):List Value:=[.bool x.1,.string (bs x.2.1),.int .i64 x.2.2]
def kH :List Raw->Dyadic
 |[]=>0
 |x::xs=>aC x+kH xs
theorem afV (xs ys:List Raw):kH (xs++ys)=kH xs+kH ys:=by
 induction xs with
 |nil=>simp only[List.nil_append,kH];grind
 |cons x xs ih=>simp only[List.cons_append,kH,ih];grind
theorem afX (xs:List Raw)(k:Nat)(hk:k<xs.length):kH (xs.take (k+1))=kH (xs.take k)+aC xs[k]:=by rw[List.take_succ_eq_append_getElem hk,afV];simp only[kH];grind
def jV :List Raw->Dyadic
 |[]=>1
 |x::xs=>aC x*jV xs
theorem afR (xs ys:List Raw):jV (xs++ys)=jV xs*jV ys:=by
 induction xs with
 |nil=>simp only[List.nil_append,jV];grind
 |cons x xs ih=>simp only[List.cons_append,jV,ih];grind
theorem afT (xs:List Raw)(k:Nat)(hk:k<xs.length):jV (xs.take (k+1))=jV (xs.take k) *aC xs[k]:=by rw[List.take_succ_eq_append_getElem hk,afR];simp only[jV];grind
theorem am0 (X Y N:Int)(hN:X+Y=N)(b cap:Nat)(ty:TypeId)(w:World)(hl:(nt X.natAbs).length<=34359738368)(hm:(nt Y.natAbs).length<=34359738368)
 (ha:ak w b ty [.bool (ar X),.string (bs (nt X.natAbs)),.bool (ar Y),.string (bs (nt Y.natAbs))]):
 Calls Tryz.prog 76 #[.slice (some ⟨b,0,none⟩) 2 cap] w λe w'=>e=.returned (cW N)/\Bw w w':=by
 have:=ZO (ar X) (nt X.natAbs) (ar Y) (nt Y.natAbs) b cap ty w hl hm ha;rw[ft,ft,hN]at this;exact this
theorem ZR (s:Bool)(l:List UInt8)(t:Bool)(m:List UInt8)(N:Int)(hN:iv s l*iv t m=N)(b cap:Nat)(ty:TypeId)(w:World)(hl:l.length<=17179869184)(hm:m.length<=17179869184)
 (ha:ak w b ty [.bool s,.string (bs l),.bool t,.string (bs m)]):
 Calls Tryz.prog 73 #[.slice (some ⟨b,0,none⟩) 2 cap] w λe w'=>e=.returned (cW N)/\Bw w w':=by
 have:=am5 [(s,l),(t,m)] (some ⟨b,0,none⟩) cap w (by simp[oF];omega) zm (At.aqS ha);have e:gU [(s,l),(t,m)]=N:=by rw[<-hN];simp[gU]
 rw[e]at this;exact this
theorem afo (xs:List Raw)(a:Option Addr)(cap:Nat)(w:World)(hl:∀x∈xs,Ok x)(hS:∀k,Ok (canon (kH (xs.take k))))(hx:xs.length<=1048576)
 (ha:At w a (xs.flatMap bA)) (hT:aF w):
 Calls Tryz.prog 38 #[.slice a xs.length cap] w λe w'=>e=.returned (bH (kH xs))/\Bw w w':=by
 have Hl:=ah hl;clear hl;have HS:=ah hS;clear hS;have Ha:=ah ha;clear ha;have fL:=ah hT;clear hT;go_enter Tryz.func38,Tryz.ntmps38;have Hb:Hid (Bw w w):=Below.refl _ _;go_wp2_with fail;obtain⟨R,hR⟩:∃R:World->Prop,(λW=>ak W (w.heap.size) 30 [.bool false,.string (bs []),.int .i64 0]/\ak W (w.heap.size+1) 30 [.bool false,.string (bs []),.int .i64 0]/\Bw w W)=R:=⟨_,rfl⟩;first|refine bN R ?hR ?_|refine bL R ?hR ?_
 case hR=>subst hR;exact⟨((ak.newAt w _ _ (b:=w.heap.size) rfl).alloc _),(ak.newAt (w.alloc _) _ _ (b:=w.heap.size+1) zm),(zl.alloc zj _)⟩
 subst hR;rintro W ⟨qr,qs,ae⟩;have Hr:=ah qr;clear qr;have Hs:=ah qs;clear qs;obtain⟨r0,ai,r1,aj,r2,aG⟩:=Hr.out.g3;obtain⟨s0,bW,s1,bX,s2,cJ⟩:=Hs.out.g3;replace Hb:=az Hb ae;clear ae
 go_loopw[5,6,9] (λ_ _ i wr=>∃(k:Nat),k<=xs.length/\i=.int .i64 k/\ak wr w.heap.size 30 [.bool false,.string (bs []),.int .i64 0]/\
  ak wr (w.heap.size+1) 30 (bA (canon (kH (xs.take k))))/\Bw w wr) (λ_ _ i _=>xs.length-(intOf i).toNat)
 case atStart=>exact⟨0,Nat.zero_le _,rfl,Hr.out,Hs.out,Hb.out⟩
 case round=>
  obtain⟨k,hk,rfl,qr,qs,hb⟩:=hrel;replace Hr:=ah qr;replace Hs:=ah qs;replace Hb:=ah hb;clear qr qs hb r0 r1 r2 ai aj aG s0 s1 s2 bW bX cJ;by_cases hlt:k<xs.length
  . obtain ⟨b,o,hab,hcs⟩:=(Ha.out.below Hb.out).elem (f:=bA) (sz:=3) (fun _=>rfl) zd k hlt;have hc0:wr.cell? ⟨b,o+k*3,none⟩=some (.bool xs[k].1):=hcs 0 zd;have hc1:wr.cell? ⟨b,o+k*3+1,none⟩=some (.string (bs xs[k].2.1)):=hcs 1 zd;have hc2:wr.cell? ⟨b,o+k*3+2,none⟩=some (.int .i64 xs[k].2.2):=hcs 2 zd;have bE:=jC xs.length cap k (k:Int) hab hlt rfl;have cE:=ah (afX xs k hlt);have kx:Hid (Ok xs[k]):=Hl.out _ (List.getElem_mem hlt);have jS:=ah (HS.out k);clear hcs hab;generalize xs[k]=x at*;obtain⟨t1,l1,e1⟩:=x;generalize hS:kH (xs.take k)=S at*;clear hS;obtain⟨g,X,Y,hg,hX,hY,eA,eB,lX,lY,hg1,hg2⟩:=XJ jS.out kx.out S (aC (t1,l1,e1)) (bP S) rfl;obtain⟨N,hN⟩:=aB (X+Y);obtain⟨D,hD⟩:=aB (S+aC (t1,l1,e1));have HD:Hid (aC (ar N,nt N.natAbs,g)=D):=by
     show _=_
     rw[uR,<-hD,<-hN,<-yC,<-eA,<-eB]
    have Kc:Hid ((nt N.natAbs).length<=34359738368):=by show _<=_;rw[<-hN];exact Nat.le_trans (Sw X Y _ lX lY) zd
    rw[hD]at cE;have za:Hid (∀W,aF W->Calls Tryz.prog 71 #[bH S,.agg #[.bool t1,.string (bs l1),.int .i64 e1]] W λex w'=>ex=.returned (.agg #[.int .i64 g,.bool (ar X),.string (bs (nt X.natAbs)),.bool (ar Y),.string (bs (nt Y.natAbs))])/\Bw W w'):=λW hW=>
     Xr _ _ _ t1 l1 e1 S (aC (t1,l1,e1)) (bP S) rfl g X Y hg hX hY W jS.out kx.out hW
    have LX:Hid ((nt X.natAbs).length<=34359738368):=by show _<=_;omega
    have LY:Hid ((nt Y.natAbs).length<=34359738368):=by show _<=_;omega
    have Hg:Hid (-1099511627776<=g/\g<=1099511627776):=⟨hg1,hg2⟩;have HN:=ah hN;clear eA eB hg hX hY lX lY hN hD hg1 hg2 jS kx;unfold bA canon at Hs;simp only at Hs;obtain⟨r0,ai,r1,aj,r2,aG⟩:=Hr.out.g3;obtain⟨s0,bW,s1,bX,s2,cJ⟩:=Hs.out.g3;have Ec:=Hr.out.lt;have Oi:=Hs.out.lt;go_wp2_with fail;obtain⟨R,hR⟩:∃R:World->Prop,(λW1=>ak W1 (wr.heap.size) 30 [.bool t1,.string (bs l1),.int .i64 e1]/\Bw wr W1)=R:=⟨_,rfl⟩;first|refine bN R ?hR ?_|refine bL R ?hR ?_
    case hR=>subst hR;exact⟨(ak.newAt wr _ _ (b:=wr.heap.size) rfl),zl⟩
    subst hR;rintro W1 ⟨qc,ae⟩;have Hc:=ah qc;clear qc r0 ai r1 aj r2 aG;replace Hr:=kB Hr ae;obtain⟨r0,ai,r1,aj,r2,aG⟩:=Hr.out.g3;clear s0 bW s1 bX s2 cJ;replace Hs:=kB Hs ae;obtain⟨s0,bW,s1,bX,s2,cJ⟩:=Hs.out.g3;obtain⟨c0,c1,c2⟩:=Hc.out.c3;replace Hb:=az Hb ae;clear ae;have HT:=ah (fL.out.below Hb.out);go_wp2_with fail;refine(za.out _ HT.out).mono ?_;rintro e w1 ⟨rfl,ae⟩;clear r0 ai r1 aj r2 aG s0 bW s1 bX s2 cJ c0 c1 c2;replace Hr:=kB Hr ae;replace Hs:=kB Hs ae;replace Hc:=kB Hc ae;obtain⟨r0,ai,r1,aj,r2,aG⟩:=Hr.out.g3;obtain⟨s0,bW,s1,bX,s2,cJ⟩:=Hs.out.g3;obtain⟨c0,c1,c2⟩:=Hc.out.c3;replace Hb:=az Hb ae;clear ae;have ym:=Hr.out.lt;have apW:=Hs.out.lt;have ai9:=Hc.out.lt;go_wp2_with fail;obtain⟨R,hR⟩:∃R:World->Prop,(λW2=>ak W2 (w1.heap.size) 99 [.int .i64 g,.bool (ar X),.string (bs (nt X.natAbs)),.bool (ar Y),.string (bs (nt Y.natAbs))]/\Bw w1 W2)=R:=⟨_,rfl⟩;first|refine bN R ?hR ?_|refine bL R ?hR ?_
    case hR=>subst hR;exact⟨(ak.newAt w1 _ _ (b:=w1.heap.size) rfl),zl⟩
    subst hR;rintro W2 ⟨qp,ae⟩;have Hp:=ah qp;clear qp r0 ai r1 aj r2 aG;replace Hr:=kB Hr ae;obtain⟨r0,ai,r1,aj,r2,aG⟩:=Hr.out.g3;clear s0 bW s1 bX s2 cJ;replace Hs:=kB Hs ae;obtain⟨s0,bW,s1,bX,s2,cJ⟩:=Hs.out.g3;clear c0 c1 c2;replace Hc:=kB Hc ae;obtain⟨c0,c1,c2⟩:=Hc.out.c3;obtain⟨p0,p1,p2,p3,p4⟩:=Hp.out.c5;replace Hb:=az Hb ae;clear ae;refine bM (λw'=>w'.cell? ⟨w1.heap.size,0,none⟩=some (.int .i64 g)/\w'.cell? ⟨w1.heap.size,1,none⟩=some (.bool (ar X))/\w'.cell? ⟨w1.heap.size,2,none⟩=some (.string (bs (nt X.natAbs)))/\w'.cell? ⟨w1.heap.size,3,none⟩=some (.bool (ar Y))/\w'.cell? ⟨w1.heap.size,4,none⟩=some (.string (bs (nt Y.natAbs)))) (λi=>Nat.blt i 9) [(0,true),(1,true),(2,true),(3,true),(6,true),(7,true),(4,false),(5,false),(8,false),(9,false)] zk zk rfl zk zc ⟨p0,p1,p2,p3,p4⟩ ?_;iterate 6 (refine pT rfl rfl ?_ (by intro w' ⟨q0,q1,q2,q3,q4⟩;go_simp;try with_reducible rfl);try simp only[UU])
    refine aI rfl rfl (λK hK=>?_);go_simp;refine hK _ _ (λ_=>⟨aJ p0,aJ p1,aJ p2,aJ p3,aJ p4⟩) ?_;clear hK K;try simp only[UU]
    refine bO (λW3=>ak W3 (W2.heap.size) 28 [.bool (ar X),.string (bs (nt X.natAbs)),.bool (ar Y),.string (bs (nt Y.natAbs))]/\Bw W2 W3) (by first|exact dU|exact dV) ?_;rintro W3 ⟨qv,ae⟩;clear r0 ai r1 aj r2 aG s0 bW s1 bX s2 cJ c0 c1 c2 p0 p1 p2 p3 p4;have Ed:=Hr.out.lt;have ajg:=Hs.out.lt;have Oh:=Hc.out.lt;have ajd:=Hp.out.lt;replace Hr:=kB Hr ae;replace Hs:=kB Hs ae;replace Hc:=kB Hc ae;replace Hp:=kB Hp ae;have Hv:=ah qv;clear qv;obtain⟨r0,ai,r1,aj,r2,aG⟩:=Hr.out.g3;obtain⟨s0,bW,s1,bX,s2,cJ⟩:=Hs.out.g3;obtain⟨c0,c1,c2⟩:=Hc.out.c3;obtain⟨p0,p1,p2,p3,p4⟩:=Hp.out.c5;obtain⟨v0,v1,v2,v3⟩:=Hv.out.c4;replace Hb:=az Hb ae;clear ae;refine aI rfl rfl (λK hK=>?_);go_simp;with_reducible refine(am0 X Y N HN.out W2.heap.size 2 28 _ LX.out LY.out Hv.out).mono ?_
    rintro e w3 ⟨rfl,hq⟩;have ae:Bw W3 w3:=by first|exact hq|exact aV hq
    clear r0 ai r1 aj r2 aG s0 bW s1 bX s2 cJ c0 c1 c2 p0 p1 p2 p3 p4 v0 v1 v2 v3;replace Hr:=kB Hr ae;replace Hs:=kB Hs ae;replace Hc:=kB Hc ae;replace Hp:=kB Hp ae;replace Hv:=kB Hv ae;obtain⟨r0,ai,r1,aj,r2,aG⟩:=Hr.out.g3;obtain⟨s0,bW,s1,bX,s2,cJ⟩:=Hs.out.g3;obtain⟨c0,c1,c2⟩:=Hc.out.c3;obtain⟨p0,p1,p2,p3,p4⟩:=Hp.out.c5;obtain⟨v0,v1,v2,v3⟩:=Hv.out.c4;replace Hb:=az Hb ae;clear ae;refine hK _ _ (λ_=>⟨p0,p1,p2,p3,p4⟩) ?_;clear hK K;try simp only[UU]
    refine aI rfl rfl (λK hK=>?_);go_simp;with_reducible refine(vP (ar N) (nt N.natAbs) g D HD.out _ Kc.out Hg.out (by first|exact(fL.out.below Hb.out) |exact aF.drew (fL.out.below Hb.out) |exact aF.alloc (fL.out.below Hb.out) _|exact aF.drew (aF.alloc (fL.out.below Hb.out) _) |exact aF.alloc (aF.drew (fL.out.below Hb.out)) _)).mono ?_
    rintro e w4 ⟨rfl,hq⟩;have ae:Bw w3 w4:=by first|exact hq|exact aV hq
    clear r0 ai r1 aj r2 aG s0 bW s1 bX s2 cJ c0 c1 c2 p0 p1 p2 p3 p4 v0 v1 v2 v3;replace Hr:=kB Hr ae;replace Hs:=kB Hs ae;replace Hc:=kB Hc ae;replace Hp:=kB Hp ae;replace Hv:=kB Hv ae;obtain⟨r0,ai,r1,aj,r2,aG⟩:=Hr.out.g3;obtain⟨s0,bW,s1,bX,s2,cJ⟩:=Hs.out.g3;obtain⟨c0,c1,c2⟩:=Hc.out.c3;obtain⟨p0,p1,p2,p3,p4⟩:=Hp.out.c5;obtain⟨v0,v1,v2,v3⟩:=Hv.out.c4;replace Hb:=az Hb ae;clear ae;refine hK _ _ (λ_=>⟨p0,p1,p2,p3,p4⟩) ?_;clear hK K;try simp only[UU]
    refine aI rfl rfl (λK hK=>?_);go_simp;refine hK _ _ (λh=>absurd h zd) ?_;clear hK K;try simp only[UU]
    clear r0 ai r1 aj r2 aG s0 bW s1 bX s2 cJ c0 c1 c2 p0 p1 p2 p3 p4 v0 v1 v2 v3;refine bO (bK w4 (w.heap.size+1) 0 [.bool (ar (dN D)),.string (bs (nt (dN D).natAbs)),.int .i64 (dE D)]) bV ?_;intro w5 hs;replace Hr:=kS Hr hs zo;replace Hs:=cF Hs hs;replace Hc:=kS Hc hs zo;replace Hp:=kS Hp hs zo;replace Hv:=kS Hv hs zo;obtain⟨r0,ai,r1,aj,r2,aG⟩:=Hr.out.g3;obtain⟨s0,bW,s1,bX,s2,cJ⟩:=Hs.out.g3;obtain⟨c0,c1,c2⟩:=Hc.out.c3;obtain⟨p0,p1,p2,p3,p4⟩:=Hp.out.c5;obtain⟨v0,v1,v2,v3⟩:=Hv.out.c4;replace Hb:=bS Hb hs ZS;clear hs;simp only[aZ];go_wp2;go_roundw;case rel=>refine⟨k+1,by omega,by go_num,Hr.out,?_,Hb.out⟩;rw[cE.out];exact Hs.out
    case measure=>simp[intOf];omega
  . obtain rfl:k=xs.length:=by omega
    rw[List.take_length]at Hs;unfold bA canon at Hs;simp only at Hs;obtain⟨r0,ai,r1,aj,r2,aG⟩:=Hr.out.g3;obtain⟨s0,bW,s1,bX,s2,cJ⟩:=Hs.out.g3;go_wp2;refine bodyPost_ret (v:=bH (kH xs)) (by simp[results,Tryz.results38,go_sem,r0,r1,r2]) rfl ⟨rfl,?_⟩;(repeat first|exact Hb.out| (refine Below.setCell ?_ (by have:=Hb.out.size;first| (dsimp only;omega) | (show _<=_;omega) | (simp<;>omega)) _) | (refine Below.alloc ?_ zt _) |refine Below.drew ?_)
theorem Sm.one :Sm 1 1:=⟨2,by rfl,by decide⟩
theorem afW {B:Nat}(xs:List Raw)(h:∀x∈xs,Sm B (aC x)):Sm (B+xs.length) (kH xs):=by
 induction xs with
 |nil=>exact Sm.zero _
 |cons x xs ih=>have h1:=h x zm;have h2:=ih (λy hy=>h y (by simp[hy]));exact(Sm.add (h1.mono (by omega:B<=B+xs.length)) h2)
theorem afS {B:Nat}(xs:List Raw)(h:∀x∈xs,Sm B (aC x)):Sm (B*xs.length+1) (jV xs):=by
 induction xs with
 |nil=>exact Sm.one
 |cons x xs ih=>have h1:=h x zm;have h2:=ih (λy hy=>h y (by simp[hy]));have:=Sm.mul h1 h2;rw[show B* (x::xs).length+1=B+(B*xs.length+1)by rw[List.length_cons,Nat.mul_add];omega];exact this
def Fit (B:Nat)(x:Raw):Prop:=Ok x/\Sm B (aC x)
theorem Fit.mono {A B:Nat}{x:Raw}(h:Fit A x)(TR:A<=B):Fit B x:=⟨h.1,h.2.mono TR⟩
theorem Sm.fit {B:Nat}{d:Dyadic}(h:Sm B d)(hB:B<=268435456):Fit B (canon d):=⟨h.ok hB,by rw[bP];exact h⟩
theorem afp (xs:List Raw)(B:Nat)(S:Dyadic)(hS:kH xs=S)(a:Option Addr)(cap:Nat)(w:World)(hl:∀x∈xs,Fit B x)(hB:B+xs.length<=268435456)(hx:xs.length<=1048576)
 (ha:At w a (xs.flatMap bA)) (hT:aF w):
 Calls Tryz.prog 38 #[.slice a xs.length cap] w λe w'=>e=.returned (bH S)/\Bw w w':=by
 subst hS;refine afo xs a cap w (λx h=>(hl x h).1) (λk=>?_) hx ha hT;refine Sm.ok (B:=B+xs.length) (Sm.mono (afW (B:=B) _ (λx h=>(hl x (List.mem_of_mem_take h)).2)) ?_) hB;rw[List.length_take];omega
theorem afu (xs:List Raw)(a:Option Addr)(cap:Nat)(w:World)(hl:∀x∈xs,Ok x)(hS:∀k,Ok (canon (jV (xs.take k))))(hx:xs.length<=1048576)
 (ha:At w a (xs.flatMap bA)) (hT:aF w):
 Calls Tryz.prog 35 #[.slice a xs.length cap] w λe w'=>e=.returned (bH (jV xs))/\Bw w w':=by
 have Hl:=ah hl;clear hl;have HS:=ah hS;clear hS;have Ha:=ah ha;clear ha;have fL:=ah hT;clear hT;obtain⟨I,hI⟩:∃I:Dyadic,1=I:=⟨_,rfl⟩;have HI:Hid (Dyadic.ofIntWithPrec 1 0=I):=by show _=_;rw[<-hI];rfl
 have HI1:=ah hI;clear hI;go_enter Tryz.func35,Tryz.ntmps35;have Hb:Hid (Bw w w):=Below.refl _ _;go_wp2_with fail;obtain⟨R,hR⟩:∃R:World->Prop,(λW=>ak W (w.heap.size) 30 [.bool false,.string (bs []),.int .i64 0]/\Bw w W)=R:=⟨_,rfl⟩;first|refine bN R ?hR ?_|refine bL R ?hR ?_
 case hR=>subst hR;exact⟨(ak.newAt w _ _ (b:=w.heap.size) rfl),zl⟩
 subst hR;rintro W ⟨qr,ae⟩;have Hr:=ah qr;clear qr;obtain⟨r0,ai,r1,aj,r2,aG⟩:=Hr.out.g3;replace Hb:=az Hb ae;clear ae;have HT:=ah (fL.out.below Hb.out);go_wp2_with fail;refine(Ge 1 I HI.out _ zo HT.out).mono ?_;rintro e w2 ⟨rfl,ae⟩;clear r0 ai r1 aj r2 aG;replace Hr:=kB Hr ae;obtain⟨r0,ai,r1,aj,r2,aG⟩:=Hr.out.g3;replace Hb:=az Hb ae;clear ae;have ym:=Hr.out.lt;go_wp2_with fail;obtain⟨R,hR⟩:∃R:World->Prop,(λW2=>ak W2 (w2.heap.size) 30 [.bool (ar (dN I)),.string (bs (nt (dN I).natAbs)),.int .i64 (dE I)]/\Bw w2 W2)=R:=⟨_,rfl⟩;first|refine bN R ?hR ?_|refine bL R ?hR ?_
 case hR=>subst hR;exact⟨(ak.newAt w2 _ _ (b:=w2.heap.size) rfl),zl⟩
 subst hR;rintro W2 ⟨qs,ae⟩;have Hs:=ah qs;clear qs r0 ai r1 aj r2 aG;replace Hr:=kB Hr ae;obtain⟨r0,ai,r1,aj,r2,aG⟩:=Hr.out.g3;obtain⟨s0,bW,s1,bX,s2,cJ⟩:=Hs.out.g3;replace Hb:=az Hb ae;clear ae
 go_loopw[5,9] (λ_ i wr=>∃(k:Nat),k<=xs.length/\i=.int .i64 k/\ak wr w.heap.size 30 [.bool false,.string (bs []),.int .i64 0]/\
  ak wr w2.heap.size 30 (bA (canon (jV (xs.take k))))/\Bw w wr) (λ_ i _=>xs.length-(intOf i).toNat)
 case atStart=>
  refine⟨0,Nat.zero_le _,rfl,Hr.out,?_,Hb.out⟩;have e:jV (xs.take 0)=I:=by rw[<-HI1.out];rfl
  rw[e];exact Hs.out
 case round=>
  obtain⟨k,hk,rfl,qr,qs,hb⟩:=hrel;replace Hr:=ah qr;replace Hs:=ah qs;replace Hb:=ah hb;clear qr qs hb r0 r1 r2 ai aj aG s0 s1 s2 bW bX cJ HT;by_cases hlt:k<xs.length
  . obtain ⟨b,o,hab,hcs⟩:=(Ha.out.below Hb.out).elem (f:=bA) (sz:=3) (fun _=>rfl) zd k hlt;have hc0:wr.cell? ⟨b,o+k*3,none⟩=some (.bool xs[k].1):=hcs 0 zd;have hc1:wr.cell? ⟨b,o+k*3+1,none⟩=some (.string (bs xs[k].2.1)):=hcs 1 zd;have hc2:wr.cell? ⟨b,o+k*3+2,none⟩=some (.int .i64 xs[k].2.2):=hcs 2 zd;have bE:=jC xs.length cap k (k:Int) hab hlt rfl;have cE:=ah (afT xs k hlt);have kx:Hid (Ok xs[k]):=Hl.out _ (List.getElem_mem hlt);have jS:=ah (HS.out k);clear hcs hab;generalize xs[k]=x at*;obtain⟨t1,l1,e1⟩:=x;generalize hS:jV (xs.take k)=S at*;clear hS;obtain⟨N,hN⟩:=aB (dN S*iv t1 l1);obtain⟨D,hD⟩:=aB (S*aC (t1,l1,e1));obtain⟨g,hg⟩:=aB (dE S+e1);have HD:Hid (aC (ar N,nt N.natAbs,g)=D):=by
     show _=_
     rw[uR,<-hD,<-hN];conv=>rhs;rw[sF S]
     unfold aC;rw[vW];congr 1;simp only;omega
    have o1:=jS.out.exp;have o2:=kx.out.exp;have o3:=jS.out.len;have o4:=kx.out.len;have Kc:Hid ((nt N.natAbs).length<=34359738368):=by
     show _<=_
     have h2:=Eg t1 l1 268435456 o4;rw[Int.natAbs_neg]at h2;rw[<-hN];exact Nat.le_trans (ajF (dN S) (iv t1 l1) _ _ o3 h2) zd
    rw[hD]at cE;have LX:Hid ((nt (dN S).natAbs).length<=17179869184):=by show _<=_;omega
    have LY:Hid (l1.length<=17179869184):=by show _<=_;omega
    have Hg:Hid (-1099511627776<=g/\g<=1099511627776):=by show _/\_;omega
    have WV:IntKind.i64.wrap (dE S+e1)=g:=by rw[IntKind.wrap_i64];omega
    have HN:Hid (iv (ar (dN S)) (nt (dN S).natAbs) *iv t1 l1=N):=by show _=_;rw[ft];exact hN
    clear hg hN hD jS kx o1 o2 o3 o4;unfold bA canon at Hs;simp only at Hs;have hrs:w.heap.size<w2.heap.size:=ym;obtain⟨r0,ai,r1,aj,r2,aG⟩:=Hr.out.g3;obtain⟨s0,bW,s1,bX,s2,cJ⟩:=Hs.out.g3;have Ec:=Hr.out.lt;have Oi:=Hs.out.lt;go_wp2_with fail;obtain⟨R,hR⟩:∃R:World->Prop,(λW1=>ak W1 (wr.heap.size) 30 [.bool t1,.string (bs l1),.int .i64 e1]/\Bw wr W1)=R:=⟨_,rfl⟩;first|refine bN R ?hR ?_|refine bL R ?hR ?_
    case hR=>subst hR;exact⟨(ak.newAt wr _ _ (b:=wr.heap.size) rfl),zl⟩
    subst hR;rintro W1 ⟨qc,ae⟩;have Hc:=ah qc;clear qc r0 ai r1 aj r2 aG;replace Hr:=kB Hr ae;obtain⟨r0,ai,r1,aj,r2,aG⟩:=Hr.out.g3;clear s0 bW s1 bX s2 cJ;replace Hs:=kB Hs ae;obtain⟨s0,bW,s1,bX,s2,cJ⟩:=Hs.out.g3;obtain⟨c0,c1,c2⟩:=Hc.out.c3;replace Hb:=az Hb ae;clear ae;refine bM (λw'=>w'.cell? ⟨wr.heap.size,0,none⟩=some (.bool t1)/\w'.cell? ⟨wr.heap.size,1,none⟩=some (.string (bs l1))/\w'.cell? ⟨wr.heap.size,2,none⟩=some (.int .i64 e1)/\w'.cell? ⟨w2.heap.size,0,none⟩=some (.bool (ar (dN S)))/\w'.cell? ⟨w2.heap.size,1,none⟩=some (.string (bs (nt (dN S).natAbs)))/\w'.cell? ⟨w2.heap.size,2,none⟩=some (.int .i64 (dE S))) (λi=>Nat.blt i 12) [(0,true),(1,true),(2,true),(3,true),(6,true),(7,true),(8,true),(9,true),(10,true),(4,false),(5,false),(11,false),(12,false)] zk zk rfl zk zc ⟨c0,c1,c2,s0,s1,s2⟩ ?_;iterate 9 (refine pT rfl rfl ?_ (by intro w' ⟨q0,q1,q2,q3,q4,q5⟩;go_simp;try with_reducible rfl);try simp only[UU])
    refine aI rfl rfl (λK hK=>?_);go_simp;refine hK _ _ (λ_=>⟨aJ c0,aJ c1,aJ c2,aJ s0,aJ s1,aJ s2⟩) ?_;clear hK K;try simp only[UU]
    refine bO (λW3=>ak W3 (W1.heap.size) 28 [.bool (ar (dN S)),.string (bs (nt (dN S).natAbs)),.bool t1,.string (bs l1)]/\Bw W1 W3) (by first|exact dU|exact dV) ?_;rintro W3 ⟨qv,ae⟩;clear r0 ai r1 aj r2 aG s0 bW s1 bX s2 cJ c0 c1 c2;have Ed:=Hr.out.lt;have ajg:=Hs.out.lt;have Oh:=Hc.out.lt;replace Hr:=kB Hr ae;replace Hs:=kB Hs ae;replace Hc:=kB Hc ae;have Hv:=ah qv;clear qv;obtain⟨r0,ai,r1,aj,r2,aG⟩:=Hr.out.g3;obtain⟨s0,bW,s1,bX,s2,cJ⟩:=Hs.out.g3;obtain⟨c0,c1,c2⟩:=Hc.out.c3;obtain⟨v0,v1,v2,v3⟩:=Hv.out.c4;replace Hb:=az Hb ae;clear ae;refine aI rfl rfl (λK hK=>?_);go_simp;with_reducible refine(ZR (ar (dN S)) (nt (dN S).natAbs) t1 l1 N HN.out W1.heap.size 2 28 _ LX.out LY.out Hv.out).mono ?_
    rintro e w3 ⟨rfl,hq⟩;have ae:Bw W3 w3:=by first|exact hq|exact aV hq
    clear r0 ai r1 aj r2 aG s0 bW s1 bX s2 cJ c0 c1 c2 v0 v1 v2 v3;replace Hr:=kB Hr ae;replace Hs:=kB Hs ae;replace Hc:=kB Hc ae;replace Hv:=kB Hv ae;obtain⟨r0,ai,r1,aj,r2,aG⟩:=Hr.out.g3;obtain⟨s0,bW,s1,bX,s2,cJ⟩:=Hs.out.g3;obtain⟨c0,c1,c2⟩:=Hc.out.c3;obtain⟨v0,v1,v2,v3⟩:=Hv.out.c4;replace Hb:=az Hb ae;clear ae;refine hK _ _ (λ_=>⟨c0,c1,c2,s0,s1,s2⟩) ?_;clear hK K;try simp only[UU]
    refine aI rfl rfl (λK hK=>?_);go_simp;with_reducible refine(vP (ar N) (nt N.natAbs) g D HD.out _ Kc.out Hg.out (by first|exact(fL.out.below Hb.out) |exact aF.drew (fL.out.below Hb.out) |exact aF.alloc (fL.out.below Hb.out) _|exact aF.drew (aF.alloc (fL.out.below Hb.out) _) |exact aF.alloc (aF.drew (fL.out.below Hb.out)) _)).mono ?_
    rintro e w4 ⟨rfl,hq⟩;have ae:Bw w3 w4:=by first|exact hq|exact aV hq
    clear r0 ai r1 aj r2 aG s0 bW s1 bX s2 cJ c0 c1 c2 v0 v1 v2 v3;replace Hr:=kB Hr ae;replace Hs:=kB Hs ae;replace Hc:=kB Hc ae;replace Hv:=kB Hv ae;obtain⟨r0,ai,r1,aj,r2,aG⟩:=Hr.out.g3;obtain⟨s0,bW,s1,bX,s2,cJ⟩:=Hs.out.g3;obtain⟨c0,c1,c2⟩:=Hc.out.c3;obtain⟨v0,v1,v2,v3⟩:=Hv.out.c4;replace Hb:=az Hb ae;clear ae;refine hK _ _ (λ_=>⟨c0,c1,c2,s0,s1,s2⟩) ?_;clear hK K;try simp only[UU]
    refine aI rfl rfl (λK hK=>?_);go_simp;refine hK _ _ (λh=>absurd h zd) ?_;clear hK K;try simp only[UU]
    clear r0 ai r1 aj r2 aG s0 bW s1 bX s2 cJ c0 c1 c2 v0 v1 v2 v3;refine bO (bK w4 (w2.heap.size) 0 [.bool (ar (dN D)),.string (bs (nt (dN D).natAbs)),.int .i64 (dE D)]) bV ?_;intro w5 hs;replace Hr:=kS Hr hs zo;replace Hs:=cF Hs hs;replace Hc:=kS Hc hs zo;replace Hv:=kS Hv hs zo;obtain⟨r0,ai,r1,aj,r2,aG⟩:=Hr.out.g3;obtain⟨s0,bW,s1,bX,s2,cJ⟩:=Hs.out.g3;obtain⟨c0,c1,c2⟩:=Hc.out.c3;obtain⟨v0,v1,v2,v3⟩:=Hv.out.c4;replace Hb:=bS Hb hs ZS;clear hs;simp only[aZ];go_wp2;go_roundw;case rel=>refine⟨k+1,by omega,by go_num,Hr.out,?_,Hb.out⟩;rw[cE.out];exact Hs.out
    case measure=>simp[intOf];omega
  . obtain rfl:k=xs.length:=by omega
    rw[List.take_length]at Hs;unfold bA canon at Hs;simp only at Hs;obtain⟨r0,ai,r1,aj,r2,aG⟩:=Hr.out.g3;obtain⟨s0,bW,s1,bX,s2,cJ⟩:=Hs.out.g3;go_wp2;refine bodyPost_ret (v:=bH (jV xs)) (by simp[results,Tryz.results35,go_sem,r0,r1,r2]) rfl ⟨rfl,?_⟩;(repeat first|exact Hb.out| (refine Below.setCell ?_ (by have:=Hb.out.size;first| (dsimp only;omega) | (show _<=_;omega) | (simp<;>omega)) _) | (refine Below.alloc ?_ zt _) |refine Below.drew ?_)
theorem afv (xs:List Raw)(B:Nat)(S:Dyadic)(hS:jV xs=S)(a:Option Addr)(cap:Nat)(w:World)(hl:∀x∈xs,Fit B x)(hB:B*xs.length+1<=268435456)(hx:xs.length<=1048576)
 (ha:At w a (xs.flatMap bA)) (hT:aF w):
 Calls Tryz.prog 35 #[.slice a xs.length cap] w λe w'=>e=.returned (bH S)/\Bw w w':=by
 subst hS;refine afu xs a cap w (λx h=>(hl x h).1) (λk=>?_) hx ha hT;refine Sm.ok (B:=B*xs.length+1) (Sm.mono (afS (B:=B) _ (λx h=>(hl x (List.mem_of_mem_take h)).2)) ?_) hB;rw[List.length_take];have:B*min k xs.length<=B*xs.length:=Nat.mul_le_mul_left _ zo;omega
theorem Cw (s:Bool)(l:List UInt8)(e:Int)(t:Bool)(m:List UInt8)(f:Int)(S:Dyadic)(B:Nat)(hS:aC (s,l,e)+aC (t,m,f)=S)(b cap:Nat)(ty:TypeId)(w:World)(hx:Fit B (s,l,e))(hy:Fit B (t,m,f))(hB:B+2<=268435456)
 (ha:ak w b ty [.bool s,.string (bs l),.int .i64 e,.bool t,.string (bs m),.int .i64 f]) (hT:aF w):
 Calls Tryz.prog 38 #[.slice (some ⟨b,0,none⟩) 2 cap] w λe w'=>e=.returned (bH S)/\Bw w w':=
 afp [(s,l,e),(t,m,f)] B S (by rw[<-hS];simp only[kH];grind) _ cap w (by intro x h;simp at h;rcases h with rfl|rfl;exact hx;exact hy) hB zm (At.aqS ha) hT
theorem Cx (s:Bool)(l:List UInt8)(e:Int)(t:Bool)(m:List UInt8)(f:Int)(S:Dyadic)(B:Nat)(hS:aC (s,l,e) *aC (t,m,f)=S)(b cap:Nat)(ty:TypeId)(w:World)(hx:Fit B (s,l,e))(hy:Fit B (t,m,f))(hB:2*B+1<=268435456)
 (ha:ak w b ty [.bool s,.string (bs l),.int .i64 e,.bool t,.string (bs m),.int .i64 f]) (hT:aF w):
 Calls Tryz.prog 35 #[.slice (some ⟨b,0,none⟩) 2 cap] w λe w'=>e=.returned (bH S)/\Bw w w':=
 afv [(s,l,e),(t,m,f)] B S (by rw[<-hS];simp only[jV];grind) _ cap w (by intro x h;simp at h;rcases h with rfl|rfl;exact hx;exact hy) zi zm (At.aqS ha) hT
theorem zM (s:Bool)(l:List UInt8)(e:Int)(t:Bool)(m:List UInt8)(f:Int)(S:Dyadic)(B:Nat)(hS:aC (s,l,e)-aC (t,m,f)=S)(w:World)(hx:Fit B (s,l,e))(hy:Fit B (t,m,f))(hB:B+2<=268435456)(hT:aF w):
 Calls Tryz.prog 56 #[.agg #[.bool s,.string (bs l),.int .i64 e],.agg #[.bool t,.string (bs m),.int .i64 f]] w λe w'=>e=.returned (bH S)/\Bw w w':=by
 obtain⟨D,hD⟩:=aB (-aC (t,m,f));have Hn:Hid (Fit B (ar (dN D),nt (dN D).natAbs,dE D)):=by rw[<-hD];exact(hy.2.neg).fit zo
 have HS:Hid (aC (s,l,e)+aC (ar (dN D),nt (dN D).natAbs,dE D)=S):=by show _+aC (canon D)=_;rw[bP,<-hD,<-hS];grind
 obtain⟨Hyo,HD,rK,ir⟩:=dS hy.1 hD hx hy;clear hD hx hy hS;go_enter Tryz.func56,Tryz.ntmps56;have Hb:Hid (Bw w w):=Below.refl _ _;go_wp2_with fail;obtain⟨R,hR⟩:∃R:World->Prop,(λW=>ak W (w.heap.size) 30 [.bool s,.string (bs l),.int .i64 e]/\ak W (w.heap.size+1) 30 [.bool t,.string (bs m),.int .i64 f]/\ak W (w.heap.size+1+1) 30 [.bool false,.string (bs []),.int .i64 0]/\Bw w W)=R:=⟨_,rfl⟩;first|refine bN R ?hR ?_|refine bL R ?hR ?_
 case hR=>subst hR;exact⟨(((ak.newAt w _ _ (b:=w.heap.size) rfl).alloc _).alloc _),((ak.newAt (w.alloc _) _ _ (b:=w.heap.size+1) zm).alloc _),(ak.newAt ((w.alloc _).alloc _) _ _ (b:=w.heap.size+1+1) zm),((zl.alloc zj _).alloc zj _)⟩
 subst hR;rintro W ⟨qx,qy,qr,ae⟩;have Hx:=ah qx;clear qx;have Hy:=ah qy;clear qy;have Hr:=ah qr;clear qr;obtain⟨x0,x1,x2⟩:=Hx.out.c3;obtain⟨y0,y1,y2⟩:=Hy.out.c3;obtain⟨r0,ai,r1,aj,r2,aG⟩:=Hr.out.g3;replace Hb:=az Hb ae;clear ae;refine bM (λw'=>w'.cell? ⟨w.heap.size,0,none⟩=some (.bool s)/\w'.cell? ⟨w.heap.size,1,none⟩=some (.string (bs l))/\w'.cell? ⟨w.heap.size,2,none⟩=some (.int .i64 e)/\w'.cell? ⟨w.heap.size+1,0,none⟩=some (.bool t)/\w'.cell? ⟨w.heap.size+1,1,none⟩=some (.string (bs m))/\w'.cell? ⟨w.heap.size+1,2,none⟩=some (.int .i64 f)) (λi=>Nat.blt i 5) [(0,true),(1,true),(2,false),(3,false),(4,false),(5,false)] zk zk rfl zk zc ⟨x0,x1,x2,y0,y1,y2⟩ ?_;iterate 2 (refine pT rfl rfl ?_ (by intro w' ⟨q0,q1,q2,q3,q4,q5⟩;go_simp;try with_reducible rfl);try simp only[UU])
 refine aI rfl rfl (λK hK=>?_);go_simp;with_reducible refine(Lz t m f D HD.out _ Hyo.out (by first|exact(hT.below Hb.out) |exact aF.drew (hT.below Hb.out) |exact aF.alloc (hT.below Hb.out) _|exact aF.drew (aF.alloc (hT.below Hb.out) _) |exact aF.alloc (aF.drew (hT.below Hb.out)) _)).mono ?_
 rintro e w1 ⟨rfl,hq⟩;have ae:Bw W w1:=by first|exact hq|exact aV hq
 clear x0 x1 x2 y0 y1 y2 r0 ai r1 aj r2 aG;replace Hx:=kB Hx ae;replace Hy:=kB Hy ae;replace Hr:=kB Hr ae;obtain⟨x0,x1,x2⟩:=Hx.out.c3;obtain⟨y0,y1,y2⟩:=Hy.out.c3;obtain⟨r0,ai,r1,aj,r2,aG⟩:=Hr.out.g3;replace Hb:=az Hb ae;clear ae;refine hK _ _ (λ_=>⟨x0,x1,x2,y0,y1,y2⟩) ?_;clear hK K;try simp only[UU]
 refine aI rfl rfl (λK hK=>?_);go_simp;refine hK _ _ (λ_=>⟨aJ x0,aJ x1,aJ x2,aJ y0,aJ y1,aJ y2⟩) ?_;clear hK K;try simp only[UU]
 refine bO (λW1=>ak W1 (w1.heap.size) 30 [.bool s,.string (bs l),.int .i64 e,.bool (ar (dN D)),.string (bs (nt (dN D).natAbs)),.int .i64 (dE D)]/\Bw w1 W1) (by first|exact dU|exact dV) ?_;rintro W1 ⟨qv,ae⟩;clear x0 x1 x2 y0 y1 y2 r0 ai r1 aj r2 aG;have ajh:=Hx.out.lt;have ajk:=Hy.out.lt;have Ec:=Hr.out.lt;replace Hx:=kB Hx ae;replace Hy:=kB Hy ae;replace Hr:=kB Hr ae;have Hv:=ah qv;clear qv;obtain⟨x0,x1,x2⟩:=Hx.out.c3;obtain⟨y0,y1,y2⟩:=Hy.out.c3;obtain⟨r0,ai,r1,aj,r2,aG⟩:=Hr.out.g3;obtain⟨v0,v1,v2,v3,v4,v5⟩:=Hv.out.c6;replace Hb:=az Hb ae;clear ae;refine aI rfl rfl (λK hK=>?_);go_simp;with_reducible refine(Cw s l e (ar (dN D)) (nt (dN D).natAbs) (dE D) S B HS.out w1.heap.size 2 30 _ rK.out Hn.out hB Hv.out (by first|exact(hT.below Hb.out) |exact aF.drew (hT.below Hb.out) |exact aF.alloc (hT.below Hb.out) _|exact aF.drew (aF.alloc (hT.below Hb.out) _) |exact aF.alloc (aF.drew (hT.below Hb.out)) _)).mono ?_
 rintro e w2 ⟨rfl,hq⟩;have ae:Bw W1 w2:=by first|exact hq|exact aV hq
 clear x0 x1 x2 y0 y1 y2 r0 ai r1 aj r2 aG v0 v1 v2 v3 v4 v5;replace Hx:=kB Hx ae;replace Hy:=kB Hy ae;replace Hr:=kB Hr ae;replace Hv:=kB Hv ae;obtain⟨x0,x1,x2⟩:=Hx.out.c3;obtain⟨y0,y1,y2⟩:=Hy.out.c3;obtain⟨r0,ai,r1,aj,r2,aG⟩:=Hr.out.g3;obtain⟨v0,v1,v2,v3,v4,v5⟩:=Hv.out.c6;replace Hb:=az Hb ae;clear ae;refine hK _ _ (λ_=>⟨x0,x1,x2,y0,y1,y2⟩) ?_;clear hK K;try simp only[UU]
 refine aI rfl rfl (λK hK=>?_);go_simp;refine hK _ _ (λh=>absurd h zd) ?_;clear hK K;try simp only[UU]
 clear x0 x1 x2 y0 y1 y2 r0 ai r1 aj r2 aG v0 v1 v2 v3 v4 v5;refine bO (bK w2 (w.heap.size+1+1) 0 [.bool (ar (dN S)),.string (bs (nt (dN S).natAbs)),.int .i64 (dE S)]) bV ?_;intro w3 hs;replace Hx:=kS Hx hs zo;replace Hy:=kS Hy hs zo;replace Hr:=cF Hr hs;replace Hv:=kS Hv hs zo;obtain⟨x0,x1,x2⟩:=Hx.out.c3;obtain⟨y0,y1,y2⟩:=Hy.out.c3;obtain⟨r0,ai,r1,aj,r2,aG⟩:=Hr.out.g3;obtain⟨v0,v1,v2,v3,v4,v5⟩:=Hv.out.c6;replace Hb:=bS Hb hs ZS;clear hs;simp only[aZ];go_wp2;refine bodyPost_ret (v:=bH S) (by simp[results,Tryz.results56,go_sem,r0,r1,r2]) rfl ⟨rfl,?_⟩;(repeat first|exact Hb.out| (refine Below.setCell ?_ (by have:=Hb.out.size;first| (dsimp only;omega) | (show _<=_;omega) | (simp<;>omega)) _) | (refine Below.alloc ?_ zt _) |refine Below.drew ?_)
theorem LD (n k:Int):bZ (Dyadic.ofIntWithPrec n k)=ej n:=by have h:=PF (ar n) (nt n.natAbs) (-k);rw[uR,ft,Int.neg_neg]at h;exact h.symm
theorem afs (s:Bool)(l:List UInt8)(e:Int)(t:Bool)(m:List UInt8)(f:Int)(c:Int)(hc:bZ (aC (s,l,e)-aC (t,m,f))=c)(w:World)(hx:Ok (s,l,e))(hy:Ok (t,m,f))(hT:aF w):
 Calls Tryz.prog 34 #[.agg #[.bool s,.string (bs l),.int .i64 e],.agg #[.bool t,.string (bs m),.int .i64 f]] w λe w'=>e=.returned (.int .i64 c)/\Bw w w':=by
 obtain⟨g,X,Y,hg,hX,hY,eA,eB,lX,lY,hg1,hg2⟩:=XJ hx hy _ _ rfl rfl;have MI:ej (X-Y)=c:=by rw[<-hc,eA,eB,show ∀a b:Dyadic,a-b=a+ -b from λa b=>by grind,Ek,yC,LD];rfl
 obtain⟨u,hu⟩:=aB (bZ (aC (s,l,e)));obtain⟨v,hv⟩:=aB (bZ (aC (t,m,f)));have hu2:ej X=u:=by rw[<-hu,eA,LD]
 have hv2:ej Y=v:=by rw[<-hv,eB,LD]
 have ru: -1<=u/\u<=1:=by rw[<-hu2];unfold ej;split<;>(try split)<;>omega
 have rv: -1<=v/\v<=1:=by rw[<-hv2];unfold ej;split<;>(try split)<;>omega
 have za:Hid (∀W,aF W->Calls Tryz.prog 71 #[.agg #[.bool s,.string (bs l),.int .i64 e],.agg #[.bool t,.string (bs m),.int .i64 f]] W λex w'=>ex=.returned (.agg #[.int .i64 g,.bool (ar X),.string (bs (nt X.natAbs)),.bool (ar Y),.string (bs (nt Y.natAbs))])/\Bw W w'):=λW hW=>
  Xr s l e t m f _ _ rfl rfl g X Y hg hX hY W hx hy hW
 have Hcm:Hid (∀W,Calls Tryz.prog 72 #[cW X,cW Y] W λex w'=>ex=.returned (.int .i64 c)/\Bw W w'):=λW=>by
  have:=am2 (ar X) (nt X.natAbs) (ar Y) (nt Y.natAbs) W zo zo (by rw[ft,ft,Int.sub_eq_add_neg];exact Nat.le_trans (Sw X (-Y) 17179869183 lX (by rw[Int.natAbs_neg];exact lY)) zd)
  rw[ft,ft,MI]at this;exact this
 have hcl:¬u=v->max (-1) (min 1 (u-v))=c:=by intro hne;rw[<-MI];rw[<-hu2,<-hv2]at hne⊢;unfold ej at*;split<;>split<;>(try split)<;>(try split)<;>(try split)<;>omega
 have hwr:IntKind.i64.wrap (u-v)=u-v:=by rw[IntKind.wrap_i64];omega
 obtain⟨Hu,Hv,rK,ir⟩:=dS hu hv hx hy;clear hu hv hu2 hv2 hx hy MI hc eA eB hX hY hg;go_enter Tryz.func34,Tryz.ntmps34;have Hb:Hid (Bw w w):=Below.refl _ _;go_wp2_with fail;obtain⟨R,hR⟩:∃R:World->Prop,(λW=>ak W (w.heap.size) 30 [.bool s,.string (bs l),.int .i64 e]/\ak W (w.heap.size+1) 30 [.bool t,.string (bs m),.int .i64 f]/\Bw w W)=R:=⟨_,rfl⟩;first|refine bN R ?hR ?_|refine bL R ?hR ?_
 case hR=>subst hR;exact⟨((ak.newAt w _ _ (b:=w.heap.size) rfl).alloc _),(ak.newAt (w.alloc _) _ _ (b:=w.heap.size+1) zm),(zl.alloc zj _)⟩
 subst hR;rintro W ⟨qx,qy,ae⟩;have Hx:=ah qx;clear qx;have Hy:=ah qy;clear qy;obtain⟨x0,x1,x2⟩:=Hx.out.c3;obtain⟨y0,y1,y2⟩:=Hy.out.c3;replace Hb:=az Hb ae;clear ae;refine bM (λw'=>w'.cell? ⟨w.heap.size,0,none⟩=some (.bool s)/\w'.cell? ⟨w.heap.size,1,none⟩=some (.string (bs l))/\w'.cell? ⟨w.heap.size,2,none⟩=some (.int .i64 e)/\w'.cell? ⟨w.heap.size+1,0,none⟩=some (.bool t)/\w'.cell? ⟨w.heap.size+1,1,none⟩=some (.string (bs m))/\w'.cell? ⟨w.heap.size+1,2,none⟩=some (.int .i64 f)) (λi=>Nat.blt i 100000) [(0,true),(2,true),(1,false),(3,false),(4,true),(5,true)] zk zk rfl zk zc ⟨x0,x1,x2,y0,y1,y2⟩ ?_;iterate 2 (refine pT rfl rfl ?_ (by intro w' ⟨q0,q1,q2,q3,q4,q5⟩;go_simp;try with_reducible rfl);try simp only[UU])
 refine aI rfl rfl (λK hK=>?_);go_simp;with_reducible refine(nU s l e u Hu.out _ rK.out).mono ?_
 rintro e w1 ⟨rfl,hq⟩;have ae:Bw W w1:=by first|exact hq|exact aV hq
 clear x0 x1 x2 y0 y1 y2;replace Hx:=kB Hx ae;replace Hy:=kB Hy ae;obtain⟨x0,x1,x2⟩:=Hx.out.c3;obtain⟨y0,y1,y2⟩:=Hy.out.c3;replace Hb:=az Hb ae;clear ae;refine hK _ _ (λ_=>⟨x0,x1,x2,y0,y1,y2⟩) ?_;clear hK K;try simp only[UU]
 refine aI rfl rfl (λK hK=>?_);go_simp;with_reducible refine(nU t m f v Hv.out _ ir.out).mono ?_
 rintro e w2 ⟨rfl,hq⟩;have ae:Bw w1 w2:=by first|exact hq|exact aV hq
 clear x0 x1 x2 y0 y1 y2;replace Hx:=kB Hx ae;replace Hy:=kB Hy ae;obtain⟨x0,x1,x2⟩:=Hx.out.c3;obtain⟨y0,y1,y2⟩:=Hy.out.c3;replace Hb:=az Hb ae;clear ae;refine hK _ _ (λ_=>⟨x0,x1,x2,y0,y1,y2⟩) ?_;clear hK K;try simp only[UU]
 iterate 2 (refine pT rfl rfl ?_;try simp only[UU])
 simp only[aZ];by_cases tW:u=v
 . subst tW;clear hcl;go_wp2_with fail;have HT:=ah (hT.below Hb.out);go_wp2_with fail;refine(za.out _ HT.out).mono ?_;rintro e w3 ⟨rfl,ae⟩;clear x0 x1 x2 y0 y1 y2;replace Hx:=kB Hx ae;replace Hy:=kB Hy ae;obtain⟨x0,x1,x2⟩:=Hx.out.c3;obtain⟨y0,y1,y2⟩:=Hy.out.c3;replace Hb:=az Hb ae;clear ae;have ap9:=Hx.out.lt;have aqc:=Hy.out.lt;go_wp2_with fail;obtain⟨R,hR⟩:∃R:World->Prop,(λW4=>ak W4 (w3.heap.size) 99 [.int .i64 g,.bool (ar X),.string (bs (nt X.natAbs)),.bool (ar Y),.string (bs (nt Y.natAbs))]/\Bw w3 W4)=R:=⟨_,rfl⟩;first|refine bN R ?hR ?_|refine bL R ?hR ?_
   case hR=>subst hR;exact⟨(ak.newAt w3 _ _ (b:=w3.heap.size) rfl),zl⟩
   subst hR;rintro W4 ⟨qp,ae⟩;have Hp:=ah qp;clear qp x0 x1 x2;replace Hx:=kB Hx ae;obtain⟨x0,x1,x2⟩:=Hx.out.c3;clear y0 y1 y2;replace Hy:=kB Hy ae;obtain⟨y0,y1,y2⟩:=Hy.out.c3;obtain⟨p0,p1,p2,p3,p4⟩:=Hp.out.c5;replace Hb:=az Hb ae;clear ae;go_wp2_with fail;refine(Hcm.out _).mono ?_;rintro e w5 ⟨rfl,ae⟩;clear x0 x1 x2 y0 y1 y2 p0 p1 p2 p3 p4;replace Hx:=kB Hx ae;replace Hy:=kB Hy ae;replace Hp:=kB Hp ae;obtain⟨x0,x1,x2⟩:=Hx.out.c3;obtain⟨y0,y1,y2⟩:=Hy.out.c3;obtain⟨p0,p1,p2,p3,p4⟩:=Hp.out.c5;replace Hb:=az Hb ae;clear ae;go_wp2;go_ret;exact⟨rfl,Hb.out⟩
 . have hcl:=hcl tW;have ao5:(u !=v)=true:=by simp[tW]
   go_wp2;go_ret;exact⟨rfl,Hb.out⟩
theorem afn (s:Bool)(l:List UInt8)(e:Int)(D:Dyadic)(hD:(if bZ (aC (s,l,e))<0 then-aC (s,l,e)else aC (s,l,e))=D)(w:World)(hx:Ok (s,l,e))(hT:aF w):
 Calls Tryz.prog 31 #[.agg #[.bool s,.string (bs l),.int .i64 e]] w λex w'=>ex=.returned (bH D)/\Bw w w':=by
 obtain⟨u,hu⟩:=aB (bZ (aC (s,l,e)));have rK:=ah hx;clear hx;have Hu:=ah hu;rw[hu]at hD;clear hu;by_cases h:u<0
 . rw[if_pos h]at hD;have HD:=ah hD;clear hD;go_enter Tryz.func31,Tryz.ntmps31;have Hb:Hid (Bw w w):=Below.refl _ _;go_wp2_with fail;obtain⟨R,hR⟩:∃R:World->Prop,(λW=>ak W (w.heap.size) 30 [.bool s,.string (bs l),.int .i64 e]/\ak W (w.heap.size+1) 30 [.bool false,.string (bs []),.int .i64 0]/\Bw w W)=R:=⟨_,rfl⟩;first|refine bN R ?hR ?_|refine bL R ?hR ?_
   case hR=>subst hR;exact⟨((ak.newAt w _ _ (b:=w.heap.size) rfl).alloc _),(ak.newAt (w.alloc _) _ _ (b:=w.heap.size+1) zm),(zl.alloc zj _)⟩
   subst hR;rintro W ⟨qx,qr,ae⟩;have Hx:=ah qx;clear qx;have Hr:=ah qr;clear qr;obtain⟨x0,x1,x2⟩:=Hx.out.c3;obtain⟨r0,ai,r1,aj,r2,aG⟩:=Hr.out.g3;replace Hb:=az Hb ae;clear ae;go_wp2_with fail;refine(nU s l e u Hu.out _ rK.out).mono ?_;rintro e w1 ⟨rfl,ae⟩;clear x0 x1 x2 r0 ai r1 aj r2 aG;replace Hx:=kB Hx ae;replace Hr:=kB Hr ae;obtain⟨x0,x1,x2⟩:=Hx.out.c3;obtain⟨r0,ai,r1,aj,r2,aG⟩:=Hr.out.g3;replace Hb:=az Hb ae;clear ae;have HT:=ah (hT.below Hb.out);go_wp2_with fail;refine(Lz s l e D HD.out _ rK.out HT.out).mono ?_;rintro e w2 ⟨rfl,ae⟩;clear x0 x1 x2 r0 ai r1 aj r2 aG;replace Hx:=kB Hx ae;replace Hr:=kB Hr ae;obtain⟨x0,x1,x2⟩:=Hx.out.c3;obtain⟨r0,ai,r1,aj,r2,aG⟩:=Hr.out.g3;replace Hb:=az Hb ae;clear ae;go_wp2;refine bodyPost_ret (v:=bH D) (by simp[results,Tryz.results31,go_sem,r0,r1,r2]) rfl ⟨rfl,?_⟩;(repeat first|exact Hb.out| (refine Below.setCell ?_ (by have:=Hb.out.size;first| (dsimp only;omega) | (show _<=_;omega) | (simp<;>omega)) _) | (refine Below.alloc ?_ zt _) |refine Below.drew ?_)
 . rw[if_neg h]at hD;have HD:=ah hD;clear hD;have h2:0<=u:=by omega
   go_enter Tryz.func31,Tryz.ntmps31;have Hb:Hid (Bw w w):=Below.refl _ _;go_wp2_with fail;obtain⟨R,hR⟩:∃R:World->Prop,(λW=>ak W (w.heap.size) 30 [.bool s,.string (bs l),.int .i64 e]/\ak W (w.heap.size+1) 30 [.bool false,.string (bs []),.int .i64 0]/\Bw w W)=R:=⟨_,rfl⟩;first|refine bN R ?hR ?_|refine bL R ?hR ?_
   case hR=>subst hR;exact⟨((ak.newAt w _ _ (b:=w.heap.size) rfl).alloc _),(ak.newAt (w.alloc _) _ _ (b:=w.heap.size+1) zm),(zl.alloc zj _)⟩
   subst hR;rintro W ⟨qx,qr,ae⟩;have Hx:=ah qx;clear qx;have Hr:=ah qr;clear qr;obtain⟨x0,x1,x2⟩:=Hx.out.c3;obtain⟨r0,ai,r1,aj,r2,aG⟩:=Hr.out.g3;replace Hb:=az Hb ae;clear ae;go_wp2_with fail;refine(nU s l e u Hu.out _ rK.out).mono ?_;rintro e w1 ⟨rfl,ae⟩;clear x0 x1 x2 r0 ai r1 aj r2 aG;replace Hx:=kB Hx ae;replace Hr:=kB Hr ae;obtain⟨x0,x1,x2⟩:=Hx.out.c3;obtain⟨r0,ai,r1,aj,r2,aG⟩:=Hr.out.g3;replace Hb:=az Hb ae;clear ae;have HT:=ah (hT.below Hb.out);go_wp2_with fail;refine(qJ s l e D HD.out _ rK.out HT.out).mono ?_;rintro e w2 ⟨rfl,ae⟩;clear x0 x1 x2 r0 ai r1 aj r2 aG;replace Hx:=kB Hx ae;replace Hr:=kB Hr ae;obtain⟨x0,x1,x2⟩:=Hx.out.c3;obtain⟨r0,ai,r1,aj,r2,aG⟩:=Hr.out.g3;replace Hb:=az Hb ae;clear ae;go_wp2;refine bodyPost_ret (v:=bH D) (by simp[results,Tryz.results31,go_sem,r0,r1,r2]) rfl ⟨rfl,?_⟩;(repeat first|exact Hb.out| (refine Below.setCell ?_ (by have:=Hb.out.size;first| (dsimp only;omega) | (show _<=_;omega) | (simp<;>omega)) _) | (refine Below.alloc ?_ zt _) |refine Below.drew ?_)
def gj (l:List UInt8)(v:Int):Bool:=(l.all λc=>decide (c.toNat<=127))&&decide ((l.length:Int)=v)
theorem Oo (l:List UInt8)(v:Int)(w:World)(hl:l.length<=9223372036854775807):
 Calls Tryz.prog 116 #[.string (bs l),.int .i64 v] w λe w'=>e=.returned (.bool (gj l v))/\Bw w w':=by
 obtain⟨n,hn⟩:=aB l.length;have hsz:(bs l).size=n:=by rw[nS,hn]
 obtain⟨M,hM⟩:=aB (gj l v);rw[hM];obtain⟨HM,Hn⟩:=aM hM hn;rw[hn]at hl;clear hM hn;go_enter Tryz.func116,Tryz.ntmps116;have Hb:Hid (Bw w w):=Below.refl _ _;go_wp2_with fail;go_loopw[8] (λx wr=>∃k:Nat,k<=n/\x=.int .i64 (k:Int)/\((l.take k).all λc=>decide (c.toNat<=127))=true/\Bw w wr) (λx _=>n-(intOf x).toNat);case atStart=>exact⟨0,Nat.zero_le _,rfl,rfl,Hb.out⟩
 case round=>
  clear Hb;obtain⟨k,hk,rfl,hall,pb⟩:=hrel;obtain⟨wG,Hb⟩:=aM hall pb;clear hall pb;by_cases hlt:k<n
  . have hk2:k<l.length:=by rw[Hn.out];exact hlt
    have ix:=yf l (k:Int) k hk2 rfl;obtain⟨c,hc⟩:∃c:Nat,(l[k]).toNat=c:=⟨_,rfl⟩;rw[hc]at ix;by_cases h1:127<c
    . have h2:(127:Int)<(c:Int):=by omega
      have xS:M=false:=by
       rw[<-HM.out];unfold gj;have:(l.all λc=>decide (c.toNat<=127))=false:=by rw[List.all_eq_false];exact⟨l[k],List.getElem_mem hk2,by simp;omega⟩
       rw[this];rfl
      subst xS;go_wp2;refine bodyPost_ret (v:=.bool false) (by simp[results,Tryz.results116,go_sem]) rfl ⟨rfl,?_⟩;(repeat first|exact Hb.out| (refine Below.setCell ?_ (by have:=Hb.out.size;first| (dsimp only;omega) | (show _<=_;omega) | (simp<;>omega)) _) | (refine Below.alloc ?_ zt _) |refine Below.drew ?_)
    . have h2:¬(127:Int)<(c:Int):=by omega
      have cE:Hid (((l.take (k+1)).all λc=>decide (c.toNat<=127))=true):=by
       show _=_
       rw[List.take_succ_eq_append_getElem hk2,List.all_append,wG.out];simp;omega
      clear hc;go_wp2;go_roundw;case rel=>exact⟨k+1,by omega,by go_num,cE.out,Hb.out⟩
      case measure=>simp[intOf];omega
  . obtain rfl:k=n:=by omega
    have hme:M=decide ((k:Int)=v):=by rw[<-HM.out];have h:=wG.out;rw[List.take_of_length_le (by rw[Hn.out];exact Nat.le_refl _)]at h;unfold gj;rw[h,Hn.out,Bool.true_and]
    have Kj:=ah hme;clear hme;go_wp2;refine bodyPost_ret (results_tmp rfl _ _ _) rfl ⟨?_,Hb.out⟩;rw[Kj.out];by_cases h:(k:Int)=v<;>simp[h]
theorem Gm (v:Int)(w:World):
 Calls Tryz.prog 93 #[.int .i64 v] w λe w'=>e=.returned (.bool (decide (0<=v/\v<=12)))/\Bw w w':=by
 have Hb:Hid (Bw w w):=Below.refl _ _;go_enter Tryz.func93,Tryz.ntmps93;by_cases h1:0<=v
 . by_cases h2:v<=12
   . go_wp2;refine bodyPost_ret (results_tmp rfl _ _ _) rfl ⟨?_,Hb.out⟩;simp[h2];omega
   . go_wp2;refine bodyPost_ret (results_tmp rfl _ _ _) rfl ⟨?_,Hb.out⟩;simp[h2]
 . go_wp2;refine bodyPost_ret (results_tmp rfl _ _ _) rfl ⟨?_,Hb.out⟩;simp;omega
end Go.Proofs.YtdaadlblknpipaaGreatDoor
namespace Go.Proofs.YtdaadlblknpipaaGreatDoor
theorem aku (n k:Int):Dyadic.ofIntWithPrec n k<0↔n<0:=by
 rw[<-Dyadic.toRat_lt_toRat_iff,Dyadic.toRat_ofIntWithPrec_eq_mul_two_pow,Dyadic.toRat_zero];have h2:(0:Rat)<2^(-k):=Rat.zpow_pos zd;constructor
 . intro h;by_cases h3:n<0
   . exact h3
   . exfalso
     have h4:(0:Rat)<=(n:Rat):=by exact_mod_cast Int.not_lt.1 h3
     have h5:=Rat.mul_nonneg h4 (Rat.le_of_lt h2);grind
 . intro h;have h4:(n:Rat)<0:=by exact_mod_cast h
   have:=Rat.mul_lt_mul_of_pos_right h4 h2;grind
theorem CB (X:Dyadic):bZ X<0↔X<0:=by
 conv=>rhs;rw[sF X]
 rw[aku];unfold bZ ej;split
 . rename_i h;simp[h]
 . rename_i h
   split<;>simp<;>omega
theorem afU (X:Dyadic):bZ X=0↔X=0:=by
 constructor
 . intro h;have h1:dN X=0:=by
    unfold bZ ej at h;by_cases h1:dN X<0
    . rw[if_pos h1]at h;cases h
    . rw[if_neg h1]at h;by_cases h2:dN X=0
      . exact h2
      . rw[if_neg h2]at h;cases h
   have h2:=sF X;rw[h1,vX]at h2;exact h2
 . rintro rfl;rfl
def lU (X:Dyadic):Dyadic:=Dyadic.ofIntWithPrec (bZ X) 0
theorem PD (X:Dyadic):lU X=if X<0 then-1 else if X=0 then 0 else 1:=by
 unfold lU;have h1:=CB X;have h2:=afU X;have h3:bZ X= -1\/bZ X=0\/bZ X=1:=by
  unfold bZ ej;split
  . exact .inl rfl
  . split
    . exact .inr (.inl rfl)
    . exact .inr (.inr rfl)
 rcases h3 with h|h|h
 . rw[if_pos (h1.1 zo),h];rfl
 . rw[if_neg (λh4=>by have:=h1.2 h4;omega),if_pos (h2.1 h),h];rfl
 . rw[if_neg (λh4=>by have:=h1.2 h4;omega),if_neg (λh4=>by have:=h2.2 h4;omega),h];rfl
def gq (n:Nat)(p:Nat->Nat->Dyadic)(x:Nat->Dyadic)(k:Nat):Dyadic:=lU (dz n p) *dz n (mR p k x)
def fS (e:Nat->Nat->Dyadic)(r c:Nat):Nat->Nat->Dyadic:=λa b=>e (if a<r then a else a+1) (if b<c then b else b+1)
def Av (n:Nat)(e:Nat->Nat->Dyadic)(y:Nat->Dyadic)(i:Nat):Nat->Dyadic
 |0=>0
 |k+1=>Av n e y i k+y k* (if(k+i)%2=1 then-cm (n-1) (fS e i k)else cm (n-1) (fS e i k))
theorem aiF (n:Nat)(hn:1<=n)(bI:n<=4)(e:Nat->Nat->Dyadic)(y:Nat->Dyadic)(i:Nat)(hi:i<n):Av n e y i n=cm n λa b=>if a=i then y b else e a b:=by
 have hc:(n=1/\i=0)\/(n=2/\i=0)\/(n=2/\i=1)\/(n=3/\i=0)\/(n=3/\i=1)\/(n=3/\i=2)\/(n=4/\i=0)\/(n=4/\i=1)\/(n=4/\i=2)\/(n=4/\i=3):=by omega
 rcases hc with⟨rfl,rfl⟩ |⟨rfl,rfl⟩ |⟨rfl,rfl⟩ |⟨rfl,rfl⟩ |⟨rfl,rfl⟩ |⟨rfl,rfl⟩ |⟨rfl,rfl⟩ |⟨rfl,rfl⟩ |⟨rfl,rfl⟩ |⟨rfl,rfl⟩<;>(simp[Av,cm,fS];try grind)
theorem afZ (n:Nat)(p:Nat->Nat->Dyadic)(x:Nat->Dyadic)(i:Nat):dz n (mR p (i+1) x)=cm n λa b=>if a=i then x b-p 0 b else p (a+1) b-p 0 b:=by
 unfold dz mR;congr 1;funext a b
 by_cases h:a=i
 . rw[if_pos h,if_pos zo,if_neg zo]
 . rw[if_neg h,if_neg zo,if_neg zo]
def fp (f:Nat->Dyadic):Nat->Dyadic
 |0=>0
 |k+1=>fp f k+f k
theorem anv (n:Nat)(hn:1<=n)(bI:n<=4)(p:Nat->Nat->Dyadic)(x:Nat->Dyadic):dz n (mR p 0 x)=dz n p-fp (λi=>dz n (mR p (i+1) x)) n:=by
 have hc:n=1\/n=2\/n=3\/n=4:=by omega
 rcases hc with rfl|rfl|rfl|rfl<;>(simp[fp,dz,cm,mR];grind)
theorem ami (f g:Nat->Dyadic)(n:Nat):fp (λi=>f i+g i) n=fp f n+fp g n:=by
 induction n with
 |zero=>simp[fp]
 |succ n ih=>simp only[fp,ih];grind
theorem Zq (f:Nat->Dyadic)(c:Dyadic)(n:Nat):fp (λi=>f i*c) n=fp f n*c:=by
 induction n with
 |zero=>simp[fp]
 |succ n ih=>simp only[fp,ih];grind
theorem amj (f:Nat->Dyadic)(c:Dyadic)(n:Nat):fp (λi=>c*f i) n=c*fp f n:=by
 induction n with
 |zero=>simp[fp]
 |succ n ih=>simp only[fp,ih];grind
theorem Zp {f g:Nat->Dyadic}(n:Nat)(h:∀k,k<n->f k=g k):fp f n=fp g n:=by
 induction n with
 |zero=>rfl
 |succ n ih=>simp only[fp];rw[ih (λk hk=>h k zo),h n zo]
def lT (d:(Nat->Nat->Dyadic)->Dyadic)(e:Nat->Nat->Dyadic):Nat->Dyadic
 |0=>0
 |k+1=>lT d e k+(if k%2=1 then-(e 0 k*d (fS e 0 k))else e 0 k*d (fS e 0 k))
def mO :Nat->(Nat->Nat->Dyadic)->Dyadic
 |0,_=>1
 |n+1,e=>lT (mO n) e (n+1)
theorem YN (n:Nat)(hn:n<=4)(e:Nat->Nat->Dyadic):mO n e=cm n e:=by
 have h0:∀e,mO 0 e=cm 0 e:=λe=>rfl;have h1:∀e,mO 1 e=cm 1 e:=λe=>by simp[mO,lT,cm];grind
 have h2:∀e,mO 2 e=cm 2 e:=λe=>by
  show lT (mO 1) e 2=_
  rw[show mO 1=cm 1 from funext h1];simp[lT,cm,fS];grind
 have h3:∀e,mO 3 e=cm 3 e:=λe=>by
  show lT (mO 2) e 3=_
  rw[show mO 2=cm 2 from funext h2];simp[lT,cm,fS];grind
 have h4:∀e,mO 4 e=cm 4 e:=λe=>by
  show lT (mO 3) e 4=_
  rw[show mO 3=cm 3 from funext h3];simp[lT,cm,fS];grind
 have hc:n=0\/n=1\/n=2\/n=3\/n=4:=by omega
 rcases hc with rfl|rfl|rfl|rfl|rfl
 . exact h0 e
 . exact h1 e
 . exact h2 e
 . exact h3 e
 . exact h4 e
end Go.Proofs.YtdaadlblknpipaaGreatDoor
