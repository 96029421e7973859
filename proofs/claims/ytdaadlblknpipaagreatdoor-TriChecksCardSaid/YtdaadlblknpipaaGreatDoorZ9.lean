/- Package dyad: Make,Form,Sign,Shift,Of,Neg,Abs. -/
import Derived.Test.YtdaadlblknpipaaGreatDoorZ7
import Derived.Test.YtdaadlblknpipaaGreatDoorZ8
import Derived.Test.YtdaadlblknpipaaGreatDoorZ6
import Derived.Test.YtdaadlblknpipaaGreatDoorZ1
set_option linter.unusedVariables false
set_option linter.unusedSimpArgs false
set_option maxRecDepth 100000
set_option maxHeartbeats 16000000
namespace Go.Proofs.YtdaadlblknpipaaGreatDoor
open Go.RowKit
attribute [local go_sem ↓] Go.wp_at_zero Go.wp_at_succ
abbrev bC (d:Dyadic):Value:=.agg #[.bool (ar (dN d)),.string (bs (nt (dN d).natAbs)),.int .i64 (dE d)]
theorem adk :(⟨#[]⟩:ByteArray)=bs []:=rfl
theorem akJ (s:Bool)(l:List UInt8)(n:Nat)(Z:Int)(hZ:iv s l/2^n=Z)(w:World)(hl:l.length<=34359738368)(hn:n<=549755813888)(hT:aF w):
 Calls Tryz.prog 106 #[.agg #[.bool s,.string (bs l)],.int .i64 (-(n:Int))] w λe w'=>e=.returned (cX Z)/\Bw w w':=by
 rcases Nat.eq_zero_or_pos n with h|h
 . subst h;subst hZ;have:=PL s l 0 w zo zo;simpa using this
 . subst hZ;exact YZ s l n w hl h zo hT
theorem alq (v k:Nat)(h:v<2^k):tz v<=k:=by
 rcases Nat.eq_zero_or_pos v with h0|h0
 . subst h0;exact Nat.zero_le _
 . obtain⟨m,hm⟩:=YN v h0;rcases Nat.lt_or_ge k (tz v)with h1|h1
   . exfalso
     have h2:=Nat.pow_le_pow_right (show 0<2 by decide) (Nat.le_of_lt h1);have h3:2^tz v<=2^tz v* (2*m+1):=Nat.le_mul_of_pos_right _ zo;omega
   . exact h1
theorem YK (n:Int):tz n.natAbs=n.trailingZeros:=by
 unfold tz;rcases Int.natAbs_eq n with h|h
 . rw[<-h]
 . conv=>rhs;rw[h]
   rw[Int.trailingZeros_neg]
theorem Lz (s:Bool)(l:List UInt8)(e:Int)(h:iv s l=0):az (s,l,e)=0:=by unfold az;simp only[h];exact vX _
theorem Lx (s:Bool)(l:List UInt8)(e:Int)(h:iv s l≠0):dN (az (s,l,e))=iv s l/2^tz (nv l)/\dE (az (s,l,e))=e+(tz (nv l):Int):=by have:=SN (k:=-e) h;unfold az;rw[show tz (nv l)=(iv s l).trailingZeros by rw[<-nE s l];exact YK _];exact⟨this.1,by rw[this.2];omega⟩
theorem vN (s:Bool)(l:List UInt8)(e:Int)(D:Dyadic)(hD:az (s,l,e)=D)(w:World)(hl:l.length<=34359738368)(he: -1099511627776<=e/\e<=1099511627776)(hT:aF w):
 Calls Tryz.prog 67 #[.agg #[.bool s,.string (bs l)],.int .i64 e] w λex w'=>ex=.returned (bC D)/\Bw w w':=by
 have oV:Hid (l.length<=1099511627776):=by show _<=_;omega
 have cn:Hid (l.length<=68719476736):=by show _<=_;omega
 by_cases h0:iv s l=0
 . have h1:=Lz s l e h0;rw[hD]at h1;subst h1;clear hD;have h2:eu (iv s l)=0:=by rw[h0];rfl
   have H2:=ah h2;clear h2;have Hv:Hid (bC 0=.agg #[.bool false,.string (bs []),.int .i64 0]):=rfl;go_enter Tryz.func67,Tryz.ntmps67;have Hb:Hid (Bw w w):=Below.refl _ _;go_wp2_with fail;obtain⟨R,hR⟩:∃R:World->Prop,(λW=>ak W (w.heap.size) 28 [.bool s,.string (bs l)]/\ak W (w.heap.size+1) 30 [.bool false,.string (bs []),.int .i64 0]/\Bw w W)=R:=⟨_,rfl⟩;first|refine bO R ?hR ?_|refine bK R ?hR ?_
   case hR=>subst hR;exact⟨((ak.newAt w _ _ (b:=w.heap.size) rfl).alloc _),(ak.newAt (w.alloc _) _ _ (b:=w.heap.size+1) zm),(zl.alloc zj _)⟩
   subst hR;rintro W ⟨qx,qr,ae⟩;have Hx:=ah qx;clear qx;have Hr:=ah qr;clear qr;obtain⟨x0,x1⟩:=Hx.out.c2;obtain⟨r0,ai,r1,aj,r2,aC⟩:=Hr.out.g3;replace Hb:=au Hb ae;clear ae;go_wp2_with fail;refine(EA s l _ oV.out).mono ?_;rintro e w1 ⟨rfl,ae⟩;clear x0 x1 r0 ai r1 aj r2 aC;replace Hx:=kB Hx ae;replace Hr:=kB Hr ae;obtain⟨x0,x1⟩:=Hx.out.c2;obtain⟨r0,ai,r1,aj,r2,aC⟩:=Hr.out.g3;replace Hb:=au Hb ae;clear ae;rw[H2.out];go_wp2;refine bodyPost_ret (v:=.agg #[.bool false,.string (bs []),.int .i64 0]) (by simp[results,Tryz.results67,go_sem,r0,r1,r2,adk]) rfl ⟨by rw[Hv.out],?_⟩;(repeat first|exact Hb.out| (refine Below.setCell ?_ (by have:=Hb.out.size;first| (dsimp only;omega) | (show _<=_;omega) | (simp<;>omega)) _) | (refine Below.alloc ?_ zt _) |refine Below.drew ?_)
 . obtain⟨h1,h2⟩:=Lx s l e h0;rw[hD]at h1 h2;clear hD;have hg0:eu (iv s l)≠0:=by unfold eu;split<;>(try split)<;>omega
   have Hg:Hid (∃g,eu (iv s l)=g/\g≠0):=⟨_,rfl,hg0⟩;obtain⟨g,hg,hg0⟩:=Hg.out;have Hg:=ah hg;clear hg;have hn:tz (nv l)<=549755813888:=Nat.le_trans (alq (nv l) (8*l.length) (by have:=gb l;rwa [show(256:Nat)=2^8 by rfl,<-Nat.pow_mul]at this)) zo;obtain⟨n,hn0⟩:=aB (tz (nv l));rw[hn0]at h1 h2 hn;have rE:=ah hn0;clear hn0;obtain⟨Z,hZ⟩:=aB (dN D);obtain⟨E,hE⟩:=aB (dE D);rw[hZ]at h1;rw[hE]at h2;obtain⟨HZ,HE⟩:=aL hZ hE;clear hZ hE;have H1:=ah h1.symm;clear h1;have hwn:IntKind.i64.wrap (-(n:Int))= -(n:Int):=by rw[IntKind.wrap_i64];omega
   have Wl:IntKind.i64.wrap (e+(n:Int))=E:=by rw[IntKind.wrap_i64];omega
   clear h0 h2;go_enter Tryz.func67,Tryz.ntmps67;have Hb:Hid (Bw w w):=Below.refl _ _;go_wp2_with fail;obtain⟨R,hR⟩:∃R:World->Prop,(λW=>ak W (w.heap.size) 28 [.bool s,.string (bs l)]/\ak W (w.heap.size+1) 30 [.bool false,.string (bs []),.int .i64 0]/\Bw w W)=R:=⟨_,rfl⟩;first|refine bO R ?hR ?_|refine bK R ?hR ?_
   case hR=>subst hR;exact⟨((ak.newAt w _ _ (b:=w.heap.size) rfl).alloc _),(ak.newAt (w.alloc _) _ _ (b:=w.heap.size+1) zm),(zl.alloc zj _)⟩
   subst hR;rintro W ⟨qx,qr,ae⟩;have Hx:=ah qx;clear qx;have Hr:=ah qr;clear qr;obtain⟨x0,x1⟩:=Hx.out.c2;obtain⟨r0,ai,r1,aj,r2,aC⟩:=Hr.out.g3;replace Hb:=au Hb ae;clear ae;go_wp2_with fail;refine(EA s l _ oV.out).mono ?_;rintro e w1 ⟨rfl,ae⟩;clear x0 x1 r0 ai r1 aj r2 aC;replace Hx:=kB Hx ae;replace Hr:=kB Hr ae;obtain⟨x0,x1⟩:=Hx.out.c2;obtain⟨r0,ai,r1,aj,r2,aC⟩:=Hr.out.g3;replace Hb:=au Hb ae;clear ae;rw[Hg.out];have HT:=ah (hT.below Hb.out);go_wp2_with fail;refine(Oc l _ cn.out HT.out).mono ?_;rintro e w2 ⟨rfl,ae⟩;clear x0 x1 r0 ai r1 aj r2 aC;replace Hx:=kB Hx ae;replace Hr:=kB Hr ae;obtain⟨x0,x1⟩:=Hx.out.c2;obtain⟨r0,ai,r1,aj,r2,aC⟩:=Hr.out.g3;replace Hb:=au Hb ae;clear ae;rw[rE.out];replace HT:=ah (hT.below Hb.out);go_wp2_with fail;refine(akJ s l n Z H1.out _ hl hn HT.out).mono ?_;rintro e w3 ⟨rfl,ae⟩;clear x0 x1 r0 ai r1 aj r2 aC;replace Hx:=kB Hx ae;replace Hr:=kB Hr ae;obtain⟨x0,x1⟩:=Hx.out.c2;obtain⟨r0,ai,r1,aj,r2,aC⟩:=Hr.out.g3;replace Hb:=au Hb ae;clear ae;go_wp2;refine bodyPost_ret (v:=.agg #[.bool (ar Z),.string (bs (nt Z.natAbs)),.int .i64 E]) (by simp[results,Tryz.results67,go_sem,r0,r1,r2]) rfl ⟨by rw[<-HZ.out,<-HE.out],?_⟩;(repeat first|exact Hb.out| (refine Below.setCell ?_ (by have:=Hb.out.size;first| (dsimp only;omega) | (show _<=_;omega) | (simp<;>omega)) _) | (refine Below.alloc ?_ zt _) |refine Below.drew ?_)
theorem Ok.len {s:Bool}{l:List UInt8}{e:Int}(h:Ok (s,l,e)):l.length<=268435456:=h.1
theorem Ok.exp {s:Bool}{l:List UInt8}{e:Int}(h:Ok (s,l,e)): -268435456<=e/\e<=268435456:=h.2
theorem pp (s:Bool)(l:List UInt8)(e:Int)(D:Dyadic)(hD:az (s,l,e)=D)(w:World)(hx:Ok (s,l,e))(hT:aF w):
 Calls Tryz.prog 69 #[.agg #[.bool s,.string (bs l),.int .i64 e]] w λex w'=>ex=.returned (bC D)/\Bw w w':=by
 have HD:=ah hD;clear hD;have h1:=hx.len;have h2:=hx.exp;clear hx;have Hl:Hid (l.length<=34359738368):=by show _<=_;omega
 have He:Hid (-1099511627776<=e/\e<=1099511627776):=by show _/\_;omega
 go_enter Tryz.func69,Tryz.ntmps69;have Hb:Hid (Bw w w):=Below.refl _ _;go_wp2_with fail;obtain⟨R,hR⟩:∃R:World->Prop,(λW=>ak W (w.heap.size) 30 [.bool s,.string (bs l),.int .i64 e]/\ak W (w.heap.size+1) 30 [.bool false,.string (bs []),.int .i64 0]/\Bw w W)=R:=⟨_,rfl⟩;first|refine bO R ?hR ?_|refine bK R ?hR ?_
 case hR=>subst hR;exact⟨((ak.newAt w _ _ (b:=w.heap.size) rfl).alloc _),(ak.newAt (w.alloc _) _ _ (b:=w.heap.size+1) zm),(zl.alloc zj _)⟩
 subst hR;rintro W ⟨qx,qr,ae⟩;have Hx:=ah qx;clear qx;have Hr:=ah qr;clear qr;obtain⟨x0,x1,x2⟩:=Hx.out.c3;obtain⟨r0,ai,r1,aj,r2,aC⟩:=Hr.out.g3;replace Hb:=au Hb ae;clear ae;have HT:=ah (hT.below Hb.out);go_wp2_with fail;refine(vN s l e D HD.out _ Hl.out He.out HT.out).mono ?_;rintro e w1 ⟨rfl,ae⟩;clear x0 x1 x2 r0 ai r1 aj r2 aC;replace Hx:=kB Hx ae;replace Hr:=kB Hr ae;obtain⟨x0,x1,x2⟩:=Hx.out.c3;obtain⟨r0,ai,r1,aj,r2,aC⟩:=Hr.out.g3;replace Hb:=au Hb ae;clear ae;go_wp2;refine bodyPost_ret (v:=bC D) (by simp[results,Tryz.results69,go_sem,r0,r1,r2]) rfl ⟨rfl,?_⟩;(repeat first|exact Hb.out| (refine Below.setCell ?_ (by have:=Hb.out.size;first| (dsimp only;omega) | (show _<=_;omega) | (simp<;>omega)) _) | (refine Below.alloc ?_ zt _) |refine Below.drew ?_)
theorem Yu (s:Bool)(l:List UInt8)(e n:Int)(D:Dyadic)(hD:az (s,l,e+n)=D)(w:World)(hx:Ok (s,l,e))(hn: -268435456<=n/\n<=268435456)(hT:aF w):
 Calls Tryz.prog 30 #[.agg #[.bool s,.string (bs l),.int .i64 e],.int .i64 n] w λex w'=>ex=.returned (bC D)/\Bw w w':=by
 have h1:=hx.len;have h2:=hx.exp;clear hx;obtain⟨z,hz⟩:=aB (e+n);have Wl:IntKind.i64.wrap (e+n)=z:=by rw[IntKind.wrap_i64];omega
 rw[hz]at hD;have HD:=ah hD;clear hD;have Hl:Hid (l.length<=34359738368):=by show _<=_;omega
 have He:Hid (-1099511627776<=z/\z<=1099511627776):=by show _/\_;omega
 clear hz;go_enter Tryz.func30,Tryz.ntmps30;have Hb:Hid (Bw w w):=Below.refl _ _;go_wp2_with fail;obtain⟨R,hR⟩:∃R:World->Prop,(λW=>ak W (w.heap.size) 30 [.bool s,.string (bs l),.int .i64 e]/\ak W (w.heap.size+1) 30 [.bool false,.string (bs []),.int .i64 0]/\Bw w W)=R:=⟨_,rfl⟩;first|refine bO R ?hR ?_|refine bK R ?hR ?_
 case hR=>subst hR;exact⟨((ak.newAt w _ _ (b:=w.heap.size) rfl).alloc _),(ak.newAt (w.alloc _) _ _ (b:=w.heap.size+1) zm),(zl.alloc zj _)⟩
 subst hR;rintro W ⟨qx,qr,ae⟩;have Hx:=ah qx;clear qx;have Hr:=ah qr;clear qr;obtain⟨x0,x1,x2⟩:=Hx.out.c3;obtain⟨r0,ai,r1,aj,r2,aC⟩:=Hr.out.g3;replace Hb:=au Hb ae;clear ae;have HT:=ah (hT.below Hb.out);go_wp2_with fail;refine(vN s l z D HD.out _ Hl.out He.out HT.out).mono ?_;rintro e w1 ⟨rfl,ae⟩;clear x0 x1 x2 r0 ai r1 aj r2 aC;replace Hx:=kB Hx ae;replace Hr:=kB Hr ae;obtain⟨x0,x1,x2⟩:=Hx.out.c3;obtain⟨r0,ai,r1,aj,r2,aC⟩:=Hr.out.g3;replace Hb:=au Hb ae;clear ae;go_wp2;refine bodyPost_ret (v:=bC D) (by simp[results,Tryz.results30,go_sem,r0,r1,r2]) rfl ⟨rfl,?_⟩;(repeat first|exact Hb.out| (refine Below.setCell ?_ (by have:=Hb.out.size;first| (dsimp only;omega) | (show _<=_;omega) | (simp<;>omega)) _) | (refine Below.alloc ?_ zt _) |refine Below.drew ?_)
theorem Ph (s:Bool)(l:List UInt8)(e:Int):eu (iv s l)=eu (dN (az (s,l,e))):=by
 by_cases h0:iv s l=0
 . rw[Lz s l e h0,h0,Ll]
 . rw[(Lx s l e h0).1];obtain⟨q,hq⟩:(2:Int)^tz (nv l)∣iv s l:=by rw[show tz (nv l)=(iv s l).trailingZeros by rw[<-nE s l];exact YK _];exact Int.two_pow_trailingZeros_dvd h0
   have hp:(0:Int)<2^tz (nv l):=by
    have:((2^tz (nv l):Nat):Int)>0:=by have:=Nat.pow_pos (n:=tz (nv l)) (show 0<2 by decide);omega
    simpa[Int.natCast_pow]using this
   generalize (2:Int)^tz (nv l)=p at*;rw[hq,Int.mul_ediv_cancel_left _ zo];unfold eu;rcases Int.lt_trichotomy q 0 with h|h|h
   . have:=Int.mul_neg_of_pos_of_neg hp h;simp only[h,this,if_true]
   . subst h;simp
   . have:=Int.mul_pos hp h;rw[if_neg zo,if_neg zo,if_neg zo,if_neg zo]
abbrev cw (d:Dyadic):Int:=eu (dN d)
theorem nZ (s:Bool)(l:List UInt8)(e:Int)(g:Int)(hg:cw (az (s,l,e))=g)(w:World)(hx:Ok (s,l,e)):
 Calls Tryz.prog 37 #[.agg #[.bool s,.string (bs l),.int .i64 e]] w λex w'=>ex=.returned (.int .i64 g)/\Bw w w':=by
 have h1:=hx.len;clear hx;have Hg:Hid (eu (iv s l)=g):=by show _=_;rw[<-hg];exact Ph s l e
 have Hl:Hid (l.length<=1099511627776):=by show _<=_;omega
 clear hg;go_enter Tryz.func37,Tryz.ntmps37;have Hb:Hid (Bw w w):=Below.refl _ _;go_wp2_with fail;obtain⟨R,hR⟩:∃R:World->Prop,(λW=>ak W (w.heap.size) 30 [.bool s,.string (bs l),.int .i64 e]/\Bw w W)=R:=⟨_,rfl⟩;first|refine bO R ?hR ?_|refine bK R ?hR ?_
 case hR=>subst hR;exact⟨(ak.newAt w _ _ (b:=w.heap.size) rfl),zl⟩
 subst hR;rintro W ⟨qx,ae⟩;have Hx:=ah qx;clear qx;obtain⟨x0,x1,x2⟩:=Hx.out.c3;replace Hb:=au Hb ae;clear ae;go_wp2_with fail;refine(EA s l _ Hl.out).mono ?_;rintro e w1 ⟨rfl,ae⟩;clear x0 x1 x2;replace Hx:=kB Hx ae;obtain⟨x0,x1,x2⟩:=Hx.out.c3;replace Hb:=au Hb ae;clear ae;rw[Hg.out];go_wp2;go_ret;exact⟨rfl,Hb.out⟩
theorem uO (n e:Int):az (ar n,nt n.natAbs,e)=Dyadic.ofIntWithPrec n (-e):=by unfold az;simp only[fq]
theorem FQ (n:Int)(D:Dyadic)(hD:Dyadic.ofIntWithPrec n 0=D)(w:World)(hn: -9223372036854775808<=n/\n<=9223372036854775807)(hT:aF w):
 Calls Tryz.prog 36 #[.int .i64 n] w λex w'=>ex=.returned (bC D)/\Bw w w':=by
 obtain⟨N,hN⟩:=aB n;have HD:Hid (az (ar N,nt N.natAbs,0)=D):=by show _=_;rw[uO,<-hN];exact hD
 have Hl:Hid ((nt N.natAbs).length<=34359738368):=by
  show _<=_
  exact Nat.le_trans (jc (k:=8) zo) zd
 have HN:=ah hN;clear hN hD;go_enter Tryz.func36,Tryz.ntmps36;have Hb:Hid (Bw w w):=Below.refl _ _;go_wp2_with fail;obtain⟨R,hR⟩:∃R:World->Prop,(λW=>ak W (w.heap.size) 30 [.bool false,.string (bs []),.int .i64 0]/\Bw w W)=R:=⟨_,rfl⟩;first|refine bO R ?hR ?_|refine bK R ?hR ?_
 case hR=>subst hR;exact⟨(ak.newAt w _ _ (b:=w.heap.size) rfl),zl⟩
 subst hR;rintro W ⟨qr,ae⟩;have Hr:=ah qr;clear qr;obtain⟨r0,ai,r1,aj,r2,aC⟩:=Hr.out.g3;replace Hb:=au Hb ae;clear ae;go_wp2_with fail;refine(PI n N HN.out _ hn.1 hn.2).mono ?_;rintro e w1 ⟨rfl,ae⟩;clear r0 ai r1 aj r2 aC;replace Hr:=kB Hr ae;obtain⟨r0,ai,r1,aj,r2,aC⟩:=Hr.out.g3;replace Hb:=au Hb ae;clear ae;have HT:=ah (hT.below Hb.out);go_wp2_with fail;refine(vN (ar N) (nt N.natAbs) 0 D HD.out _ Hl.out zo HT.out).mono ?_;rintro e w2 ⟨rfl,ae⟩;clear r0 ai r1 aj r2 aC;replace Hr:=kB Hr ae;obtain⟨r0,ai,r1,aj,r2,aC⟩:=Hr.out.g3;replace Hb:=au Hb ae;clear ae;go_wp2;refine bodyPost_ret (v:=bC D) (by simp[results,Tryz.results36,go_sem,r0,r1,r2]) rfl ⟨rfl,?_⟩;(repeat first|exact Hb.out| (refine Below.setCell ?_ (by have:=Hb.out.size;first| (dsimp only;omega) | (show _<=_;omega) | (simp<;>omega)) _) | (refine Below.alloc ?_ zt _) |refine Below.drew ?_)
theorem Lm (s:Bool)(l:List UInt8)(e:Int)(D:Dyadic)(hD: -az (s,l,e)=D)(w:World)(hx:Ok (s,l,e))(hT:aF w):
 Calls Tryz.prog 68 #[.agg #[.bool s,.string (bs l),.int .i64 e]] w λex w'=>ex=.returned (bC D)/\Bw w w':=by
 have h1:=hx.len;have h2:=hx.exp;clear hx;obtain⟨N,hN⟩:=aB (-(iv s l));have HD:Hid (az (ar N,nt N.natAbs,e)=D):=by
  show _=_
  rw[uO,<-hN,<-hD];unfold az;rw[Ef]
 have Hl:Hid ((nt N.natAbs).length<=34359738368):=by show _<=_;rw[<-hN];exact Eb s l _ zo
 have oV:Hid (l.length<=1099511627776):=by show _<=_;omega
 have He:Hid (-1099511627776<=e/\e<=1099511627776):=by show _/\_;omega
 have HN:=ah hN;clear hN hD;go_enter Tryz.func68,Tryz.ntmps68;have Hb:Hid (Bw w w):=Below.refl _ _;go_wp2_with fail;obtain⟨R,hR⟩:∃R:World->Prop,(λW=>ak W (w.heap.size) 30 [.bool s,.string (bs l),.int .i64 e]/\ak W (w.heap.size+1) 30 [.bool false,.string (bs []),.int .i64 0]/\Bw w W)=R:=⟨_,rfl⟩;first|refine bO R ?hR ?_|refine bK R ?hR ?_
 case hR=>subst hR;exact⟨((ak.newAt w _ _ (b:=w.heap.size) rfl).alloc _),(ak.newAt (w.alloc _) _ _ (b:=w.heap.size+1) zm),(zl.alloc zj _)⟩
 subst hR;rintro W ⟨qx,qr,ae⟩;have Hx:=ah qx;clear qx;have Hr:=ah qr;clear qr;obtain⟨x0,x1,x2⟩:=Hx.out.c3;obtain⟨r0,ai,r1,aj,r2,aC⟩:=Hr.out.g3;replace Hb:=au Hb ae;clear ae;refine bJ (λw'=>w'.cell? ⟨w.heap.size,0,none⟩=some (.bool s)/\w'.cell? ⟨w.heap.size,1,none⟩=some (.string (bs l))/\w'.cell? ⟨w.heap.size,2,none⟩=some (.int .i64 e)) (λi=>Nat.blt i 6) [(0,true),(1,true),(3,true),(4,true),(2,false),(5,false),(6,false)] zk zk rfl zk zc ⟨x0,x1,x2⟩ ?_;iterate 4 (refine pT rfl rfl ?_ (by intro w' ⟨q0,q1,q2⟩;go_simp;try with_reducible rfl);try simp only[UU])
 refine aI rfl rfl (λK hK=>?_);go_simp;with_reducible refine(IW s l N HN.out _ oV.out).mono ?_
 rintro e w1 ⟨rfl,hq⟩;have ae:Bw W w1:=by first|exact hq|exact aM hq
 clear x0 x1 x2 r0 ai r1 aj r2 aC;replace Hx:=kB Hx ae;replace Hr:=kB Hr ae;obtain⟨x0,x1,x2⟩:=Hx.out.c3;obtain⟨r0,ai,r1,aj,r2,aC⟩:=Hr.out.g3;replace Hb:=au Hb ae;clear ae;refine hK _ _ (λ_=>⟨x0,x1,x2⟩) ?_;clear hK K;try simp only[UU]
 refine aI rfl rfl (λK hK=>?_);go_simp;with_reducible refine(vN (ar N) (nt N.natAbs) e D HD.out _ Hl.out He.out (hT.below Hb.out)).mono ?_
 rintro e w2 ⟨rfl,hq⟩;have ae:Bw w1 w2:=by first|exact hq|exact aM hq
 clear x0 x1 x2 r0 ai r1 aj r2 aC;replace Hx:=kB Hx ae;replace Hr:=kB Hr ae;obtain⟨x0,x1,x2⟩:=Hx.out.c3;obtain⟨r0,ai,r1,aj,r2,aC⟩:=Hr.out.g3;replace Hb:=au Hb ae;clear ae;refine hK _ _ (λ_=>⟨x0,x1,x2⟩) ?_;clear hK K;try simp only[UU]
 refine aI rfl rfl (λK hK=>?_);go_simp;refine hK _ _ (λh=>absurd h zd) ?_;clear hK K;try simp only[UU]
 clear x0 x1 x2 r0 ai r1 aj r2 aC;refine bN (bz w2 (w.heap.size+1) 0 [.bool (ar (dN D)),.string (bs (nt (dN D).natAbs)),.int .i64 (dE D)]) bF ?_;intro w3 hs;replace Hx:=kS Hx hs zo;replace Hr:=bX Hr hs;obtain⟨x0,x1,x2⟩:=Hx.out.c3;obtain⟨r0,ai,r1,aj,r2,aC⟩:=Hr.out.g3;replace Hb:=bS Hb hs ZS;clear hs;simp only[aU];go_wp2;refine bodyPost_ret (v:=bC D) (by simp[results,Tryz.results68,go_sem,r0,r1,r2]) rfl ⟨rfl,?_⟩;(repeat first|exact Hb.out| (refine Below.setCell ?_ (by have:=Hb.out.size;first| (dsimp only;omega) | (show _<=_;omega) | (simp<;>omega)) _) | (refine Below.alloc ?_ zt _) |refine Below.drew ?_)
theorem aF.drew {w:World}(h:aF w):aF w.drew:=h
theorem aF.alloc {w:World}(h:aF w)(o:Obj):aF (w.alloc o):=λj hj=>aG (h j hj)
def mQ (v k:Int):Int:=if 0<=k then v*2^k.toNat else v/2^(-k).toNat
theorem alO (s:Bool)(l:List UInt8)(k Z:Int)(hZ:mQ (iv s l) k=Z)(w:World)(hl:l.length<=34359738368)(hk: -549755813888<=k/\k<=549755813888)(hT:aF w):
 Calls Tryz.prog 106 #[.agg #[.bool s,.string (bs l)],.int .i64 k] w λe w'=>e=.returned (cX Z)/\Bw w w':=by
 subst hZ;unfold mQ;split
 . rename_i h
   have:=PL s l k.toNat w zo zo;rw[Int.toNat_of_nonneg h]at this;exact this
 . rename_i h
   have:=YZ s l (-k).toNat w hl zo zo hT;rw[Int.toNat_of_nonneg zo,Int.neg_neg]at this;exact this
theorem Ao (s:Bool)(l:List UInt8)(e g Z:Int)(hZ:mQ (iv s l) (e-g)=Z)(w:World)(hl:l.length<=34359738368)(hk: -549755813888<=e-g/\e-g<=549755813888)(hT:aF w):
 Calls Tryz.prog 108 #[.int .i64 g,.agg #[.bool s,.string (bs l),.int .i64 e]] w λe w'=>e=.returned (cX Z)/\Bw w w':=by
 obtain⟨k,kP⟩:=aB (e-g);have Wl:IntKind.i64.wrap (e-g)=k:=by rw[IntKind.wrap_i64];omega
 rw[kP]at hZ hk;have HZ:=ah hZ;clear hZ kP;go_enter Tryz.func108,Tryz.ntmps108;have Hb:Hid (Bw w w):=Below.refl _ _;go_wp2_with fail;obtain⟨R,hR⟩:∃R:World->Prop,(λW=>ak W (w.heap.size) 30 [.bool s,.string (bs l),.int .i64 e]/\ak W (w.heap.size+1) 28 [.bool false,.string (bs [])]/\Bw w W)=R:=⟨_,rfl⟩;first|refine bO R ?hR ?_|refine bK R ?hR ?_
 case hR=>subst hR;exact⟨((ak.newAt w _ _ (b:=w.heap.size) rfl).alloc _),(ak.newAt (w.alloc _) _ _ (b:=w.heap.size+1) zm),(zl.alloc zj _)⟩
 subst hR;rintro W ⟨qx,qr,ae⟩;have Hx:=ah qx;clear qx;have Hr:=ah qr;clear qr;obtain⟨x0,x1,x2⟩:=Hx.out.c3;obtain⟨r0,ai,r1,aj⟩:=Hr.out.g2;replace Hb:=au Hb ae;clear ae;have HT:=ah (hT.below Hb.out);go_wp2_with fail;refine(alO s l k Z HZ.out _ hl hk HT.out).mono ?_;rintro e w1 ⟨rfl,ae⟩;clear x0 x1 x2 r0 ai r1 aj;replace Hx:=kB Hx ae;replace Hr:=kB Hr ae;obtain⟨x0,x1,x2⟩:=Hx.out.c3;obtain⟨r0,ai,r1,aj⟩:=Hr.out.g2;replace Hb:=au Hb ae;clear ae;go_wp2;refine bodyPost_ret (v:=cX Z) (by simp[results,Tryz.results108,go_sem,r0,r1]) rfl ⟨rfl,?_⟩;(repeat first|exact Hb.out| (refine Below.setCell ?_ (by have:=Hb.out.size;first| (dsimp only;omega) | (show _<=_;omega) | (simp<;>omega)) _) | (refine Below.alloc ?_ zt _) |refine Below.drew ?_)
def sw (A B:Dyadic):Int:=if A=0 then dE B else if B=0 then dE A else min (dE A) (dE B)
theorem sK (A:Dyadic):A=Dyadic.ofIntWithPrec (dN A) (-(dE A)):=by have:=bU A;unfold az canon at this;simp only[fq]at this;exact this.symm
theorem XG (A:Dyadic)(g:Int)(h:A=0\/g<=dE A):A=Dyadic.ofIntWithPrec (mQ (dN A) (dE A-g)) (-g):=by
 rcases h with h|h
 . subst h;have:mQ (dN 0) (dE 0-g)=0:=by unfold mQ;rw[Ll];split<;>simp
   rw[this,vX]
 . unfold mQ;rw[if_pos zo];have:=ui (dN A) (dE A-g).toNat (-(dE A));rw[show-(dE A)+((dE A-g).toNat:Int)= -g by omega]at this;rw[this];exact sK A
theorem ahS (A B:Dyadic):(A=0\/sw A B<=dE A)/\(B=0\/sw A B<=dE B):=by
 unfold sw;split
 . exact⟨.inl ‹_›,.inr zo⟩
 . split
   . exact⟨.inr zo,.inl ‹_›⟩
   . exact⟨.inr zo,.inr zo⟩
theorem XB {A:Dyadic}:A=0\/((nt (dN A).natAbs)≠[]/\A≠0):=by
 by_cases h:A=0
 . exact .inl h
 . refine .inr ⟨?_,h⟩;intro h2;apply h;have:(dN A).natAbs=0:=by rw[<-jd (dN A).natAbs,h2];rfl
   rw[sK A,show dN A=0 by omega,vX]
theorem Ok.parts {x:Raw}(h:Ok x):(nt (dN (az x)).natAbs).length<=1073741824/\ -4294967296<=dE (az x)/\dE (az x)<=4294967296:=by obtain⟨B,hB,hs⟩:∃B,B<=4294967296/\Sm B (az x):=⟨4294967296,Nat.le_refl _,h.sm⟩;obtain⟨h1,h2,h3⟩:=hs.parts;exact⟨jK h1 zo,by clear h1;omega,by clear h1;omega⟩
theorem WM (s:Bool)(l:List UInt8)(e:Int)(t:Bool)(m:List UInt8)(f:Int)(A B:Dyadic)(hA:az (s,l,e)=A)(hB:az (t,m,f)=B)(g X Y:Int)(hg:sw A B=g)(hX:mQ (dN A) (dE A-g)=X)(hY:mQ (dN B) (dE B-g)=Y)
 (w:World) (hx:Ok (s,l,e)) (hy:Ok (t,m,f)) (hT:aF w):
 Calls Tryz.prog 71 #[.agg #[.bool s,.string (bs l),.int .i64 e],.agg #[.bool t,.string (bs m),.int .i64 f]] w λex w'=>ex=.returned (.agg #[.int .i64 g,.bool (ar X),.string (bs (nt X.natAbs)),.bool (ar Y),.string (bs (nt Y.natAbs))])/\Bw w w':=by
 have pA:=hx.parts;rw[hA]at pA;have pB:=hy.parts;rw[hB]at pB;obtain⟨HA,HB⟩:=aL hA hB;clear hA hB;obtain⟨a,ha⟩:=aB (nt (dN A).natAbs);obtain⟨p,hp⟩:=aB (ar (dN A));obtain⟨i,hi⟩:=aB (dE A);obtain⟨b,hb⟩:=aB (nt (dN B).natAbs);obtain⟨q,hq⟩:=aB (ar (dN B));obtain⟨j,hj⟩:=aB (dE B);have rR:mQ (iv p a) (i-g)=X:=by rw[<-hp,<-ha,fq,<-hi];exact hX
 have Ul:mQ (iv q b) (j-g)=Y:=by rw[<-hq,<-hb,fq,<-hj];exact hY
 have QM:Hid (∀W,aF W->Calls Tryz.prog 69 #[.agg #[.bool s,.string (bs l),.int .i64 e]] W λex w'=>ex=.returned (.agg #[.bool p,.string (bs a),.int .i64 i])/\Bw W w'):=by intro W hW;rw[<-hp,<-ha,<-hi];exact pp s l e A HA.out W hx hW
 have QN:Hid (∀W,aF W->Calls Tryz.prog 69 #[.agg #[.bool t,.string (bs m),.int .i64 f]] W λex w'=>ex=.returned (.agg #[.bool q,.string (bs b),.int .i64 j])/\Bw W w'):=by intro W hW;rw[<-hq,<-hb,<-hj];exact pp t m f B HB.out W hy hW
 have hlv:(A=0/\g=j)\/(A≠0/\B=0/\g=i)\/(A≠0/\B≠0/\g=min i j):=by
  rw[<-hg];unfold sw;by_cases h1:A=0
  . simp[h1,hj]
  . by_cases h2:B=0<;>simp[h1,h2,hi,hj]
 rw[ha,hi]at pA;rw[hb,hj]at pB;have zA:A=0->(p=false/\a=[]/\i=0):=by rintro rfl;exact⟨hp.symm,ha.symm,hi.symm⟩
 have zB:B=0->(q=false/\b=[]/\j=0):=by rintro rfl;exact⟨hq.symm,hb.symm,hj.symm⟩
 have nA:A≠0->a≠[]:=by intro h;rw[<-ha];rcases XB (A:=A)with h2|h2;exact absurd h2 h;exact h2.1
 have nB:B≠0->b≠[]:=by intro h;rw[<-hb];rcases XB (A:=B)with h2|h2;exact absurd h2 h;exact h2.1
 have UW: -549755813888<=i-g/\i-g<=549755813888:=by rcases hlv with⟨_,h⟩ |⟨_,_,h⟩ |⟨_,_,h⟩<;>omega
 have UX: -549755813888<=j-g/\j-g<=549755813888:=by rcases hlv with⟨_,h⟩ |⟨_,_,h⟩ |⟨_,_,h⟩<;>omega
 obtain⟨HX,HY⟩:=aL rR Ul;have La:Hid (a.length<=34359738368):=by show _<=_;omega
 have Lb:Hid (b.length<=34359738368):=by show _<=_;omega
 obtain⟨JQ,JR⟩:=aL UW UX;clear rR Ul hX hY hg ha hp hi hb hq hj UW UX HA HB hx hy;go_enter Tryz.func71,Tryz.ntmps71;have Hb:Hid (Bw w w):=Below.refl _ _;go_wp2_with fail;obtain⟨R,hR⟩:∃R:World->Prop,(λW=>ak W (w.heap.size) 30 [.bool s,.string (bs l),.int .i64 e]/\ak W (w.heap.size+1) 30 [.bool t,.string (bs m),.int .i64 f]/\ak W (w.heap.size+1+1) 99 [.int .i64 0,.bool false,.string (bs []),.bool false,.string (bs [])]/\Bw w W)=R:=⟨_,rfl⟩;first|refine bO R ?hR ?_|refine bK R ?hR ?_
 case hR=>subst hR;exact⟨(((ak.newAt w _ _ (b:=w.heap.size) rfl).alloc _).alloc _),((ak.newAt (w.alloc _) _ _ (b:=w.heap.size+1) zm).alloc _),(ak.newAt ((w.alloc _).alloc _) _ _ (b:=w.heap.size+1+1) zm),((zl.alloc zj _).alloc zj _)⟩
 subst hR;rintro W ⟨qx,qy,qr,ae⟩;have Hx:=ah qx;clear qx;have Hy:=ah qy;clear qy;have Hr:=ah qr;clear qr;obtain⟨x0,aW,x1,aX,x2,bi⟩:=Hx.out.g3;obtain⟨y0,aP,y1,aQ,y2,aS⟩:=Hy.out.g3;obtain⟨r0,ai,r1,aj,r2,aC,r3,cZ,r4,dz⟩:=Hr.out.g5;replace Hb:=au Hb ae;clear ae;have HT:=ah (hT.below Hb.out);refine bJ (λw'=>w'.cell? ⟨w.heap.size,0,none⟩=some (.bool s)/\w'.cell? ⟨w.heap.size,1,none⟩=some (.string (bs l))/\w'.cell? ⟨w.heap.size,2,none⟩=some (.int .i64 e)/\w'.cell? ⟨w.heap.size+1,0,none⟩=some (.bool t)/\w'.cell? ⟨w.heap.size+1,1,none⟩=some (.string (bs m))/\w'.cell? ⟨w.heap.size+1,2,none⟩=some (.int .i64 f)) (λi=>Nat.blt i 4) [(0,true),(2,true),(1,false),(3,false),(4,false),(5,false)] zk zk rfl zk zc ⟨x0,x1,x2,y0,y1,y2⟩ ?_;iterate 2 (refine pT rfl rfl ?_ (by intro w' ⟨q0,q1,q2,q3,q4,q5⟩;go_simp;try with_reducible rfl);try simp only[UU])
 refine aI rfl rfl (λK hK=>?_);go_simp;with_reducible refine(QM.out _ (by first|exact HT.out|exact aF.drew HT.out|exact aF.alloc HT.out _|exact aF.drew (aF.alloc HT.out _) |exact aF.alloc (aF.drew HT.out) _)).mono ?_
 rintro e w1 ⟨rfl,hq⟩;have ae:Bw W w1:=by first|exact hq|exact aM hq
 clear x0 aW x1 aX x2 bi y0 aP y1 aQ y2 aS r0 ai r1 aj r2 aC r3 cZ r4 dz;replace Hx:=kB Hx ae;replace Hy:=kB Hy ae;replace Hr:=kB Hr ae;obtain⟨x0,aW,x1,aX,x2,bi⟩:=Hx.out.g3;obtain⟨y0,aP,y1,aQ,y2,aS⟩:=Hy.out.g3;obtain⟨r0,ai,r1,aj,r2,aC,r3,cZ,r4,dz⟩:=Hr.out.g5;replace Hb:=au Hb ae;clear ae;refine hK _ _ (λ_=>⟨x0,x1,x2,y0,y1,y2⟩) ?_;clear hK K;try simp only[UU]
 refine aI rfl rfl (λK hK=>?_);go_simp;with_reducible refine(QN.out _ (by first|exact(hT.below Hb.out) |exact aF.drew (hT.below Hb.out) |exact aF.alloc (hT.below Hb.out) _|exact aF.drew (aF.alloc (hT.below Hb.out) _) |exact aF.alloc (aF.drew (hT.below Hb.out)) _)).mono ?_
 rintro e w2 ⟨rfl,hq⟩;have ae:Bw w1 w2:=by first|exact hq|exact aM hq
 clear x0 aW x1 aX x2 bi y0 aP y1 aQ y2 aS r0 ai r1 aj r2 aC r3 cZ r4 dz;replace Hx:=kB Hx ae;replace Hy:=kB Hy ae;replace Hr:=kB Hr ae;obtain⟨x0,aW,x1,aX,x2,bi⟩:=Hx.out.g3;obtain⟨y0,aP,y1,aQ,y2,aS⟩:=Hy.out.g3;obtain⟨r0,ai,r1,aj,r2,aC,r3,cZ,r4,dz⟩:=Hr.out.g5;replace Hb:=au Hb ae;clear ae;refine hK _ _ (λ_=>⟨x0,x1,x2,y0,y1,y2⟩) ?_;clear hK K;try simp only[UU]
 refine aI rfl rfl (λK hK=>?_);go_simp;refine hK _ _ (λh=>absurd h zd) ?_;clear hK K;try simp only[UU]
 clear x0 aW x1 aX x2 bi y0 aP y1 aQ y2 aS r0 ai r1 aj r2 aC r3 cZ r4 dz;refine bN (bz w2 (w.heap.size) 0 [.bool p,.string (bs a),.int .i64 i]) bF ?_;intro w3 hs;replace Hx:=bX Hx hs;replace Hy:=kS Hy hs zo;replace Hr:=kS Hr hs zo;obtain⟨x0,aW,x1,aX,x2,bi⟩:=Hx.out.g3;obtain⟨y0,aP,y1,aQ,y2,aS⟩:=Hy.out.g3;obtain⟨r0,ai,r1,aj,r2,aC,r3,cZ,r4,dz⟩:=Hr.out.g5;replace Hb:=bS Hb hs ZS;clear hs;refine aI rfl rfl (λK hK=>?_);go_simp;refine hK _ _ (λh=>absurd h zd) ?_;clear hK K;try simp only[UU]
 clear x0 aW x1 aX x2 bi y0 aP y1 aQ y2 aS r0 ai r1 aj r2 aC r3 cZ r4 dz;refine bN (bz w3 (w.heap.size+1) 0 [.bool q,.string (bs b),.int .i64 j]) bF ?_;intro w4 hs;replace Hx:=kS Hx hs zo;replace Hy:=bX Hy hs;replace Hr:=kS Hr hs zo;obtain⟨x0,aW,x1,aX,x2,bi⟩:=Hx.out.g3;obtain⟨y0,aP,y1,aQ,y2,aS⟩:=Hy.out.g3;obtain⟨r0,ai,r1,aj,r2,aC,r3,cZ,r4,dz⟩:=Hr.out.g5;replace Hb:=bS Hb hs ZS;clear hs;simp only[aU];have BX:=Hr;clear x0 x1 x2 aW aX bi y0 y1 y2 aP aQ aS r0 r1 r2 r3 r4 ai aj aC cZ dz HT QM QN;rcases hlv with⟨h1,h2⟩ |⟨h1,h3,h2⟩ |⟨h1,h3,h2⟩
 . obtain⟨rfl,rfl,rfl⟩:=zA h1;subst h2;have z1:(bs []).toList=[]:=gq _;clear zA zB nA nB pA pB;obtain⟨x0,aW,x1,aX,x2,bi⟩:=Hx.out.g3;obtain⟨y0,aP,y1,aQ,y2,aS⟩:=Hy.out.g3;obtain⟨r0,ai,r1,aj,r2,aC,r3,cZ,r4,dz⟩:=Hr.out.g5;have Ah:=Hx.out.lt;have Xf:=Hy.out.lt;have Im:=Hr.out.lt;go_wp2_with fail;obtain⟨R,hR⟩:∃R:World->Prop,(λW5=>ak W5 (w4.heap.size) 99 [.int .i64 g,.bool false,.string (bs []),.bool false,.string (bs [])]/\Bw w4 W5)=R:=⟨_,rfl⟩;first|refine bO R ?hR ?_|refine bK R ?hR ?_
   case hR=>subst hR;exact⟨(ak.newAt w4 _ _ (b:=w4.heap.size) rfl),zl⟩
   subst hR;rintro W5 ⟨qn,ae⟩;have Hn:=ah qn;clear qn x0 aW x1 aX x2 bi;replace Hx:=kB Hx ae;obtain⟨x0,aW,x1,aX,x2,bi⟩:=Hx.out.g3;clear y0 aP y1 aQ y2 aS;replace Hy:=kB Hy ae;obtain⟨y0,aP,y1,aQ,y2,aS⟩:=Hy.out.g3;clear r0 ai r1 aj r2 aC r3 cZ r4 dz;replace Hr:=kB Hr ae;obtain⟨r0,ai,r1,aj,r2,aC,r3,cZ,r4,dz⟩:=Hr.out.g5;obtain⟨n0,fN,n1,fO,n2,fP,n3,gJ,n4,gK⟩:=Hn.out.g5;replace Hb:=au Hb ae;clear ae;have hns:w.heap.size+1+1<w4.heap.size:=BX.out.lt;refine bJ (λw'=>w'.cell? ⟨w.heap.size,0,none⟩=some (.bool false)/\w'.cell? ⟨w.heap.size,1,none⟩=some (.string (bs []))/\w'.cell? ⟨w.heap.size,2,none⟩=some (.int .i64 0)/\w'.cell? ⟨w.heap.size+1,0,none⟩=some (.bool q)/\w'.cell? ⟨w.heap.size+1,1,none⟩=some (.string (bs b))/\w'.cell? ⟨w.heap.size+1,2,none⟩=some (.int .i64 g)/\w'.cell? ⟨w4.heap.size,0,none⟩=some (.int .i64 g)) (λi=>Nat.blt i 11) [(0,true),(1,true),(2,true),(4,true),(5,true),(6,true),(3,false),(8,true),(7,false),(9,false),(10,true),(11,false)] zk zk rfl zk zc ⟨x0,x1,x2,y0,y1,y2,n0⟩ ?_;iterate 6 (refine pT rfl rfl ?_ (by intro w' ⟨q0,q1,q2,q3,q4,q5,q6⟩;go_simp;try with_reducible rfl);try simp only[UU])
   refine aI rfl rfl (λK hK=>?_);go_simp;with_reducible refine(Ao false [] 0 g X HX.out _ La.out JQ.out (by first|exact(hT.below Hb.out) |exact aF.drew (hT.below Hb.out) |exact aF.alloc (hT.below Hb.out) _|exact aF.drew (aF.alloc (hT.below Hb.out) _) |exact aF.alloc (aF.drew (hT.below Hb.out)) _)).mono ?_
   rintro e w6 ⟨rfl,hq⟩;have ae:Bw W5 w6:=by first|exact hq|exact aM hq
   clear x0 aW x1 aX x2 bi y0 aP y1 aQ y2 aS r0 ai r1 aj r2 aC r3 cZ r4 dz n0 fN n1 fO n2 fP n3 gJ n4 gK;replace Hx:=kB Hx ae;replace Hy:=kB Hy ae;replace Hr:=kB Hr ae;replace Hn:=kB Hn ae;obtain⟨x0,aW,x1,aX,x2,bi⟩:=Hx.out.g3;obtain⟨y0,aP,y1,aQ,y2,aS⟩:=Hy.out.g3;obtain⟨r0,ai,r1,aj,r2,aC,r3,cZ,r4,dz⟩:=Hr.out.g5;obtain⟨n0,fN,n1,fO,n2,fP,n3,gJ,n4,gK⟩:=Hn.out.g5;replace Hb:=au Hb ae;clear ae;refine hK _ _ (λ_=>⟨x0,x1,x2,y0,y1,y2,n0⟩) ?_;clear hK K;try simp only[UU]
   refine pT rfl rfl ?_;try simp only[UU]
   refine aI rfl rfl (λK hK=>?_);go_simp;with_reducible refine(Ao q b g g Y HY.out _ Lb.out JR.out (by first|exact(hT.below Hb.out) |exact aF.drew (hT.below Hb.out) |exact aF.alloc (hT.below Hb.out) _|exact aF.drew (aF.alloc (hT.below Hb.out) _) |exact aF.alloc (aF.drew (hT.below Hb.out)) _)).mono ?_
   rintro e w7 ⟨rfl,hq⟩;have ae:Bw w6 w7:=by first|exact hq|exact aM hq
   clear x0 aW x1 aX x2 bi y0 aP y1 aQ y2 aS r0 ai r1 aj r2 aC r3 cZ r4 dz n0 fN n1 fO n2 fP n3 gJ n4 gK;replace Hx:=kB Hx ae;replace Hy:=kB Hy ae;replace Hr:=kB Hr ae;replace Hn:=kB Hn ae;obtain⟨x0,aW,x1,aX,x2,bi⟩:=Hx.out.g3;obtain⟨y0,aP,y1,aQ,y2,aS⟩:=Hy.out.g3;obtain⟨r0,ai,r1,aj,r2,aC,r3,cZ,r4,dz⟩:=Hr.out.g5;obtain⟨n0,fN,n1,fO,n2,fP,n3,gJ,n4,gK⟩:=Hn.out.g5;replace Hb:=au Hb ae;clear ae;refine hK _ _ (λ_=>⟨x0,x1,x2,y0,y1,y2,n0⟩) ?_;clear hK K;try simp only[UU]
   refine aI rfl rfl (λK hK=>?_);go_simp;refine hK _ _ (λ_=>⟨(aH zf (aH zf x0)),(aH zf (aH zf x1)),(aH zf (aH zf x2)),(aH zf (aH zf y0)),(aH zf (aH zf y1)),(aH zf (aH zf y2)),(aH zf (aH zf n0))⟩) ?_;clear hK K;try simp only[UU]
   clear x0 aW x1 aX x2 bi y0 aP y1 aQ y2 aS r0 ai r1 aj r2 aC r3 cZ r4 dz n0 fN n1 fO n2 fP n3 gJ n4 gK;refine bN (bz w7 (w4.heap.size) 1 [.bool (ar X),.string (bs (nt X.natAbs))]) bF ?_;intro w8 hs;replace Hx:=kS Hx hs zo;replace Hy:=kS Hy hs zo;replace Hr:=kS Hr hs zo;replace Hn:Hid (ak w8 (w4.heap.size) 99 [.int .i64 g,.bool (ar X),.string (bs (nt X.natAbs)),.bool false,.string (bs [])]):=xW Hn hs;obtain⟨x0,aW,x1,aX,x2,bi⟩:=Hx.out.g3;obtain⟨y0,aP,y1,aQ,y2,aS⟩:=Hy.out.g3;obtain⟨r0,ai,r1,aj,r2,aC,r3,cZ,r4,dz⟩:=Hr.out.g5;obtain⟨n0,fN,n1,fO,n2,fP,n3,gJ,n4,gK⟩:=Hn.out.g5;replace Hb:=bS Hb hs ZS;clear hs;refine pT rfl rfl ?_;try simp only[UU]
   refine aI rfl rfl (λK hK=>?_);go_simp;refine hK _ _ (λh=>absurd h zd) ?_;clear hK K;try simp only[UU]
   clear x0 aW x1 aX x2 bi y0 aP y1 aQ y2 aS r0 ai r1 aj r2 aC r3 cZ r4 dz n0 fN n1 fO n2 fP n3 gJ n4 gK;refine bN (bz w8 (w4.heap.size) 3 [.bool (ar Y),.string (bs (nt Y.natAbs))]) bF ?_;intro w9 hs;replace Hx:=kS Hx hs zo;replace Hy:=kS Hy hs zo;replace Hr:=kS Hr hs zo;replace Hn:Hid (ak w9 (w4.heap.size) 99 [.int .i64 g,.bool (ar X),.string (bs (nt X.natAbs)),.bool (ar Y),.string (bs (nt Y.natAbs))]):=xW Hn hs;obtain⟨x0,aW,x1,aX,x2,bi⟩:=Hx.out.g3;obtain⟨y0,aP,y1,aQ,y2,aS⟩:=Hy.out.g3;obtain⟨r0,ai,r1,aj,r2,aC,r3,cZ,r4,dz⟩:=Hr.out.g5;obtain⟨n0,fN,n1,fO,n2,fP,n3,gJ,n4,gK⟩:=Hn.out.g5;replace Hb:=bS Hb hs ZS;clear hs;simp only[aU];go_wp2;refine bodyPost_ret (v:=.agg #[.int .i64 g,.bool (ar X),.string (bs (nt X.natAbs)),.bool (ar Y),.string (bs (nt Y.natAbs))]) (by simp[results,Tryz.results71,go_sem,r0,r1,r2,r3,r4]) rfl ⟨rfl,?_⟩;(repeat first|exact Hb.out| (refine Below.setCell ?_ (by have:=Hb.out.size;first| (dsimp only;omega) | (show _<=_;omega) | (simp<;>omega)) _) | (refine Below.alloc ?_ zt _) |refine Below.drew ?_)
 . obtain⟨rfl,rfl,rfl⟩:=zB h3;subst h2;have z1:(bs []).toList=[]:=gq _;have z2:¬(bs a).toList=[]:=by rw[gq];exact nA h1
   clear zA zB nA nB pA pB;obtain⟨x0,aW,x1,aX,x2,bi⟩:=Hx.out.g3;obtain⟨y0,aP,y1,aQ,y2,aS⟩:=Hy.out.g3;obtain⟨r0,ai,r1,aj,r2,aC,r3,cZ,r4,dz⟩:=Hr.out.g5;have Ah:=Hx.out.lt;have Xf:=Hy.out.lt;have Im:=Hr.out.lt;go_wp2_with fail;obtain⟨R,hR⟩:∃R:World->Prop,(λW5=>ak W5 (w4.heap.size) 99 [.int .i64 g,.bool false,.string (bs []),.bool false,.string (bs [])]/\Bw w4 W5)=R:=⟨_,rfl⟩;first|refine bO R ?hR ?_|refine bK R ?hR ?_
   case hR=>subst hR;exact⟨(ak.newAt w4 _ _ (b:=w4.heap.size) rfl),zl⟩
   subst hR;rintro W5 ⟨qn,ae⟩;have Hn:=ah qn;clear qn x0 aW x1 aX x2 bi;replace Hx:=kB Hx ae;obtain⟨x0,aW,x1,aX,x2,bi⟩:=Hx.out.g3;clear y0 aP y1 aQ y2 aS;replace Hy:=kB Hy ae;obtain⟨y0,aP,y1,aQ,y2,aS⟩:=Hy.out.g3;clear r0 ai r1 aj r2 aC r3 cZ r4 dz;replace Hr:=kB Hr ae;obtain⟨r0,ai,r1,aj,r2,aC,r3,cZ,r4,dz⟩:=Hr.out.g5;obtain⟨n0,fN,n1,fO,n2,fP,n3,gJ,n4,gK⟩:=Hn.out.g5;replace Hb:=au Hb ae;clear ae;have hns:w.heap.size+1+1<w4.heap.size:=BX.out.lt;refine bJ (λw'=>w'.cell? ⟨w.heap.size,0,none⟩=some (.bool p)/\w'.cell? ⟨w.heap.size,1,none⟩=some (.string (bs a))/\w'.cell? ⟨w.heap.size,2,none⟩=some (.int .i64 g)/\w'.cell? ⟨w.heap.size+1,0,none⟩=some (.bool false)/\w'.cell? ⟨w.heap.size+1,1,none⟩=some (.string (bs []))/\w'.cell? ⟨w.heap.size+1,2,none⟩=some (.int .i64 0)/\w'.cell? ⟨w4.heap.size,0,none⟩=some (.int .i64 g)) (λi=>Nat.blt i 11) [(0,true),(1,true),(2,true),(4,true),(5,true),(6,true),(3,false),(8,true),(7,false),(9,false),(10,true),(11,false)] zk zk rfl zk zc ⟨x0,x1,x2,y0,y1,y2,n0⟩ ?_;iterate 6 (refine pT rfl rfl ?_ (by intro w' ⟨q0,q1,q2,q3,q4,q5,q6⟩;go_simp;try with_reducible rfl);try simp only[UU])
   refine aI rfl rfl (λK hK=>?_);go_simp;with_reducible refine(Ao p a g g X HX.out _ La.out JQ.out (by first|exact(hT.below Hb.out) |exact aF.drew (hT.below Hb.out) |exact aF.alloc (hT.below Hb.out) _|exact aF.drew (aF.alloc (hT.below Hb.out) _) |exact aF.alloc (aF.drew (hT.below Hb.out)) _)).mono ?_
   rintro e w6 ⟨rfl,hq⟩;have ae:Bw W5 w6:=by first|exact hq|exact aM hq
   clear x0 aW x1 aX x2 bi y0 aP y1 aQ y2 aS r0 ai r1 aj r2 aC r3 cZ r4 dz n0 fN n1 fO n2 fP n3 gJ n4 gK;replace Hx:=kB Hx ae;replace Hy:=kB Hy ae;replace Hr:=kB Hr ae;replace Hn:=kB Hn ae;obtain⟨x0,aW,x1,aX,x2,bi⟩:=Hx.out.g3;obtain⟨y0,aP,y1,aQ,y2,aS⟩:=Hy.out.g3;obtain⟨r0,ai,r1,aj,r2,aC,r3,cZ,r4,dz⟩:=Hr.out.g5;obtain⟨n0,fN,n1,fO,n2,fP,n3,gJ,n4,gK⟩:=Hn.out.g5;replace Hb:=au Hb ae;clear ae;refine hK _ _ (λ_=>⟨x0,x1,x2,y0,y1,y2,n0⟩) ?_;clear hK K;try simp only[UU]
   refine pT rfl rfl ?_;try simp only[UU]
   refine aI rfl rfl (λK hK=>?_);go_simp;with_reducible refine(Ao false [] 0 g Y HY.out _ Lb.out JR.out (by first|exact(hT.below Hb.out) |exact aF.drew (hT.below Hb.out) |exact aF.alloc (hT.below Hb.out) _|exact aF.drew (aF.alloc (hT.below Hb.out) _) |exact aF.alloc (aF.drew (hT.below Hb.out)) _)).mono ?_
   rintro e w7 ⟨rfl,hq⟩;have ae:Bw w6 w7:=by first|exact hq|exact aM hq
   clear x0 aW x1 aX x2 bi y0 aP y1 aQ y2 aS r0 ai r1 aj r2 aC r3 cZ r4 dz n0 fN n1 fO n2 fP n3 gJ n4 gK;replace Hx:=kB Hx ae;replace Hy:=kB Hy ae;replace Hr:=kB Hr ae;replace Hn:=kB Hn ae;obtain⟨x0,aW,x1,aX,x2,bi⟩:=Hx.out.g3;obtain⟨y0,aP,y1,aQ,y2,aS⟩:=Hy.out.g3;obtain⟨r0,ai,r1,aj,r2,aC,r3,cZ,r4,dz⟩:=Hr.out.g5;obtain⟨n0,fN,n1,fO,n2,fP,n3,gJ,n4,gK⟩:=Hn.out.g5;replace Hb:=au Hb ae;clear ae;refine hK _ _ (λ_=>⟨x0,x1,x2,y0,y1,y2,n0⟩) ?_;clear hK K;try simp only[UU]
   refine aI rfl rfl (λK hK=>?_);go_simp;refine hK _ _ (λ_=>⟨(aH zf (aH zf x0)),(aH zf (aH zf x1)),(aH zf (aH zf x2)),(aH zf (aH zf y0)),(aH zf (aH zf y1)),(aH zf (aH zf y2)),(aH zf (aH zf n0))⟩) ?_;clear hK K;try simp only[UU]
   clear x0 aW x1 aX x2 bi y0 aP y1 aQ y2 aS r0 ai r1 aj r2 aC r3 cZ r4 dz n0 fN n1 fO n2 fP n3 gJ n4 gK;refine bN (bz w7 (w4.heap.size) 1 [.bool (ar X),.string (bs (nt X.natAbs))]) bF ?_;intro w8 hs;replace Hx:=kS Hx hs zo;replace Hy:=kS Hy hs zo;replace Hr:=kS Hr hs zo;replace Hn:Hid (ak w8 (w4.heap.size) 99 [.int .i64 g,.bool (ar X),.string (bs (nt X.natAbs)),.bool false,.string (bs [])]):=xW Hn hs;obtain⟨x0,aW,x1,aX,x2,bi⟩:=Hx.out.g3;obtain⟨y0,aP,y1,aQ,y2,aS⟩:=Hy.out.g3;obtain⟨r0,ai,r1,aj,r2,aC,r3,cZ,r4,dz⟩:=Hr.out.g5;obtain⟨n0,fN,n1,fO,n2,fP,n3,gJ,n4,gK⟩:=Hn.out.g5;replace Hb:=bS Hb hs ZS;clear hs;refine pT rfl rfl ?_;try simp only[UU]
   refine aI rfl rfl (λK hK=>?_);go_simp;refine hK _ _ (λh=>absurd h zd) ?_;clear hK K;try simp only[UU]
   clear x0 aW x1 aX x2 bi y0 aP y1 aQ y2 aS r0 ai r1 aj r2 aC r3 cZ r4 dz n0 fN n1 fO n2 fP n3 gJ n4 gK;refine bN (bz w8 (w4.heap.size) 3 [.bool (ar Y),.string (bs (nt Y.natAbs))]) bF ?_;intro w9 hs;replace Hx:=kS Hx hs zo;replace Hy:=kS Hy hs zo;replace Hr:=kS Hr hs zo;replace Hn:Hid (ak w9 (w4.heap.size) 99 [.int .i64 g,.bool (ar X),.string (bs (nt X.natAbs)),.bool (ar Y),.string (bs (nt Y.natAbs))]):=xW Hn hs;obtain⟨x0,aW,x1,aX,x2,bi⟩:=Hx.out.g3;obtain⟨y0,aP,y1,aQ,y2,aS⟩:=Hy.out.g3;obtain⟨r0,ai,r1,aj,r2,aC,r3,cZ,r4,dz⟩:=Hr.out.g5;obtain⟨n0,fN,n1,fO,n2,fP,n3,gJ,n4,gK⟩:=Hn.out.g5;replace Hb:=bS Hb hs ZS;clear hs;simp only[aU];go_wp2;refine bodyPost_ret (v:=.agg #[.int .i64 g,.bool (ar X),.string (bs (nt X.natAbs)),.bool (ar Y),.string (bs (nt Y.natAbs))]) (by simp[results,Tryz.results71,go_sem,r0,r1,r2,r3,r4]) rfl ⟨rfl,?_⟩;(repeat first|exact Hb.out| (refine Below.setCell ?_ (by have:=Hb.out.size;first| (dsimp only;omega) | (show _<=_;omega) | (simp<;>omega)) _) | (refine Below.alloc ?_ zt _) |refine Below.drew ?_)
 . have z1:¬(bs b).toList=[]:=by rw[gq];exact nB h3
   have z2:¬(bs a).toList=[]:=by rw[gq];exact nA h1
   have z3:min i j=g:=h2.symm;clear zA zB nA nB pA pB h2;obtain⟨x0,aW,x1,aX,x2,bi⟩:=Hx.out.g3;obtain⟨y0,aP,y1,aQ,y2,aS⟩:=Hy.out.g3;obtain⟨r0,ai,r1,aj,r2,aC,r3,cZ,r4,dz⟩:=Hr.out.g5;have Ah:=Hx.out.lt;have Xf:=Hy.out.lt;have Im:=Hr.out.lt;go_wp2_with fail;obtain⟨R,hR⟩:∃R:World->Prop,(λW5=>ak W5 (w4.heap.size) 99 [.int .i64 g,.bool false,.string (bs []),.bool false,.string (bs [])]/\Bw w4 W5)=R:=⟨_,rfl⟩;first|refine bO R ?hR ?_|refine bK R ?hR ?_
   case hR=>subst hR;exact⟨(ak.newAt w4 _ _ (b:=w4.heap.size) rfl),zl⟩
   subst hR;rintro W5 ⟨qn,ae⟩;have Hn:=ah qn;clear qn x0 aW x1 aX x2 bi;replace Hx:=kB Hx ae;obtain⟨x0,aW,x1,aX,x2,bi⟩:=Hx.out.g3;clear y0 aP y1 aQ y2 aS;replace Hy:=kB Hy ae;obtain⟨y0,aP,y1,aQ,y2,aS⟩:=Hy.out.g3;clear r0 ai r1 aj r2 aC r3 cZ r4 dz;replace Hr:=kB Hr ae;obtain⟨r0,ai,r1,aj,r2,aC,r3,cZ,r4,dz⟩:=Hr.out.g5;obtain⟨n0,fN,n1,fO,n2,fP,n3,gJ,n4,gK⟩:=Hn.out.g5;replace Hb:=au Hb ae;clear ae;have hns:w.heap.size+1+1<w4.heap.size:=BX.out.lt;refine bJ (λw'=>w'.cell? ⟨w.heap.size,0,none⟩=some (.bool p)/\w'.cell? ⟨w.heap.size,1,none⟩=some (.string (bs a))/\w'.cell? ⟨w.heap.size,2,none⟩=some (.int .i64 i)/\w'.cell? ⟨w.heap.size+1,0,none⟩=some (.bool q)/\w'.cell? ⟨w.heap.size+1,1,none⟩=some (.string (bs b))/\w'.cell? ⟨w.heap.size+1,2,none⟩=some (.int .i64 j)/\w'.cell? ⟨w4.heap.size,0,none⟩=some (.int .i64 g)) (λi=>Nat.blt i 11) [(0,true),(1,true),(2,true),(4,true),(5,true),(6,true),(3,false),(8,true),(7,false),(9,false),(10,true),(11,false)] zk zk rfl zk zc ⟨x0,x1,x2,y0,y1,y2,n0⟩ ?_;iterate 6 (refine pT rfl rfl ?_ (by intro w' ⟨q0,q1,q2,q3,q4,q5,q6⟩;go_simp;try with_reducible rfl);try simp only[UU])
   refine aI rfl rfl (λK hK=>?_);go_simp;with_reducible refine(Ao p a i g X HX.out _ La.out JQ.out (by first|exact(hT.below Hb.out) |exact aF.drew (hT.below Hb.out) |exact aF.alloc (hT.below Hb.out) _|exact aF.drew (aF.alloc (hT.below Hb.out) _) |exact aF.alloc (aF.drew (hT.below Hb.out)) _)).mono ?_
   rintro e w6 ⟨rfl,hq⟩;have ae:Bw W5 w6:=by first|exact hq|exact aM hq
   clear x0 aW x1 aX x2 bi y0 aP y1 aQ y2 aS r0 ai r1 aj r2 aC r3 cZ r4 dz n0 fN n1 fO n2 fP n3 gJ n4 gK;replace Hx:=kB Hx ae;replace Hy:=kB Hy ae;replace Hr:=kB Hr ae;replace Hn:=kB Hn ae;obtain⟨x0,aW,x1,aX,x2,bi⟩:=Hx.out.g3;obtain⟨y0,aP,y1,aQ,y2,aS⟩:=Hy.out.g3;obtain⟨r0,ai,r1,aj,r2,aC,r3,cZ,r4,dz⟩:=Hr.out.g5;obtain⟨n0,fN,n1,fO,n2,fP,n3,gJ,n4,gK⟩:=Hn.out.g5;replace Hb:=au Hb ae;clear ae;refine hK _ _ (λ_=>⟨x0,x1,x2,y0,y1,y2,n0⟩) ?_;clear hK K;try simp only[UU]
   refine pT rfl rfl ?_;try simp only[UU]
   refine aI rfl rfl (λK hK=>?_);go_simp;with_reducible refine(Ao q b j g Y HY.out _ Lb.out JR.out (by first|exact(hT.below Hb.out) |exact aF.drew (hT.below Hb.out) |exact aF.alloc (hT.below Hb.out) _|exact aF.drew (aF.alloc (hT.below Hb.out) _) |exact aF.alloc (aF.drew (hT.below Hb.out)) _)).mono ?_
   rintro e w7 ⟨rfl,hq⟩;have ae:Bw w6 w7:=by first|exact hq|exact aM hq
   clear x0 aW x1 aX x2 bi y0 aP y1 aQ y2 aS r0 ai r1 aj r2 aC r3 cZ r4 dz n0 fN n1 fO n2 fP n3 gJ n4 gK;replace Hx:=kB Hx ae;replace Hy:=kB Hy ae;replace Hr:=kB Hr ae;replace Hn:=kB Hn ae;obtain⟨x0,aW,x1,aX,x2,bi⟩:=Hx.out.g3;obtain⟨y0,aP,y1,aQ,y2,aS⟩:=Hy.out.g3;obtain⟨r0,ai,r1,aj,r2,aC,r3,cZ,r4,dz⟩:=Hr.out.g5;obtain⟨n0,fN,n1,fO,n2,fP,n3,gJ,n4,gK⟩:=Hn.out.g5;replace Hb:=au Hb ae;clear ae;refine hK _ _ (λ_=>⟨x0,x1,x2,y0,y1,y2,n0⟩) ?_;clear hK K;try simp only[UU]
   refine aI rfl rfl (λK hK=>?_);go_simp;refine hK _ _ (λ_=>⟨(aH zf (aH zf x0)),(aH zf (aH zf x1)),(aH zf (aH zf x2)),(aH zf (aH zf y0)),(aH zf (aH zf y1)),(aH zf (aH zf y2)),(aH zf (aH zf n0))⟩) ?_;clear hK K;try simp only[UU]
   clear x0 aW x1 aX x2 bi y0 aP y1 aQ y2 aS r0 ai r1 aj r2 aC r3 cZ r4 dz n0 fN n1 fO n2 fP n3 gJ n4 gK;refine bN (bz w7 (w4.heap.size) 1 [.bool (ar X),.string (bs (nt X.natAbs))]) bF ?_;intro w8 hs;replace Hx:=kS Hx hs zo;replace Hy:=kS Hy hs zo;replace Hr:=kS Hr hs zo;replace Hn:Hid (ak w8 (w4.heap.size) 99 [.int .i64 g,.bool (ar X),.string (bs (nt X.natAbs)),.bool false,.string (bs [])]):=xW Hn hs;obtain⟨x0,aW,x1,aX,x2,bi⟩:=Hx.out.g3;obtain⟨y0,aP,y1,aQ,y2,aS⟩:=Hy.out.g3;obtain⟨r0,ai,r1,aj,r2,aC,r3,cZ,r4,dz⟩:=Hr.out.g5;obtain⟨n0,fN,n1,fO,n2,fP,n3,gJ,n4,gK⟩:=Hn.out.g5;replace Hb:=bS Hb hs ZS;clear hs;refine pT rfl rfl ?_;try simp only[UU]
   refine aI rfl rfl (λK hK=>?_);go_simp;refine hK _ _ (λh=>absurd h zd) ?_;clear hK K;try simp only[UU]
   clear x0 aW x1 aX x2 bi y0 aP y1 aQ y2 aS r0 ai r1 aj r2 aC r3 cZ r4 dz n0 fN n1 fO n2 fP n3 gJ n4 gK;refine bN (bz w8 (w4.heap.size) 3 [.bool (ar Y),.string (bs (nt Y.natAbs))]) bF ?_;intro w9 hs;replace Hx:=kS Hx hs zo;replace Hy:=kS Hy hs zo;replace Hr:=kS Hr hs zo;replace Hn:Hid (ak w9 (w4.heap.size) 99 [.int .i64 g,.bool (ar X),.string (bs (nt X.natAbs)),.bool (ar Y),.string (bs (nt Y.natAbs))]):=xW Hn hs;obtain⟨x0,aW,x1,aX,x2,bi⟩:=Hx.out.g3;obtain⟨y0,aP,y1,aQ,y2,aS⟩:=Hy.out.g3;obtain⟨r0,ai,r1,aj,r2,aC,r3,cZ,r4,dz⟩:=Hr.out.g5;obtain⟨n0,fN,n1,fO,n2,fP,n3,gJ,n4,gK⟩:=Hn.out.g5;replace Hb:=bS Hb hs ZS;clear hs;simp only[aU];go_wp2;refine bodyPost_ret (v:=.agg #[.int .i64 g,.bool (ar X),.string (bs (nt X.natAbs)),.bool (ar Y),.string (bs (nt Y.natAbs))]) (by simp[results,Tryz.results71,go_sem,r0,r1,r2,r3,r4]) rfl ⟨rfl,?_⟩;(repeat first|exact Hb.out| (refine Below.setCell ?_ (by have:=Hb.out.size;first| (dsimp only;omega) | (show _<=_;omega) | (simp<;>omega)) _) | (refine Below.alloc ?_ zt _) |refine Below.drew ?_)
theorem RY (X Y:Int)(n:Nat)(hX:(nt X.natAbs).length<=n)(hY:(nt Y.natAbs).length<=n):(nt (X+Y).natAbs).length<=n+1:=by have h1:=gb (nt X.natAbs);have h2:=gb (nt Y.natAbs);rw[jd]at h1 h2;have h3:=Nat.lt_of_lt_of_le h1 (Nat.pow_le_pow_right (show 0<256 by decide) hX);have h4:=Nat.lt_of_lt_of_le h2 (Nat.pow_le_pow_right (show 0<256 by decide) hY);refine jc ?_;rw[Nat.pow_succ];omega
theorem ail (X Y:Int)(m n:Nat)(hX:(nt X.natAbs).length<=m)(hY:(nt Y.natAbs).length<=n):(nt (X*Y).natAbs).length<=m+n:=by have h1:=gb (nt X.natAbs);have h2:=gb (nt Y.natAbs);rw[jd]at h1 h2;have h3:=Nat.lt_of_lt_of_le h1 (Nat.pow_le_pow_right (show 0<256 by decide) hX);have h4:=Nat.lt_of_lt_of_le h2 (Nat.pow_le_pow_right (show 0<256 by decide) hY);refine jc ?_;rw[Int.natAbs_mul,Nat.pow_add];exact Nat.mul_lt_mul'' h3 h4
theorem Yv (v k:Int)(a b:Nat)(hv:v.natAbs<2^a)(hk:k<=b):(mQ v k).natAbs<2^(a+b):=by
 have h0:v.natAbs<2^(a+b):=Nat.lt_of_lt_of_le hv (Nat.pow_le_pow_right zd zo);unfold mQ;split
 . rw[Int.natAbs_mul,Int.natAbs_pow,Nat.pow_add];refine Nat.lt_of_le_of_lt (Nat.mul_le_mul_left _ (Nat.pow_le_pow_right zd (show k.toNat<=b by omega))) ?_;exact Nat.mul_lt_mul_of_pos_right hv (Nat.pow_pos zd)
 . have hp:(0:Int)<2^(-k).toNat:=by
    have:((2^(-k).toNat:Nat):Int)>0:=by have:=Nat.pow_pos (n:=(-k).toNat) (show 0<2 by decide);omega
    simpa[Int.natCast_pow]using this
   generalize (2:Int)^(-k).toNat=p at*;have:(v/p).natAbs<=v.natAbs:=by
    rcases Int.le_total 0 v with h|h
    . have h1:=Int.ediv_nonneg h (by omega:(0:Int)<=p);have h2:=Int.ediv_le_self p h;omega
    . have h1:v<=v/p:=by rw[Int.le_ediv_iff_mul_le hp];have:=Int.mul_le_mul_of_nonpos_left h (show(1:Int)<=p by omega);omega
      have h2:v/p<=0:=by have:=Int.ediv_le_ediv hp h;simpa using this
      omega
   omega
theorem Xa {x y:Raw}(hx:Ok x)(hy:Ok y)(A B:Dyadic)(hA:az x=A)(hB:az y=B):∃g X Y,sw A B=g/\mQ (dN A) (dE A-g)=X/\mQ (dN B) (dE B-g)=Y/\A=Dyadic.ofIntWithPrec X (-g)/\B=Dyadic.ofIntWithPrec Y (-g)/\
 (nt X.natAbs).length<=17179869183/\(nt Y.natAbs).length<=17179869183/\ -1099511627776<=g/\g<=1099511627776:=by
 subst hA hB;obtain⟨M,hM,sx,sy⟩:∃M,M<=4294967296/\Sm M (az x)/\Sm M (az y):=⟨4294967296,Nat.le_refl _,hx.sm,hy.sm⟩;obtain⟨a1,a2,a3⟩:=sx.parts;obtain⟨b1,b2,b3⟩:=sy.parts;generalize az x=A at*;generalize az y=B at*;obtain⟨h1,h2⟩:=ahS A B;have hg: -(M:Int)<=sw A B/\sw A B<=M:=by
  clear a1 b1;unfold sw;split
  . omega
  . split<;>omega
 refine⟨sw A B,_,_,rfl,rfl,rfl,XG A _ h1,XG B _ h2,?_,?_,?_,?_⟩
 . exact jK (Yv _ _ _ (2*M) a1 (by clear a1 b1;omega)) zo
 . exact jK (Yv _ _ _ (2*M) b1 (by clear a1 b1;omega)) zo
 . clear a1 b1;omega
 . clear a1 b1;omega
def bo (x:Raw):List Value:=[.bool x.1,.string (bs x.2.1),.int .i64 x.2.2]
def kJ :List Raw->Dyadic
 |[]=>0
 |x::xs=>az x+kJ xs
theorem aeL (xs ys:List Raw):kJ (xs++ys)=kJ xs+kJ ys:=by
 induction xs with
 |nil=>simp only[List.nil_append,kJ];grind
 |cons x xs ih=>simp only[List.cons_append,kJ,ih];grind
theorem aeN (xs:List Raw)(k:Nat)(hk:k<xs.length):kJ (xs.take (k+1))=kJ (xs.take k)+az xs[k]:=by rw[List.take_succ_eq_append_getElem hk,aeL];simp only[kJ];grind
def jY :List Raw->Dyadic
 |[]=>1
 |x::xs=>az x*jY xs
theorem aeH (xs ys:List Raw):jY (xs++ys)=jY xs*jY ys:=by
 induction xs with
 |nil=>simp only[List.nil_append,jY];grind
 |cons x xs ih=>simp only[List.cons_append,jY,ih];grind
theorem aeJ (xs:List Raw)(k:Nat)(hk:k<xs.length):jY (xs.take (k+1))=jY (xs.take k) *az xs[k]:=by rw[List.take_succ_eq_append_getElem hk,aeH];simp only[jY];grind
theorem alH (X Y N:Int)(hN:X+Y=N)(b cap:Nat)(ty:TypeId)(w:World)(hl:(nt X.natAbs).length<=34359738368)(hm:(nt Y.natAbs).length<=34359738368)
 (ha:ak w b ty [.bool (ar X),.string (bs (nt X.natAbs)),.bool (ar Y),.string (bs (nt Y.natAbs))]):
 Calls Tryz.prog 76 #[.slice (some ⟨b,0,none⟩) 2 cap] w λe w'=>e=.returned (cX N)/\Bw w w':=by
 have:=YU (ar X) (nt X.natAbs) (ar Y) (nt Y.natAbs) b cap ty w hl hm ha;rw[fq,fq,hN]at this;exact this
theorem YX (s:Bool)(l:List UInt8)(t:Bool)(m:List UInt8)(N:Int)(hN:iv s l*iv t m=N)(b cap:Nat)(ty:TypeId)(w:World)(hl:l.length<=17179869184)(hm:m.length<=17179869184)
 (ha:ak w b ty [.bool s,.string (bs l),.bool t,.string (bs m)]):
 Calls Tryz.prog 73 #[.slice (some ⟨b,0,none⟩) 2 cap] w λe w'=>e=.returned (cX N)/\Bw w w':=by
 have:=alM [(s,l),(t,m)] (some ⟨b,0,none⟩) cap w (by simp[oI];omega) zm (At.apk ha);have e:ib [(s,l),(t,m)]=N:=by rw[<-hN];simp[ib]
 rw[e]at this;exact this
theorem aee (xs:List Raw)(a:Option Addr)(cap:Nat)(w:World)(hl:∀x∈xs,Ok x)(hS:∀k,Ok (canon (kJ (xs.take k))))(hx:xs.length<=1048576)
 (ha:At w a (xs.flatMap bo)) (hT:aF w):
 Calls Tryz.prog 38 #[.slice a xs.length cap] w λe w'=>e=.returned (bC (kJ xs))/\Bw w w':=by
 have Hl:=ah hl;clear hl;have HS:=ah hS;clear hS;have Ha:=ah ha;clear ha;have ie:=ah hT;clear hT;go_enter Tryz.func38,Tryz.ntmps38;have Hb:Hid (Bw w w):=Below.refl _ _;go_wp2_with fail;obtain⟨R,hR⟩:∃R:World->Prop,(λW=>ak W (w.heap.size) 30 [.bool false,.string (bs []),.int .i64 0]/\ak W (w.heap.size+1) 30 [.bool false,.string (bs []),.int .i64 0]/\Bw w W)=R:=⟨_,rfl⟩;first|refine bO R ?hR ?_|refine bK R ?hR ?_
 case hR=>subst hR;exact⟨((ak.newAt w _ _ (b:=w.heap.size) rfl).alloc _),(ak.newAt (w.alloc _) _ _ (b:=w.heap.size+1) zm),(zl.alloc zj _)⟩
 subst hR;rintro W ⟨qr,qs,ae⟩;have Hr:=ah qr;clear qr;have Hs:=ah qs;clear qs;obtain⟨r0,ai,r1,aj,r2,aC⟩:=Hr.out.g3;obtain⟨s0,bH,s1,bI,s2,bY⟩:=Hs.out.g3;replace Hb:=au Hb ae;clear ae
 go_loopw[5,6,9] (λ_ _ i wr=>∃(k:Nat),k<=xs.length/\i=.int .i64 k/\ak wr w.heap.size 30 [.bool false,.string (bs []),.int .i64 0]/\
  ak wr (w.heap.size+1) 30 (bo (canon (kJ (xs.take k))))/\Bw w wr) (λ_ _ i _=>xs.length-(intOf i).toNat)
 case atStart=>exact⟨0,Nat.zero_le _,rfl,Hr.out,Hs.out,Hb.out⟩
 case round=>
  obtain⟨k,hk,rfl,qr,qs,hb⟩:=hrel;replace Hr:=ah qr;replace Hs:=ah qs;replace Hb:=ah hb;clear qr qs hb r0 r1 r2 ai aj aC s0 s1 s2 bH bI bY;by_cases hlt:k<xs.length
  . obtain ⟨b,o,hab,hcs⟩:=(Ha.out.below Hb.out).elem (f:=bo) (sz:=3) (fun _=>rfl) zd k hlt;have hc0:wr.cell? ⟨b,o+k*3,none⟩=some (.bool xs[k].1):=hcs 0 zd;have hc1:wr.cell? ⟨b,o+k*3+1,none⟩=some (.string (bs xs[k].2.1)):=hcs 1 zd;have hc2:wr.cell? ⟨b,o+k*3+2,none⟩=some (.int .i64 xs[k].2.2):=hcs 2 zd;have bD:=mK xs.length cap k (k:Int) hab hlt rfl;have cd:=ah (aeN xs k hlt);have ky:Hid (Ok xs[k]):=Hl.out _ (List.getElem_mem hlt);have jQ:=ah (HS.out k);clear hcs hab;generalize xs[k]=x at*;obtain⟨t1,l1,e1⟩:=x;generalize hS:kJ (xs.take k)=S at*;clear hS;obtain⟨g,X,Y,hg,hX,hY,eA,eB,lX,lY,hg1,hg2⟩:=Xa jQ.out ky.out S (az (t1,l1,e1)) (bU S) rfl;obtain⟨N,hN⟩:=aB (X+Y);obtain⟨D,hD⟩:=aB (S+az (t1,l1,e1));have HD:Hid (az (ar N,nt N.natAbs,g)=D):=by
     show _=_
     rw[uO,<-hD,<-hN,<-ym,<-eA,<-eB]
    have JS:Hid ((nt N.natAbs).length<=34359738368):=by show _<=_;rw[<-hN];exact Nat.le_trans (RY X Y _ lX lY) zd
    rw[hD]at cd;have yL:Hid (∀W,aF W->Calls Tryz.prog 71 #[bC S,.agg #[.bool t1,.string (bs l1),.int .i64 e1]] W λex w'=>ex=.returned (.agg #[.int .i64 g,.bool (ar X),.string (bs (nt X.natAbs)),.bool (ar Y),.string (bs (nt Y.natAbs))])/\Bw W w'):=λW hW=>
     WM _ _ _ t1 l1 e1 S (az (t1,l1,e1)) (bU S) rfl g X Y hg hX hY W jQ.out ky.out hW
    have LX:Hid ((nt X.natAbs).length<=34359738368):=by show _<=_;omega
    have LY:Hid ((nt Y.natAbs).length<=34359738368):=by show _<=_;omega
    have Hg:Hid (-1099511627776<=g/\g<=1099511627776):=⟨hg1,hg2⟩;have HN:=ah hN;clear eA eB hg hX hY lX lY hN hD hg1 hg2 jQ ky;unfold bo canon at Hs;simp only at Hs;obtain⟨r0,ai,r1,aj,r2,aC⟩:=Hr.out.g3;obtain⟨s0,bH,s1,bI,s2,bY⟩:=Hs.out.g3;have DY:=Hr.out.lt;have NS:=Hs.out.lt;go_wp2_with fail;obtain⟨R,hR⟩:∃R:World->Prop,(λW1=>ak W1 (wr.heap.size) 30 [.bool t1,.string (bs l1),.int .i64 e1]/\Bw wr W1)=R:=⟨_,rfl⟩;first|refine bO R ?hR ?_|refine bK R ?hR ?_
    case hR=>subst hR;exact⟨(ak.newAt wr _ _ (b:=wr.heap.size) rfl),zl⟩
    subst hR;rintro W1 ⟨qc,ae⟩;have Hc:=ah qc;clear qc r0 ai r1 aj r2 aC;replace Hr:=kB Hr ae;obtain⟨r0,ai,r1,aj,r2,aC⟩:=Hr.out.g3;clear s0 bH s1 bI s2 bY;replace Hs:=kB Hs ae;obtain⟨s0,bH,s1,bI,s2,bY⟩:=Hs.out.g3;obtain⟨c0,c1,c2⟩:=Hc.out.c3;replace Hb:=au Hb ae;clear ae;have HT:=ah (ie.out.below Hb.out);go_wp2_with fail;refine(yL.out _ HT.out).mono ?_;rintro e w1 ⟨rfl,ae⟩;clear r0 ai r1 aj r2 aC s0 bH s1 bI s2 bY c0 c1 c2;replace Hr:=kB Hr ae;replace Hs:=kB Hs ae;replace Hc:=kB Hc ae;obtain⟨r0,ai,r1,aj,r2,aC⟩:=Hr.out.g3;obtain⟨s0,bH,s1,bI,s2,bY⟩:=Hs.out.g3;obtain⟨c0,c1,c2⟩:=Hc.out.c3;replace Hb:=au Hb ae;clear ae;have xZ:=Hr.out.lt;have aot:=Hs.out.lt;have ahT:=Hc.out.lt;go_wp2_with fail;obtain⟨R,hR⟩:∃R:World->Prop,(λW2=>ak W2 (w1.heap.size) 99 [.int .i64 g,.bool (ar X),.string (bs (nt X.natAbs)),.bool (ar Y),.string (bs (nt Y.natAbs))]/\Bw w1 W2)=R:=⟨_,rfl⟩;first|refine bO R ?hR ?_|refine bK R ?hR ?_
    case hR=>subst hR;exact⟨(ak.newAt w1 _ _ (b:=w1.heap.size) rfl),zl⟩
    subst hR;rintro W2 ⟨qp,ae⟩;have Hp:=ah qp;clear qp r0 ai r1 aj r2 aC;replace Hr:=kB Hr ae;obtain⟨r0,ai,r1,aj,r2,aC⟩:=Hr.out.g3;clear s0 bH s1 bI s2 bY;replace Hs:=kB Hs ae;obtain⟨s0,bH,s1,bI,s2,bY⟩:=Hs.out.g3;clear c0 c1 c2;replace Hc:=kB Hc ae;obtain⟨c0,c1,c2⟩:=Hc.out.c3;obtain⟨p0,p1,p2,p3,p4⟩:=Hp.out.c5;replace Hb:=au Hb ae;clear ae;refine bJ (λw'=>w'.cell? ⟨w1.heap.size,0,none⟩=some (.int .i64 g)/\w'.cell? ⟨w1.heap.size,1,none⟩=some (.bool (ar X))/\w'.cell? ⟨w1.heap.size,2,none⟩=some (.string (bs (nt X.natAbs)))/\w'.cell? ⟨w1.heap.size,3,none⟩=some (.bool (ar Y))/\w'.cell? ⟨w1.heap.size,4,none⟩=some (.string (bs (nt Y.natAbs)))) (λi=>Nat.blt i 9) [(0,true),(1,true),(2,true),(3,true),(6,true),(7,true),(4,false),(5,false),(8,false),(9,false)] zk zk rfl zk zc ⟨p0,p1,p2,p3,p4⟩ ?_;iterate 6 (refine pT rfl rfl ?_ (by intro w' ⟨q0,q1,q2,q3,q4⟩;go_simp;try with_reducible rfl);try simp only[UU])
    refine aI rfl rfl (λK hK=>?_);go_simp;refine hK _ _ (λ_=>⟨aG p0,aG p1,aG p2,aG p3,aG p4⟩) ?_;clear hK K;try simp only[UU]
    refine bN (λW3=>ak W3 (W2.heap.size) 28 [.bool (ar X),.string (bs (nt X.natAbs)),.bool (ar Y),.string (bs (nt Y.natAbs))]/\Bw W2 W3) (by first|exact dP|exact dQ) ?_;rintro W3 ⟨qv,ae⟩;clear r0 ai r1 aj r2 aC s0 bH s1 bI s2 bY c0 c1 c2 p0 p1 p2 p3 p4;have Il:=Hr.out.lt;have ah0:=Hs.out.lt;have Xc:=Hc.out.lt;have ahX:=Hp.out.lt;replace Hr:=kB Hr ae;replace Hs:=kB Hs ae;replace Hc:=kB Hc ae;replace Hp:=kB Hp ae;have Hv:=ah qv;clear qv;obtain⟨r0,ai,r1,aj,r2,aC⟩:=Hr.out.g3;obtain⟨s0,bH,s1,bI,s2,bY⟩:=Hs.out.g3;obtain⟨c0,c1,c2⟩:=Hc.out.c3;obtain⟨p0,p1,p2,p3,p4⟩:=Hp.out.c5;obtain⟨v0,v1,v2,v3⟩:=Hv.out.c4;replace Hb:=au Hb ae;clear ae;refine aI rfl rfl (λK hK=>?_);go_simp;with_reducible refine(alH X Y N HN.out W2.heap.size 2 28 _ LX.out LY.out Hv.out).mono ?_
    rintro e w3 ⟨rfl,hq⟩;have ae:Bw W3 w3:=by first|exact hq|exact aM hq
    clear r0 ai r1 aj r2 aC s0 bH s1 bI s2 bY c0 c1 c2 p0 p1 p2 p3 p4 v0 v1 v2 v3;replace Hr:=kB Hr ae;replace Hs:=kB Hs ae;replace Hc:=kB Hc ae;replace Hp:=kB Hp ae;replace Hv:=kB Hv ae;obtain⟨r0,ai,r1,aj,r2,aC⟩:=Hr.out.g3;obtain⟨s0,bH,s1,bI,s2,bY⟩:=Hs.out.g3;obtain⟨c0,c1,c2⟩:=Hc.out.c3;obtain⟨p0,p1,p2,p3,p4⟩:=Hp.out.c5;obtain⟨v0,v1,v2,v3⟩:=Hv.out.c4;replace Hb:=au Hb ae;clear ae;refine hK _ _ (λ_=>⟨p0,p1,p2,p3,p4⟩) ?_;clear hK K;try simp only[UU]
    refine aI rfl rfl (λK hK=>?_);go_simp;with_reducible refine(vN (ar N) (nt N.natAbs) g D HD.out _ JS.out Hg.out (by first|exact(ie.out.below Hb.out) |exact aF.drew (ie.out.below Hb.out) |exact aF.alloc (ie.out.below Hb.out) _|exact aF.drew (aF.alloc (ie.out.below Hb.out) _) |exact aF.alloc (aF.drew (ie.out.below Hb.out)) _)).mono ?_
    rintro e w4 ⟨rfl,hq⟩;have ae:Bw w3 w4:=by first|exact hq|exact aM hq
    clear r0 ai r1 aj r2 aC s0 bH s1 bI s2 bY c0 c1 c2 p0 p1 p2 p3 p4 v0 v1 v2 v3;replace Hr:=kB Hr ae;replace Hs:=kB Hs ae;replace Hc:=kB Hc ae;replace Hp:=kB Hp ae;replace Hv:=kB Hv ae;obtain⟨r0,ai,r1,aj,r2,aC⟩:=Hr.out.g3;obtain⟨s0,bH,s1,bI,s2,bY⟩:=Hs.out.g3;obtain⟨c0,c1,c2⟩:=Hc.out.c3;obtain⟨p0,p1,p2,p3,p4⟩:=Hp.out.c5;obtain⟨v0,v1,v2,v3⟩:=Hv.out.c4;replace Hb:=au Hb ae;clear ae;refine hK _ _ (λ_=>⟨p0,p1,p2,p3,p4⟩) ?_;clear hK K;try simp only[UU]
    refine aI rfl rfl (λK hK=>?_);go_simp;refine hK _ _ (λh=>absurd h zd) ?_;clear hK K;try simp only[UU]
    clear r0 ai r1 aj r2 aC s0 bH s1 bI s2 bY c0 c1 c2 p0 p1 p2 p3 p4 v0 v1 v2 v3;refine bN (bz w4 (w.heap.size+1) 0 [.bool (ar (dN D)),.string (bs (nt (dN D).natAbs)),.int .i64 (dE D)]) bF ?_;intro w5 hs;replace Hr:=kS Hr hs zo;replace Hs:=bX Hs hs;replace Hc:=kS Hc hs zo;replace Hp:=kS Hp hs zo;replace Hv:=kS Hv hs zo;obtain⟨r0,ai,r1,aj,r2,aC⟩:=Hr.out.g3;obtain⟨s0,bH,s1,bI,s2,bY⟩:=Hs.out.g3;obtain⟨c0,c1,c2⟩:=Hc.out.c3;obtain⟨p0,p1,p2,p3,p4⟩:=Hp.out.c5;obtain⟨v0,v1,v2,v3⟩:=Hv.out.c4;replace Hb:=bS Hb hs ZS;clear hs;simp only[aU];go_wp2;go_roundw;case rel=>refine⟨k+1,by omega,by go_num,Hr.out,?_,Hb.out⟩;rw[cd.out];exact Hs.out
    case measure=>simp[intOf];omega
  . obtain rfl:k=xs.length:=by omega
    rw[List.take_length]at Hs;unfold bo canon at Hs;simp only at Hs;obtain⟨r0,ai,r1,aj,r2,aC⟩:=Hr.out.g3;obtain⟨s0,bH,s1,bI,s2,bY⟩:=Hs.out.g3;go_wp2;refine bodyPost_ret (v:=bC (kJ xs)) (by simp[results,Tryz.results38,go_sem,r0,r1,r2]) rfl ⟨rfl,?_⟩;(repeat first|exact Hb.out| (refine Below.setCell ?_ (by have:=Hb.out.size;first| (dsimp only;omega) | (show _<=_;omega) | (simp<;>omega)) _) | (refine Below.alloc ?_ zt _) |refine Below.drew ?_)
theorem Sm.one :Sm 1 1:=⟨2,by rfl,by decide⟩
theorem aeM {B:Nat}(xs:List Raw)(h:∀x∈xs,Sm B (az x)):Sm (B+xs.length) (kJ xs):=by
 induction xs with
 |nil=>exact Sm.zero _
 |cons x xs ih=>have h1:=h x zm;have h2:=ih (λy hy=>h y (by simp[hy]));exact(Sm.add (h1.mono (by omega:B<=B+xs.length)) h2)
theorem aeI {B:Nat}(xs:List Raw)(h:∀x∈xs,Sm B (az x)):Sm (B*xs.length+1) (jY xs):=by
 induction xs with
 |nil=>exact Sm.one
 |cons x xs ih=>have h1:=h x zm;have h2:=ih (λy hy=>h y (by simp[hy]));have:=Sm.mul h1 h2;rw[show B* (x::xs).length+1=B+(B*xs.length+1)by rw[List.length_cons,Nat.mul_add];omega];exact this
def Fit (B:Nat)(x:Raw):Prop:=Ok x/\Sm B (az x)
theorem Fit.mono {A B:Nat}{x:Raw}(h:Fit A x)(Tv:A<=B):Fit B x:=⟨h.1,h.2.mono Tv⟩
theorem Sm.fit {B:Nat}{d:Dyadic}(h:Sm B d)(hB:B<=268435456):Fit B (canon d):=⟨h.ok hB,by rw[bU];exact h⟩
theorem aef (xs:List Raw)(B:Nat)(S:Dyadic)(hS:kJ xs=S)(a:Option Addr)(cap:Nat)(w:World)(hl:∀x∈xs,Fit B x)(hB:B+xs.length<=268435456)(hx:xs.length<=1048576)
 (ha:At w a (xs.flatMap bo)) (hT:aF w):
 Calls Tryz.prog 38 #[.slice a xs.length cap] w λe w'=>e=.returned (bC S)/\Bw w w':=by
 subst hS;refine aee xs a cap w (λx h=>(hl x h).1) (λk=>?_) hx ha hT;refine Sm.ok (B:=B+xs.length) (Sm.mono (aeM (B:=B) _ (λx h=>(hl x (List.mem_of_mem_take h)).2)) ?_) hB;rw[List.length_take];omega
theorem aek (xs:List Raw)(a:Option Addr)(cap:Nat)(w:World)(hl:∀x∈xs,Ok x)(hS:∀k,Ok (canon (jY (xs.take k))))(hx:xs.length<=1048576)
 (ha:At w a (xs.flatMap bo)) (hT:aF w):
 Calls Tryz.prog 35 #[.slice a xs.length cap] w λe w'=>e=.returned (bC (jY xs))/\Bw w w':=by
 have Hl:=ah hl;clear hl;have HS:=ah hS;clear hS;have Ha:=ah ha;clear ha;have ie:=ah hT;clear hT;obtain⟨I,hI⟩:∃I:Dyadic,1=I:=⟨_,rfl⟩;have HI:Hid (Dyadic.ofIntWithPrec 1 0=I):=by show _=_;rw[<-hI];rfl
 have Zw:=ah hI;clear hI;go_enter Tryz.func35,Tryz.ntmps35;have Hb:Hid (Bw w w):=Below.refl _ _;go_wp2_with fail;obtain⟨R,hR⟩:∃R:World->Prop,(λW=>ak W (w.heap.size) 30 [.bool false,.string (bs []),.int .i64 0]/\Bw w W)=R:=⟨_,rfl⟩;first|refine bO R ?hR ?_|refine bK R ?hR ?_
 case hR=>subst hR;exact⟨(ak.newAt w _ _ (b:=w.heap.size) rfl),zl⟩
 subst hR;rintro W ⟨qr,ae⟩;have Hr:=ah qr;clear qr;obtain⟨r0,ai,r1,aj,r2,aC⟩:=Hr.out.g3;replace Hb:=au Hb ae;clear ae;have HT:=ah (ie.out.below Hb.out);go_wp2_with fail;refine(FQ 1 I HI.out _ zo HT.out).mono ?_;rintro e w2 ⟨rfl,ae⟩;clear r0 ai r1 aj r2 aC;replace Hr:=kB Hr ae;obtain⟨r0,ai,r1,aj,r2,aC⟩:=Hr.out.g3;replace Hb:=au Hb ae;clear ae;have xZ:=Hr.out.lt;go_wp2_with fail;obtain⟨R,hR⟩:∃R:World->Prop,(λW2=>ak W2 (w2.heap.size) 30 [.bool (ar (dN I)),.string (bs (nt (dN I).natAbs)),.int .i64 (dE I)]/\Bw w2 W2)=R:=⟨_,rfl⟩;first|refine bO R ?hR ?_|refine bK R ?hR ?_
 case hR=>subst hR;exact⟨(ak.newAt w2 _ _ (b:=w2.heap.size) rfl),zl⟩
 subst hR;rintro W2 ⟨qs,ae⟩;have Hs:=ah qs;clear qs r0 ai r1 aj r2 aC;replace Hr:=kB Hr ae;obtain⟨r0,ai,r1,aj,r2,aC⟩:=Hr.out.g3;obtain⟨s0,bH,s1,bI,s2,bY⟩:=Hs.out.g3;replace Hb:=au Hb ae;clear ae
 go_loopw[5,9] (λ_ i wr=>∃(k:Nat),k<=xs.length/\i=.int .i64 k/\ak wr w.heap.size 30 [.bool false,.string (bs []),.int .i64 0]/\
  ak wr w2.heap.size 30 (bo (canon (jY (xs.take k))))/\Bw w wr) (λ_ i _=>xs.length-(intOf i).toNat)
 case atStart=>
  refine⟨0,Nat.zero_le _,rfl,Hr.out,?_,Hb.out⟩;have e:jY (xs.take 0)=I:=by rw[<-Zw.out];rfl
  rw[e];exact Hs.out
 case round=>
  obtain⟨k,hk,rfl,qr,qs,hb⟩:=hrel;replace Hr:=ah qr;replace Hs:=ah qs;replace Hb:=ah hb;clear qr qs hb r0 r1 r2 ai aj aC s0 s1 s2 bH bI bY HT;by_cases hlt:k<xs.length
  . obtain ⟨b,o,hab,hcs⟩:=(Ha.out.below Hb.out).elem (f:=bo) (sz:=3) (fun _=>rfl) zd k hlt;have hc0:wr.cell? ⟨b,o+k*3,none⟩=some (.bool xs[k].1):=hcs 0 zd;have hc1:wr.cell? ⟨b,o+k*3+1,none⟩=some (.string (bs xs[k].2.1)):=hcs 1 zd;have hc2:wr.cell? ⟨b,o+k*3+2,none⟩=some (.int .i64 xs[k].2.2):=hcs 2 zd;have bD:=mK xs.length cap k (k:Int) hab hlt rfl;have cd:=ah (aeJ xs k hlt);have ky:Hid (Ok xs[k]):=Hl.out _ (List.getElem_mem hlt);have jQ:=ah (HS.out k);clear hcs hab;generalize xs[k]=x at*;obtain⟨t1,l1,e1⟩:=x;generalize hS:jY (xs.take k)=S at*;clear hS;obtain⟨N,hN⟩:=aB (dN S*iv t1 l1);obtain⟨D,hD⟩:=aB (S*az (t1,l1,e1));obtain⟨g,hg⟩:=aB (dE S+e1);have HD:Hid (az (ar N,nt N.natAbs,g)=D):=by
     show _=_
     rw[uO,<-hD,<-hN];conv=>rhs;rw[sK S]
     unfold az;rw[vW];congr 1;simp only;omega
    have o1:=jQ.out.exp;have o2:=ky.out.exp;have o3:=jQ.out.len;have o4:=ky.out.len;have JS:Hid ((nt N.natAbs).length<=34359738368):=by
     show _<=_
     have h2:=Eb t1 l1 268435456 o4;rw[Int.natAbs_neg]at h2;rw[<-hN];exact Nat.le_trans (ail (dN S) (iv t1 l1) _ _ o3 h2) zd
    rw[hD]at cd;have LX:Hid ((nt (dN S).natAbs).length<=17179869184):=by show _<=_;omega
    have LY:Hid (l1.length<=17179869184):=by show _<=_;omega
    have Hg:Hid (-1099511627776<=g/\g<=1099511627776):=by show _/\_;omega
    have Wm:IntKind.i64.wrap (dE S+e1)=g:=by rw[IntKind.wrap_i64];omega
    have HN:Hid (iv (ar (dN S)) (nt (dN S).natAbs) *iv t1 l1=N):=by show _=_;rw[fq];exact hN
    clear hg hN hD jQ ky o1 o2 o3 o4;unfold bo canon at Hs;simp only at Hs;have hrs:w.heap.size<w2.heap.size:=xZ;obtain⟨r0,ai,r1,aj,r2,aC⟩:=Hr.out.g3;obtain⟨s0,bH,s1,bI,s2,bY⟩:=Hs.out.g3;have DY:=Hr.out.lt;have NS:=Hs.out.lt;go_wp2_with fail;obtain⟨R,hR⟩:∃R:World->Prop,(λW1=>ak W1 (wr.heap.size) 30 [.bool t1,.string (bs l1),.int .i64 e1]/\Bw wr W1)=R:=⟨_,rfl⟩;first|refine bO R ?hR ?_|refine bK R ?hR ?_
    case hR=>subst hR;exact⟨(ak.newAt wr _ _ (b:=wr.heap.size) rfl),zl⟩
    subst hR;rintro W1 ⟨qc,ae⟩;have Hc:=ah qc;clear qc r0 ai r1 aj r2 aC;replace Hr:=kB Hr ae;obtain⟨r0,ai,r1,aj,r2,aC⟩:=Hr.out.g3;clear s0 bH s1 bI s2 bY;replace Hs:=kB Hs ae;obtain⟨s0,bH,s1,bI,s2,bY⟩:=Hs.out.g3;obtain⟨c0,c1,c2⟩:=Hc.out.c3;replace Hb:=au Hb ae;clear ae;refine bJ (λw'=>w'.cell? ⟨wr.heap.size,0,none⟩=some (.bool t1)/\w'.cell? ⟨wr.heap.size,1,none⟩=some (.string (bs l1))/\w'.cell? ⟨wr.heap.size,2,none⟩=some (.int .i64 e1)/\w'.cell? ⟨w2.heap.size,0,none⟩=some (.bool (ar (dN S)))/\w'.cell? ⟨w2.heap.size,1,none⟩=some (.string (bs (nt (dN S).natAbs)))/\w'.cell? ⟨w2.heap.size,2,none⟩=some (.int .i64 (dE S))) (λi=>Nat.blt i 12) [(0,true),(1,true),(2,true),(3,true),(6,true),(7,true),(8,true),(9,true),(10,true),(4,false),(5,false),(11,false),(12,false)] zk zk rfl zk zc ⟨c0,c1,c2,s0,s1,s2⟩ ?_;iterate 9 (refine pT rfl rfl ?_ (by intro w' ⟨q0,q1,q2,q3,q4,q5⟩;go_simp;try with_reducible rfl);try simp only[UU])
    refine aI rfl rfl (λK hK=>?_);go_simp;refine hK _ _ (λ_=>⟨aG c0,aG c1,aG c2,aG s0,aG s1,aG s2⟩) ?_;clear hK K;try simp only[UU]
    refine bN (λW3=>ak W3 (W1.heap.size) 28 [.bool (ar (dN S)),.string (bs (nt (dN S).natAbs)),.bool t1,.string (bs l1)]/\Bw W1 W3) (by first|exact dP|exact dQ) ?_;rintro W3 ⟨qv,ae⟩;clear r0 ai r1 aj r2 aC s0 bH s1 bI s2 bY c0 c1 c2;have Il:=Hr.out.lt;have ah0:=Hs.out.lt;have Xc:=Hc.out.lt;replace Hr:=kB Hr ae;replace Hs:=kB Hs ae;replace Hc:=kB Hc ae;have Hv:=ah qv;clear qv;obtain⟨r0,ai,r1,aj,r2,aC⟩:=Hr.out.g3;obtain⟨s0,bH,s1,bI,s2,bY⟩:=Hs.out.g3;obtain⟨c0,c1,c2⟩:=Hc.out.c3;obtain⟨v0,v1,v2,v3⟩:=Hv.out.c4;replace Hb:=au Hb ae;clear ae;refine aI rfl rfl (λK hK=>?_);go_simp;with_reducible refine(YX (ar (dN S)) (nt (dN S).natAbs) t1 l1 N HN.out W1.heap.size 2 28 _ LX.out LY.out Hv.out).mono ?_
    rintro e w3 ⟨rfl,hq⟩;have ae:Bw W3 w3:=by first|exact hq|exact aM hq
    clear r0 ai r1 aj r2 aC s0 bH s1 bI s2 bY c0 c1 c2 v0 v1 v2 v3;replace Hr:=kB Hr ae;replace Hs:=kB Hs ae;replace Hc:=kB Hc ae;replace Hv:=kB Hv ae;obtain⟨r0,ai,r1,aj,r2,aC⟩:=Hr.out.g3;obtain⟨s0,bH,s1,bI,s2,bY⟩:=Hs.out.g3;obtain⟨c0,c1,c2⟩:=Hc.out.c3;obtain⟨v0,v1,v2,v3⟩:=Hv.out.c4;replace Hb:=au Hb ae;clear ae;refine hK _ _ (λ_=>⟨c0,c1,c2,s0,s1,s2⟩) ?_;clear hK K;try simp only[UU]
    refine aI rfl rfl (λK hK=>?_);go_simp;with_reducible refine(vN (ar N) (nt N.natAbs) g D HD.out _ JS.out Hg.out (by first|exact(ie.out.below Hb.out) |exact aF.drew (ie.out.below Hb.out) |exact aF.alloc (ie.out.below Hb.out) _|exact aF.drew (aF.alloc (ie.out.below Hb.out) _) |exact aF.alloc (aF.drew (ie.out.below Hb.out)) _)).mono ?_
    rintro e w4 ⟨rfl,hq⟩;have ae:Bw w3 w4:=by first|exact hq|exact aM hq
    clear r0 ai r1 aj r2 aC s0 bH s1 bI s2 bY c0 c1 c2 v0 v1 v2 v3;replace Hr:=kB Hr ae;replace Hs:=kB Hs ae;replace Hc:=kB Hc ae;replace Hv:=kB Hv ae;obtain⟨r0,ai,r1,aj,r2,aC⟩:=Hr.out.g3;obtain⟨s0,bH,s1,bI,s2,bY⟩:=Hs.out.g3;obtain⟨c0,c1,c2⟩:=Hc.out.c3;obtain⟨v0,v1,v2,v3⟩:=Hv.out.c4;replace Hb:=au Hb ae;clear ae;refine hK _ _ (λ_=>⟨c0,c1,c2,s0,s1,s2⟩) ?_;clear hK K;try simp only[UU]
    refine aI rfl rfl (λK hK=>?_);go_simp;refine hK _ _ (λh=>absurd h zd) ?_;clear hK K;try simp only[UU]
    clear r0 ai r1 aj r2 aC s0 bH s1 bI s2 bY c0 c1 c2 v0 v1 v2 v3;refine bN (bz w4 (w2.heap.size) 0 [.bool (ar (dN D)),.string (bs (nt (dN D).natAbs)),.int .i64 (dE D)]) bF ?_;intro w5 hs;replace Hr:=kS Hr hs zo;replace Hs:=bX Hs hs;replace Hc:=kS Hc hs zo;replace Hv:=kS Hv hs zo;obtain⟨r0,ai,r1,aj,r2,aC⟩:=Hr.out.g3;obtain⟨s0,bH,s1,bI,s2,bY⟩:=Hs.out.g3;obtain⟨c0,c1,c2⟩:=Hc.out.c3;obtain⟨v0,v1,v2,v3⟩:=Hv.out.c4;replace Hb:=bS Hb hs ZS;clear hs;simp only[aU];go_wp2;go_roundw;case rel=>refine⟨k+1,by omega,by go_num,Hr.out,?_,Hb.out⟩;rw[cd.out];exact Hs.out
    case measure=>simp[intOf];omega
  . obtain rfl:k=xs.length:=by omega
    rw[List.take_length]at Hs;unfold bo canon at Hs;simp only at Hs;obtain⟨r0,ai,r1,aj,r2,aC⟩:=Hr.out.g3;obtain⟨s0,bH,s1,bI,s2,bY⟩:=Hs.out.g3;go_wp2;refine bodyPost_ret (v:=bC (jY xs)) (by simp[results,Tryz.results35,go_sem,r0,r1,r2]) rfl ⟨rfl,?_⟩;(repeat first|exact Hb.out| (refine Below.setCell ?_ (by have:=Hb.out.size;first| (dsimp only;omega) | (show _<=_;omega) | (simp<;>omega)) _) | (refine Below.alloc ?_ zt _) |refine Below.drew ?_)
theorem ael (xs:List Raw)(B:Nat)(S:Dyadic)(hS:jY xs=S)(a:Option Addr)(cap:Nat)(w:World)(hl:∀x∈xs,Fit B x)(hB:B*xs.length+1<=268435456)(hx:xs.length<=1048576)
 (ha:At w a (xs.flatMap bo)) (hT:aF w):
 Calls Tryz.prog 35 #[.slice a xs.length cap] w λe w'=>e=.returned (bC S)/\Bw w w':=by
 subst hS;refine aek xs a cap w (λx h=>(hl x h).1) (λk=>?_) hx ha hT;refine Sm.ok (B:=B*xs.length+1) (Sm.mono (aeI (B:=B) _ (λx h=>(hl x (List.mem_of_mem_take h)).2)) ?_) hB;rw[List.length_take];have:B*min k xs.length<=B*xs.length:=Nat.mul_le_mul_left _ zo;omega
theorem zh (s:Bool)(l:List UInt8)(e:Int)(t:Bool)(m:List UInt8)(f:Int)(S:Dyadic)(B:Nat)(hS:az (s,l,e)+az (t,m,f)=S)(b cap:Nat)(ty:TypeId)(w:World)(hx:Fit B (s,l,e))(hy:Fit B (t,m,f))(hB:B+2<=268435456)
 (ha:ak w b ty [.bool s,.string (bs l),.int .i64 e,.bool t,.string (bs m),.int .i64 f]) (hT:aF w):
 Calls Tryz.prog 38 #[.slice (some ⟨b,0,none⟩) 2 cap] w λe w'=>e=.returned (bC S)/\Bw w w':=
 aef [(s,l,e),(t,m,f)] B S (by rw[<-hS];simp only[kJ];grind) _ cap w (by intro x h;simp at h;rcases h with rfl|rfl;exact hx;exact hy) hB zm (At.apk ha) hT
theorem Cx (s:Bool)(l:List UInt8)(e:Int)(t:Bool)(m:List UInt8)(f:Int)(S:Dyadic)(B:Nat)(hS:az (s,l,e) *az (t,m,f)=S)(b cap:Nat)(ty:TypeId)(w:World)(hx:Fit B (s,l,e))(hy:Fit B (t,m,f))(hB:2*B+1<=268435456)
 (ha:ak w b ty [.bool s,.string (bs l),.int .i64 e,.bool t,.string (bs m),.int .i64 f]) (hT:aF w):
 Calls Tryz.prog 35 #[.slice (some ⟨b,0,none⟩) 2 cap] w λe w'=>e=.returned (bC S)/\Bw w w':=
 ael [(s,l,e),(t,m,f)] B S (by rw[<-hS];simp only[jY];grind) _ cap w (by intro x h;simp at h;rcases h with rfl|rfl;exact hx;exact hy) zi zm (At.apk ha) hT
theorem zq (s:Bool)(l:List UInt8)(e:Int)(t:Bool)(m:List UInt8)(f:Int)(S:Dyadic)(B:Nat)(hS:az (s,l,e)-az (t,m,f)=S)(w:World)(hx:Fit B (s,l,e))(hy:Fit B (t,m,f))(hB:B+2<=268435456)(hT:aF w):
 Calls Tryz.prog 56 #[.agg #[.bool s,.string (bs l),.int .i64 e],.agg #[.bool t,.string (bs m),.int .i64 f]] w λe w'=>e=.returned (bC S)/\Bw w w':=by
 obtain⟨D,hD⟩:=aB (-az (t,m,f));have Hn:Hid (Fit B (ar (dN D),nt (dN D).natAbs,dE D)):=by rw[<-hD];exact(hy.2.neg).fit zo
 have HS:Hid (az (s,l,e)+az (ar (dN D),nt (dN D).natAbs,dE D)=S):=by show _+az (canon D)=_;rw[bU,<-hD,<-hS];grind
 obtain⟨Hyo,HD,rI,gV⟩:=dW hy.1 hD hx hy;clear hD hx hy hS;go_enter Tryz.func56,Tryz.ntmps56;have Hb:Hid (Bw w w):=Below.refl _ _;go_wp2_with fail;obtain⟨R,hR⟩:∃R:World->Prop,(λW=>ak W (w.heap.size) 30 [.bool s,.string (bs l),.int .i64 e]/\ak W (w.heap.size+1) 30 [.bool t,.string (bs m),.int .i64 f]/\ak W (w.heap.size+1+1) 30 [.bool false,.string (bs []),.int .i64 0]/\Bw w W)=R:=⟨_,rfl⟩;first|refine bO R ?hR ?_|refine bK R ?hR ?_
 case hR=>subst hR;exact⟨(((ak.newAt w _ _ (b:=w.heap.size) rfl).alloc _).alloc _),((ak.newAt (w.alloc _) _ _ (b:=w.heap.size+1) zm).alloc _),(ak.newAt ((w.alloc _).alloc _) _ _ (b:=w.heap.size+1+1) zm),((zl.alloc zj _).alloc zj _)⟩
 subst hR;rintro W ⟨qx,qy,qr,ae⟩;have Hx:=ah qx;clear qx;have Hy:=ah qy;clear qy;have Hr:=ah qr;clear qr;obtain⟨x0,x1,x2⟩:=Hx.out.c3;obtain⟨y0,y1,y2⟩:=Hy.out.c3;obtain⟨r0,ai,r1,aj,r2,aC⟩:=Hr.out.g3;replace Hb:=au Hb ae;clear ae;refine bJ (λw'=>w'.cell? ⟨w.heap.size,0,none⟩=some (.bool s)/\w'.cell? ⟨w.heap.size,1,none⟩=some (.string (bs l))/\w'.cell? ⟨w.heap.size,2,none⟩=some (.int .i64 e)/\w'.cell? ⟨w.heap.size+1,0,none⟩=some (.bool t)/\w'.cell? ⟨w.heap.size+1,1,none⟩=some (.string (bs m))/\w'.cell? ⟨w.heap.size+1,2,none⟩=some (.int .i64 f)) (λi=>Nat.blt i 5) [(0,true),(1,true),(2,false),(3,false),(4,false),(5,false)] zk zk rfl zk zc ⟨x0,x1,x2,y0,y1,y2⟩ ?_;iterate 2 (refine pT rfl rfl ?_ (by intro w' ⟨q0,q1,q2,q3,q4,q5⟩;go_simp;try with_reducible rfl);try simp only[UU])
 refine aI rfl rfl (λK hK=>?_);go_simp;with_reducible refine(Lm t m f D HD.out _ Hyo.out (by first|exact(hT.below Hb.out) |exact aF.drew (hT.below Hb.out) |exact aF.alloc (hT.below Hb.out) _|exact aF.drew (aF.alloc (hT.below Hb.out) _) |exact aF.alloc (aF.drew (hT.below Hb.out)) _)).mono ?_
 rintro e w1 ⟨rfl,hq⟩;have ae:Bw W w1:=by first|exact hq|exact aM hq
 clear x0 x1 x2 y0 y1 y2 r0 ai r1 aj r2 aC;replace Hx:=kB Hx ae;replace Hy:=kB Hy ae;replace Hr:=kB Hr ae;obtain⟨x0,x1,x2⟩:=Hx.out.c3;obtain⟨y0,y1,y2⟩:=Hy.out.c3;obtain⟨r0,ai,r1,aj,r2,aC⟩:=Hr.out.g3;replace Hb:=au Hb ae;clear ae;refine hK _ _ (λ_=>⟨x0,x1,x2,y0,y1,y2⟩) ?_;clear hK K;try simp only[UU]
 refine aI rfl rfl (λK hK=>?_);go_simp;refine hK _ _ (λ_=>⟨aG x0,aG x1,aG x2,aG y0,aG y1,aG y2⟩) ?_;clear hK K;try simp only[UU]
 refine bN (λW1=>ak W1 (w1.heap.size) 30 [.bool s,.string (bs l),.int .i64 e,.bool (ar (dN D)),.string (bs (nt (dN D).natAbs)),.int .i64 (dE D)]/\Bw w1 W1) (by first|exact dP|exact dQ) ?_;rintro W1 ⟨qv,ae⟩;clear x0 x1 x2 y0 y1 y2 r0 ai r1 aj r2 aC;have ah3:=Hx.out.lt;have ah5:=Hy.out.lt;have DY:=Hr.out.lt;replace Hx:=kB Hx ae;replace Hy:=kB Hy ae;replace Hr:=kB Hr ae;have Hv:=ah qv;clear qv;obtain⟨x0,x1,x2⟩:=Hx.out.c3;obtain⟨y0,y1,y2⟩:=Hy.out.c3;obtain⟨r0,ai,r1,aj,r2,aC⟩:=Hr.out.g3;obtain⟨v0,v1,v2,v3,v4,v5⟩:=Hv.out.c6;replace Hb:=au Hb ae;clear ae;refine aI rfl rfl (λK hK=>?_);go_simp;with_reducible refine(zh s l e (ar (dN D)) (nt (dN D).natAbs) (dE D) S B HS.out w1.heap.size 2 30 _ rI.out Hn.out hB Hv.out (by first|exact(hT.below Hb.out) |exact aF.drew (hT.below Hb.out) |exact aF.alloc (hT.below Hb.out) _|exact aF.drew (aF.alloc (hT.below Hb.out) _) |exact aF.alloc (aF.drew (hT.below Hb.out)) _)).mono ?_
 rintro e w2 ⟨rfl,hq⟩;have ae:Bw W1 w2:=by first|exact hq|exact aM hq
 clear x0 x1 x2 y0 y1 y2 r0 ai r1 aj r2 aC v0 v1 v2 v3 v4 v5;replace Hx:=kB Hx ae;replace Hy:=kB Hy ae;replace Hr:=kB Hr ae;replace Hv:=kB Hv ae;obtain⟨x0,x1,x2⟩:=Hx.out.c3;obtain⟨y0,y1,y2⟩:=Hy.out.c3;obtain⟨r0,ai,r1,aj,r2,aC⟩:=Hr.out.g3;obtain⟨v0,v1,v2,v3,v4,v5⟩:=Hv.out.c6;replace Hb:=au Hb ae;clear ae;refine hK _ _ (λ_=>⟨x0,x1,x2,y0,y1,y2⟩) ?_;clear hK K;try simp only[UU]
 refine aI rfl rfl (λK hK=>?_);go_simp;refine hK _ _ (λh=>absurd h zd) ?_;clear hK K;try simp only[UU]
 clear x0 x1 x2 y0 y1 y2 r0 ai r1 aj r2 aC v0 v1 v2 v3 v4 v5;refine bN (bz w2 (w.heap.size+1+1) 0 [.bool (ar (dN S)),.string (bs (nt (dN S).natAbs)),.int .i64 (dE S)]) bF ?_;intro w3 hs;replace Hx:=kS Hx hs zo;replace Hy:=kS Hy hs zo;replace Hr:=bX Hr hs;replace Hv:=kS Hv hs zo;obtain⟨x0,x1,x2⟩:=Hx.out.c3;obtain⟨y0,y1,y2⟩:=Hy.out.c3;obtain⟨r0,ai,r1,aj,r2,aC⟩:=Hr.out.g3;obtain⟨v0,v1,v2,v3,v4,v5⟩:=Hv.out.c6;replace Hb:=bS Hb hs ZS;clear hs;simp only[aU];go_wp2;refine bodyPost_ret (v:=bC S) (by simp[results,Tryz.results56,go_sem,r0,r1,r2]) rfl ⟨rfl,?_⟩;(repeat first|exact Hb.out| (refine Below.setCell ?_ (by have:=Hb.out.size;first| (dsimp only;omega) | (show _<=_;omega) | (simp<;>omega)) _) | (refine Below.alloc ?_ zt _) |refine Below.drew ?_)
theorem Lu (n k:Int):cw (Dyadic.ofIntWithPrec n k)=eu n:=by have h:=Ph (ar n) (nt n.natAbs) (-k);rw[uO,fq,Int.neg_neg]at h;exact h.symm
theorem aei (s:Bool)(l:List UInt8)(e:Int)(t:Bool)(m:List UInt8)(f:Int)(c:Int)(hc:cw (az (s,l,e)-az (t,m,f))=c)(w:World)(hx:Ok (s,l,e))(hy:Ok (t,m,f))(hT:aF w):
 Calls Tryz.prog 34 #[.agg #[.bool s,.string (bs l),.int .i64 e],.agg #[.bool t,.string (bs m),.int .i64 f]] w λe w'=>e=.returned (.int .i64 c)/\Bw w w':=by
 obtain⟨g,X,Y,hg,hX,hY,eA,eB,lX,lY,hg1,hg2⟩:=Xa hx hy _ _ rfl rfl;have Mu:eu (X-Y)=c:=by rw[<-hc,eA,eB,show ∀a b:Dyadic,a-b=a+ -b from λa b=>by grind,Ef,ym,Lu];rfl
 obtain⟨u,hu⟩:=aB (cw (az (s,l,e)));obtain⟨v,hv⟩:=aB (cw (az (t,m,f)));have hu2:eu X=u:=by rw[<-hu,eA,Lu]
 have hv2:eu Y=v:=by rw[<-hv,eB,Lu]
 have ru: -1<=u/\u<=1:=by rw[<-hu2];unfold eu;split<;>(try split)<;>omega
 have rv: -1<=v/\v<=1:=by rw[<-hv2];unfold eu;split<;>(try split)<;>omega
 have yL:Hid (∀W,aF W->Calls Tryz.prog 71 #[.agg #[.bool s,.string (bs l),.int .i64 e],.agg #[.bool t,.string (bs m),.int .i64 f]] W λex w'=>ex=.returned (.agg #[.int .i64 g,.bool (ar X),.string (bs (nt X.natAbs)),.bool (ar Y),.string (bs (nt Y.natAbs))])/\Bw W w'):=λW hW=>
  WM s l e t m f _ _ rfl rfl g X Y hg hX hY W hx hy hW
 have JB:Hid (∀W,Calls Tryz.prog 72 #[cX X,cX Y] W λex w'=>ex=.returned (.int .i64 c)/\Bw W w'):=λW=>by
  have:=alJ (ar X) (nt X.natAbs) (ar Y) (nt Y.natAbs) W zo zo (by rw[fq,fq,Int.sub_eq_add_neg];exact Nat.le_trans (RY X (-Y) 17179869183 lX (by rw[Int.natAbs_neg];exact lY)) zd)
  rw[fq,fq,Mu]at this;exact this
 have hcl:¬u=v->max (-1) (min 1 (u-v))=c:=by intro hne;rw[<-Mu];rw[<-hu2,<-hv2]at hne⊢;unfold eu at*;split<;>split<;>(try split)<;>(try split)<;>(try split)<;>omega
 have hwr:IntKind.i64.wrap (u-v)=u-v:=by rw[IntKind.wrap_i64];omega
 obtain⟨Hu,Hv,rI,gV⟩:=dW hu hv hx hy;clear hu hv hu2 hv2 hx hy Mu hc eA eB hX hY hg;go_enter Tryz.func34,Tryz.ntmps34;have Hb:Hid (Bw w w):=Below.refl _ _;go_wp2_with fail;obtain⟨R,hR⟩:∃R:World->Prop,(λW=>ak W (w.heap.size) 30 [.bool s,.string (bs l),.int .i64 e]/\ak W (w.heap.size+1) 30 [.bool t,.string (bs m),.int .i64 f]/\Bw w W)=R:=⟨_,rfl⟩;first|refine bO R ?hR ?_|refine bK R ?hR ?_
 case hR=>subst hR;exact⟨((ak.newAt w _ _ (b:=w.heap.size) rfl).alloc _),(ak.newAt (w.alloc _) _ _ (b:=w.heap.size+1) zm),(zl.alloc zj _)⟩
 subst hR;rintro W ⟨qx,qy,ae⟩;have Hx:=ah qx;clear qx;have Hy:=ah qy;clear qy;obtain⟨x0,x1,x2⟩:=Hx.out.c3;obtain⟨y0,y1,y2⟩:=Hy.out.c3;replace Hb:=au Hb ae;clear ae;refine bJ (λw'=>w'.cell? ⟨w.heap.size,0,none⟩=some (.bool s)/\w'.cell? ⟨w.heap.size,1,none⟩=some (.string (bs l))/\w'.cell? ⟨w.heap.size,2,none⟩=some (.int .i64 e)/\w'.cell? ⟨w.heap.size+1,0,none⟩=some (.bool t)/\w'.cell? ⟨w.heap.size+1,1,none⟩=some (.string (bs m))/\w'.cell? ⟨w.heap.size+1,2,none⟩=some (.int .i64 f)) (λi=>Nat.blt i 100000) [(0,true),(2,true),(1,false),(3,false),(4,true),(5,true)] zk zk rfl zk zc ⟨x0,x1,x2,y0,y1,y2⟩ ?_;iterate 2 (refine pT rfl rfl ?_ (by intro w' ⟨q0,q1,q2,q3,q4,q5⟩;go_simp;try with_reducible rfl);try simp only[UU])
 refine aI rfl rfl (λK hK=>?_);go_simp;with_reducible refine(nZ s l e u Hu.out _ rI.out).mono ?_
 rintro e w1 ⟨rfl,hq⟩;have ae:Bw W w1:=by first|exact hq|exact aM hq
 clear x0 x1 x2 y0 y1 y2;replace Hx:=kB Hx ae;replace Hy:=kB Hy ae;obtain⟨x0,x1,x2⟩:=Hx.out.c3;obtain⟨y0,y1,y2⟩:=Hy.out.c3;replace Hb:=au Hb ae;clear ae;refine hK _ _ (λ_=>⟨x0,x1,x2,y0,y1,y2⟩) ?_;clear hK K;try simp only[UU]
 refine aI rfl rfl (λK hK=>?_);go_simp;with_reducible refine(nZ t m f v Hv.out _ gV.out).mono ?_
 rintro e w2 ⟨rfl,hq⟩;have ae:Bw w1 w2:=by first|exact hq|exact aM hq
 clear x0 x1 x2 y0 y1 y2;replace Hx:=kB Hx ae;replace Hy:=kB Hy ae;obtain⟨x0,x1,x2⟩:=Hx.out.c3;obtain⟨y0,y1,y2⟩:=Hy.out.c3;replace Hb:=au Hb ae;clear ae;refine hK _ _ (λ_=>⟨x0,x1,x2,y0,y1,y2⟩) ?_;clear hK K;try simp only[UU]
 iterate 2 (refine pT rfl rfl ?_;try simp only[UU])
 simp only[aU];by_cases ue:u=v
 . subst ue;clear hcl;go_wp2_with fail;have HT:=ah (hT.below Hb.out);go_wp2_with fail;refine(yL.out _ HT.out).mono ?_;rintro e w3 ⟨rfl,ae⟩;clear x0 x1 x2 y0 y1 y2;replace Hx:=kB Hx ae;replace Hy:=kB Hy ae;obtain⟨x0,x1,x2⟩:=Hx.out.c3;obtain⟨y0,y1,y2⟩:=Hy.out.c3;replace Hb:=au Hb ae;clear ae;have aoF:=Hx.out.lt;have aoI:=Hy.out.lt;go_wp2_with fail;obtain⟨R,hR⟩:∃R:World->Prop,(λW4=>ak W4 (w3.heap.size) 99 [.int .i64 g,.bool (ar X),.string (bs (nt X.natAbs)),.bool (ar Y),.string (bs (nt Y.natAbs))]/\Bw w3 W4)=R:=⟨_,rfl⟩;first|refine bO R ?hR ?_|refine bK R ?hR ?_
   case hR=>subst hR;exact⟨(ak.newAt w3 _ _ (b:=w3.heap.size) rfl),zl⟩
   subst hR;rintro W4 ⟨qp,ae⟩;have Hp:=ah qp;clear qp x0 x1 x2;replace Hx:=kB Hx ae;obtain⟨x0,x1,x2⟩:=Hx.out.c3;clear y0 y1 y2;replace Hy:=kB Hy ae;obtain⟨y0,y1,y2⟩:=Hy.out.c3;obtain⟨p0,p1,p2,p3,p4⟩:=Hp.out.c5;replace Hb:=au Hb ae;clear ae;go_wp2_with fail;refine(JB.out _).mono ?_;rintro e w5 ⟨rfl,ae⟩;clear x0 x1 x2 y0 y1 y2 p0 p1 p2 p3 p4;replace Hx:=kB Hx ae;replace Hy:=kB Hy ae;replace Hp:=kB Hp ae;obtain⟨x0,x1,x2⟩:=Hx.out.c3;obtain⟨y0,y1,y2⟩:=Hy.out.c3;obtain⟨p0,p1,p2,p3,p4⟩:=Hp.out.c5;replace Hb:=au Hb ae;clear ae;go_wp2;go_ret;exact⟨rfl,Hb.out⟩
 . have hcl:=hcl ue;have anG:(u !=v)=true:=by simp[ue]
   go_wp2;go_ret;exact⟨rfl,Hb.out⟩
theorem aed (s:Bool)(l:List UInt8)(e:Int)(D:Dyadic)(hD:(if cw (az (s,l,e))<0 then-az (s,l,e)else az (s,l,e))=D)(w:World)(hx:Ok (s,l,e))(hT:aF w):
 Calls Tryz.prog 31 #[.agg #[.bool s,.string (bs l),.int .i64 e]] w λex w'=>ex=.returned (bC D)/\Bw w w':=by
 obtain⟨u,hu⟩:=aB (cw (az (s,l,e)));have rI:=ah hx;clear hx;have Hu:=ah hu;rw[hu]at hD;clear hu;by_cases h:u<0
 . rw[if_pos h]at hD;have HD:=ah hD;clear hD;go_enter Tryz.func31,Tryz.ntmps31;have Hb:Hid (Bw w w):=Below.refl _ _;go_wp2_with fail;obtain⟨R,hR⟩:∃R:World->Prop,(λW=>ak W (w.heap.size) 30 [.bool s,.string (bs l),.int .i64 e]/\ak W (w.heap.size+1) 30 [.bool false,.string (bs []),.int .i64 0]/\Bw w W)=R:=⟨_,rfl⟩;first|refine bO R ?hR ?_|refine bK R ?hR ?_
   case hR=>subst hR;exact⟨((ak.newAt w _ _ (b:=w.heap.size) rfl).alloc _),(ak.newAt (w.alloc _) _ _ (b:=w.heap.size+1) zm),(zl.alloc zj _)⟩
   subst hR;rintro W ⟨qx,qr,ae⟩;have Hx:=ah qx;clear qx;have Hr:=ah qr;clear qr;obtain⟨x0,x1,x2⟩:=Hx.out.c3;obtain⟨r0,ai,r1,aj,r2,aC⟩:=Hr.out.g3;replace Hb:=au Hb ae;clear ae;go_wp2_with fail;refine(nZ s l e u Hu.out _ rI.out).mono ?_;rintro e w1 ⟨rfl,ae⟩;clear x0 x1 x2 r0 ai r1 aj r2 aC;replace Hx:=kB Hx ae;replace Hr:=kB Hr ae;obtain⟨x0,x1,x2⟩:=Hx.out.c3;obtain⟨r0,ai,r1,aj,r2,aC⟩:=Hr.out.g3;replace Hb:=au Hb ae;clear ae;have HT:=ah (hT.below Hb.out);go_wp2_with fail;refine(Lm s l e D HD.out _ rI.out HT.out).mono ?_;rintro e w2 ⟨rfl,ae⟩;clear x0 x1 x2 r0 ai r1 aj r2 aC;replace Hx:=kB Hx ae;replace Hr:=kB Hr ae;obtain⟨x0,x1,x2⟩:=Hx.out.c3;obtain⟨r0,ai,r1,aj,r2,aC⟩:=Hr.out.g3;replace Hb:=au Hb ae;clear ae;go_wp2;refine bodyPost_ret (v:=bC D) (by simp[results,Tryz.results31,go_sem,r0,r1,r2]) rfl ⟨rfl,?_⟩;(repeat first|exact Hb.out| (refine Below.setCell ?_ (by have:=Hb.out.size;first| (dsimp only;omega) | (show _<=_;omega) | (simp<;>omega)) _) | (refine Below.alloc ?_ zt _) |refine Below.drew ?_)
 . rw[if_neg h]at hD;have HD:=ah hD;clear hD;have h2:0<=u:=by omega
   go_enter Tryz.func31,Tryz.ntmps31;have Hb:Hid (Bw w w):=Below.refl _ _;go_wp2_with fail;obtain⟨R,hR⟩:∃R:World->Prop,(λW=>ak W (w.heap.size) 30 [.bool s,.string (bs l),.int .i64 e]/\ak W (w.heap.size+1) 30 [.bool false,.string (bs []),.int .i64 0]/\Bw w W)=R:=⟨_,rfl⟩;first|refine bO R ?hR ?_|refine bK R ?hR ?_
   case hR=>subst hR;exact⟨((ak.newAt w _ _ (b:=w.heap.size) rfl).alloc _),(ak.newAt (w.alloc _) _ _ (b:=w.heap.size+1) zm),(zl.alloc zj _)⟩
   subst hR;rintro W ⟨qx,qr,ae⟩;have Hx:=ah qx;clear qx;have Hr:=ah qr;clear qr;obtain⟨x0,x1,x2⟩:=Hx.out.c3;obtain⟨r0,ai,r1,aj,r2,aC⟩:=Hr.out.g3;replace Hb:=au Hb ae;clear ae;go_wp2_with fail;refine(nZ s l e u Hu.out _ rI.out).mono ?_;rintro e w1 ⟨rfl,ae⟩;clear x0 x1 x2 r0 ai r1 aj r2 aC;replace Hx:=kB Hx ae;replace Hr:=kB Hr ae;obtain⟨x0,x1,x2⟩:=Hx.out.c3;obtain⟨r0,ai,r1,aj,r2,aC⟩:=Hr.out.g3;replace Hb:=au Hb ae;clear ae;have HT:=ah (hT.below Hb.out);go_wp2_with fail;refine(pp s l e D HD.out _ rI.out HT.out).mono ?_;rintro e w2 ⟨rfl,ae⟩;clear x0 x1 x2 r0 ai r1 aj r2 aC;replace Hx:=kB Hx ae;replace Hr:=kB Hr ae;obtain⟨x0,x1,x2⟩:=Hx.out.c3;obtain⟨r0,ai,r1,aj,r2,aC⟩:=Hr.out.g3;replace Hb:=au Hb ae;clear ae;go_wp2;refine bodyPost_ret (v:=bC D) (by simp[results,Tryz.results31,go_sem,r0,r1,r2]) rfl ⟨rfl,?_⟩;(repeat first|exact Hb.out| (refine Below.setCell ?_ (by have:=Hb.out.size;first| (dsimp only;omega) | (show _<=_;omega) | (simp<;>omega)) _) | (refine Below.alloc ?_ zt _) |refine Below.drew ?_)
def gA (l:List UInt8)(v:Int):Bool:=(l.all λc=>decide (c.toNat<=127))&&decide ((l.length:Int)=v)
theorem NZ (l:List UInt8)(v:Int)(w:World)(hl:l.length<=9223372036854775807):
 Calls Tryz.prog 116 #[.string (bs l),.int .i64 v] w λe w'=>e=.returned (.bool (gA l v))/\Bw w w':=by
 obtain⟨n,hn⟩:=aB l.length;have hsz:(bs l).size=n:=by rw[nY,hn]
 obtain⟨M,hM⟩:=aB (gA l v);rw[hM];obtain⟨HM,Hn⟩:=aL hM hn;rw[hn]at hl;clear hM hn;go_enter Tryz.func116,Tryz.ntmps116;have Hb:Hid (Bw w w):=Below.refl _ _;go_wp2_with fail;go_loopw[8] (λx wr=>∃k:Nat,k<=n/\x=.int .i64 (k:Int)/\((l.take k).all λc=>decide (c.toNat<=127))=true/\Bw w wr) (λx _=>n-(intOf x).toNat);case atStart=>exact⟨0,Nat.zero_le _,rfl,rfl,Hb.out⟩
 case round=>
  clear Hb;obtain⟨k,hk,rfl,hall,pb⟩:=hrel;obtain⟨wF,Hb⟩:=aL hall pb;clear hall pb;by_cases hlt:k<n
  . have hk2:k<l.length:=by rw[Hn.out];exact hlt
    have ix:=xU l (k:Int) k hk2 rfl;obtain⟨c,hc⟩:∃c:Nat,(l[k]).toNat=c:=⟨_,rfl⟩;rw[hc]at ix;by_cases h1:127<c
    . have h2:(127:Int)<(c:Int):=by omega
      have rX:M=false:=by
       rw[<-HM.out];unfold gA;have:(l.all λc=>decide (c.toNat<=127))=false:=by rw[List.all_eq_false];exact⟨l[k],List.getElem_mem hk2,by simp;omega⟩
       rw[this];rfl
      subst rX;go_wp2;refine bodyPost_ret (v:=.bool false) (by simp[results,Tryz.results116,go_sem]) rfl ⟨rfl,?_⟩;(repeat first|exact Hb.out| (refine Below.setCell ?_ (by have:=Hb.out.size;first| (dsimp only;omega) | (show _<=_;omega) | (simp<;>omega)) _) | (refine Below.alloc ?_ zt _) |refine Below.drew ?_)
    . have h2:¬(127:Int)<(c:Int):=by omega
      have cd:Hid (((l.take (k+1)).all λc=>decide (c.toNat<=127))=true):=by
       show _=_
       rw[List.take_succ_eq_append_getElem hk2,List.all_append,wF.out];simp;omega
      clear hc;go_wp2;go_roundw;case rel=>exact⟨k+1,by omega,by go_num,cd.out,Hb.out⟩
      case measure=>simp[intOf];omega
  . obtain rfl:k=n:=by omega
    have hme:M=decide ((k:Int)=v):=by rw[<-HM.out];have h:=wF.out;rw[List.take_of_length_le (by rw[Hn.out];exact Nat.le_refl _)]at h;unfold gA;rw[h,Hn.out,Bool.true_and]
    have JY:=ah hme;clear hme;go_wp2;refine bodyPost_ret (results_tmp rfl _ _ _) rfl ⟨?_,Hb.out⟩;rw[JY.out];by_cases h:(k:Int)=v<;>simp[h]
theorem FZ (v:Int)(w:World):
 Calls Tryz.prog 93 #[.int .i64 v] w λe w'=>e=.returned (.bool (decide (0<=v/\v<=12)))/\Bw w w':=by
 have Hb:Hid (Bw w w):=Below.refl _ _;go_enter Tryz.func93,Tryz.ntmps93;by_cases h1:0<=v
 . by_cases h2:v<=12
   . go_wp2;refine bodyPost_ret (results_tmp rfl _ _ _) rfl ⟨?_,Hb.out⟩;simp[h2];omega
   . go_wp2;refine bodyPost_ret (results_tmp rfl _ _ _) rfl ⟨?_,Hb.out⟩;simp[h2]
 . go_wp2;refine bodyPost_ret (results_tmp rfl _ _ _) rfl ⟨?_,Hb.out⟩;simp;omega
end Go.Proofs.YtdaadlblknpipaaGreatDoor
namespace Go.Proofs.YtdaadlblknpipaaGreatDoor
theorem ajb (n k:Int):Dyadic.ofIntWithPrec n k<0↔n<0:=by
 rw[<-Dyadic.toRat_lt_toRat_iff,Dyadic.toRat_ofIntWithPrec_eq_mul_two_pow,Dyadic.toRat_zero];have h2:(0:Rat)<2^(-k):=Rat.zpow_pos zd;constructor
 . intro h;by_cases h3:n<0
   . exact h3
   . exfalso
     have h4:(0:Rat)<=(n:Rat):=by exact_mod_cast Int.not_lt.1 h3
     have h5:=Rat.mul_nonneg h4 (Rat.le_of_lt h2);grind
 . intro h;have h4:(n:Rat)<0:=by exact_mod_cast h
   have:=Rat.mul_lt_mul_of_pos_right h4 h2;grind
theorem Lt (X:Dyadic):cw X<0↔X<0:=by
 conv=>rhs;rw[sK X]
 rw[ajb];unfold cw eu;split
 . rename_i h;simp[h]
 . rename_i h
   split<;>simp<;>omega
theorem aeK (X:Dyadic):cw X=0↔X=0:=by
 constructor
 . intro h;have h1:dN X=0:=by
    unfold cw eu at h;by_cases h1:dN X<0
    . rw[if_pos h1]at h;cases h
    . rw[if_neg h1]at h;by_cases h2:dN X=0
      . exact h2
      . rw[if_neg h2]at h;cases h
   have h2:=sK X;rw[h1,vX]at h2;exact h2
 . rintro rfl;rfl
def mP (X:Dyadic):Dyadic:=Dyadic.ofIntWithPrec (cw X) 0
theorem Yt (X:Dyadic):mP X=if X<0 then-1 else if X=0 then 0 else 1:=by
 unfold mP;have h1:=Lt X;have h2:=aeK X;have h3:cw X= -1\/cw X=0\/cw X=1:=by
  unfold cw eu;split
  . exact .inl rfl
  . split
    . exact .inr (.inl rfl)
    . exact .inr (.inr rfl)
 rcases h3 with h|h|h
 . rw[if_pos (h1.1 zo),h];rfl
 . rw[if_neg (λh4=>by have:=h1.2 h4;omega),if_pos (h2.1 h),h];rfl
 . rw[if_neg (λh4=>by have:=h1.2 h4;omega),if_neg (λh4=>by have:=h2.2 h4;omega),h];rfl
def pW (n:Nat)(p:Nat->Nat->Dyadic)(x:Nat->Dyadic)(k:Nat):Dyadic:=mP (fp n p) *fp n (AK p k x)
def fZ (e:Nat->Nat->Dyadic)(r c:Nat):Nat->Nat->Dyadic:=λa b=>e (if a<r then a else a+1) (if b<c then b else b+1)
def Ag (n:Nat)(e:Nat->Nat->Dyadic)(y:Nat->Dyadic)(i:Nat):Nat->Dyadic
 |0=>0
 |k+1=>Ag n e y i k+y k* (if(k+i)%2=1 then-cu (n-1) (fZ e i k)else cu (n-1) (fZ e i k))
theorem ahn (n:Nat)(hn:1<=n)(cF:n<=4)(e:Nat->Nat->Dyadic)(y:Nat->Dyadic)(i:Nat)(hi:i<n):Ag n e y i n=cu n λa b=>if a=i then y b else e a b:=by
 have hc:(n=1/\i=0)\/(n=2/\i=0)\/(n=2/\i=1)\/(n=3/\i=0)\/(n=3/\i=1)\/(n=3/\i=2)\/(n=4/\i=0)\/(n=4/\i=1)\/(n=4/\i=2)\/(n=4/\i=3):=by omega
 rcases hc with⟨rfl,rfl⟩ |⟨rfl,rfl⟩ |⟨rfl,rfl⟩ |⟨rfl,rfl⟩ |⟨rfl,rfl⟩ |⟨rfl,rfl⟩ |⟨rfl,rfl⟩ |⟨rfl,rfl⟩ |⟨rfl,rfl⟩ |⟨rfl,rfl⟩<;>(simp[Ag,cu,fZ];try grind)
theorem aeO (n:Nat)(p:Nat->Nat->Dyadic)(x:Nat->Dyadic)(i:Nat):fp n (AK p (i+1) x)=cu n λa b=>if a=i then x b-p 0 b else p (a+1) b-p 0 b:=by
 unfold fp AK;congr 1;funext a b
 by_cases h:a=i
 . rw[if_pos h,if_pos zo,if_neg zo]
 . rw[if_neg h,if_neg zo,if_neg zo]
def sP (f:Nat->Dyadic):Nat->Dyadic
 |0=>0
 |k+1=>sP f k+f k
theorem al7 (n:Nat)(hn:1<=n)(cF:n<=4)(p:Nat->Nat->Dyadic)(x:Nat->Dyadic):fp n (AK p 0 x)=fp n p-sP (λi=>fp n (AK p (i+1) x)) n:=by
 have hc:n=1\/n=2\/n=3\/n=4:=by omega
 rcases hc with rfl|rfl|rfl|rfl<;>(simp[sP,fp,cu,AK];grind)
theorem ak0 (f:Nat->Dyadic)(c:Dyadic)(n:Nat):sP (λi=>c*f i) n=c*sP f n:=by
 induction n with
 |zero=>simp[sP]
 |succ n ih=>simp only[sP,ih];grind
def lV (d:(Nat->Nat->Dyadic)->Dyadic)(e:Nat->Nat->Dyadic):Nat->Dyadic
 |0=>0
 |k+1=>lV d e k+(if k%2=1 then-(e 0 k*d (fZ e 0 k))else e 0 k*d (fZ e 0 k))
def mO :Nat->(Nat->Nat->Dyadic)->Dyadic
 |0,_=>1
 |n+1,e=>lV (mO n) e (n+1)
theorem Yc (n:Nat)(hn:n<=4)(e:Nat->Nat->Dyadic):mO n e=cu n e:=by
 have h0:∀e,mO 0 e=cu 0 e:=λe=>rfl;have h1:∀e,mO 1 e=cu 1 e:=λe=>by simp[mO,lV,cu];grind
 have h2:∀e,mO 2 e=cu 2 e:=λe=>by
  show lV (mO 1) e 2=_
  rw[show mO 1=cu 1 from funext h1];simp[lV,cu,fZ];grind
 have h3:∀e,mO 3 e=cu 3 e:=λe=>by
  show lV (mO 2) e 3=_
  rw[show mO 2=cu 2 from funext h2];simp[lV,cu,fZ];grind
 have h4:∀e,mO 4 e=cu 4 e:=λe=>by
  show lV (mO 3) e 4=_
  rw[show mO 3=cu 3 from funext h3];simp[lV,cu,fZ];grind
 have hc:n=0\/n=1\/n=2\/n=3\/n=4:=by omega
 rcases hc with rfl|rfl|rfl|rfl|rfl
 . exact h0 e
 . exact h1 e
 . exact h2 e
 . exact h3 e
 . exact h4 e
end Go.Proofs.YtdaadlblknpipaaGreatDoor
