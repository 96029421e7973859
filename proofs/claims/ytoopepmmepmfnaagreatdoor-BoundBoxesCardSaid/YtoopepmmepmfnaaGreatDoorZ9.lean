/- Package dyad: Make,Form,Sign,Shift,Of,Neg,Abs. -/
import Derived.Test.YtoopepmmepmfnaaGreatDoorZ7
import Derived.Test.YtoopepmmepmfnaaGreatDoorZ8
import Derived.Test.YtoopepmmepmfnaaGreatDoorZ6
import Derived.Test.YtoopepmmepmfnaaGreatDoorZ1
set_option linter.unusedVariables false
set_option linter.unusedSimpArgs false
set_option maxRecDepth 100000
set_option maxHeartbeats 16000000
namespace Go.Proofs.YtoopepmmepmfnaaGreatDoor
open Go.RowKit
attribute [local go_sem ↓] Go.wp_at_zero Go.wp_at_succ
abbrev bH (d:Dyadic):Value:=.agg #[.bool (ai (dN d)),.string (bs (nt (dN d).natAbs)),.int .i64 (dE d)]
theorem aeR :(⟨#[]⟩:ByteArray)=bs []:=rfl
theorem al8 (s:Bool)(l:List UInt8)(n:Nat)(Z:Int)(hZ:iv s l/2^n=Z)(w:World)(hl:l.length<=34359738368)(hn:n<=549755813888)(hT:az w):
 Calls Tryz.prog 38 #[.agg #[.bool s,.string (bs l)],.int .i64 (-(n:Int))] w λe w'=>e=.returned (cn Z)/\Bw w w':=by
 rcases Nat.eq_zero_or_pos n with h|h
 . subst h;subst hZ;have:=IH s l 0 w zo zo;simpa using this
 . subst hZ;exact aaa s l n w hl h zo hT
theorem amS (v k:Nat)(h:v<2^k):tz v<=k:=by
 rcases Nat.eq_zero_or_pos v with h0|h0
 . subst h0;exact Nat.zero_le _
 . obtain⟨m,hm⟩:=ZL v h0;rcases Nat.lt_or_ge k (tz v)with h1|h1
   . exfalso
     have h2:=Nat.pow_le_pow_right (show 0<2 by decide) (Nat.le_of_lt h1);have h3:2^tz v<=2^tz v* (2*m+1):=Nat.le_mul_of_pos_right _ zo;omega
   . exact h1
theorem ZI (n:Int):tz n.natAbs=n.trailingZeros:=by
 unfold tz;rcases Int.natAbs_eq n with h|h
 . rw[<-h]
 . conv=>rhs;rw[h]
   rw[Int.trailingZeros_neg]
theorem LB (s:Bool)(l:List UInt8)(e:Int)(h:iv s l=0):ar (s,l,e)=0:=by unfold ar;simp only[h];exact vv _
theorem LA (s:Bool)(l:List UInt8)(e:Int)(h:iv s l≠0):dN (ar (s,l,e))=iv s l/2^tz (nv l)/\dE (ar (s,l,e))=e+(tz (nv l):Int):=by have:=Tc (k:=-e) h;unfold ar;rw[show tz (nv l)=(iv s l).trailingZeros by rw[<-mF s l];exact ZI _];exact⟨this.1,by rw[this.2];omega⟩
theorem vg (s:Bool)(l:List UInt8)(e:Int)(D:Dyadic)(hD:ar (s,l,e)=D)(w:World)(hl:l.length<=34359738368)(he: -1099511627776<=e/\e<=1099511627776)(hT:az w):
 Calls Tryz.prog 27 #[.agg #[.bool s,.string (bs l)],.int .i64 e] w λex w'=>ex=.returned (bH D)/\Bw w w':=by
 have nS:Hid (l.length<=1099511627776):=by show _<=_;omega
 have JY:Hid (l.length<=68719476736):=by show _<=_;omega
 by_cases h0:iv s l=0
 . have h1:=LB s l e h0;rw[hD]at h1;subst h1;clear hD;have h2:dD (iv s l)=0:=by rw[h0];rfl
   have H2:=af h2;clear h2;have Hv:Hid (bH 0=.agg #[.bool false,.string (bs []),.int .i64 0]):=rfl;go_enter Tryz.func27,Tryz.ntmps27;have Hb:Hid (Bw w w):=Below.refl _ _;go_wp2_with fail;obtain⟨R,hR⟩:∃R:World->Prop,(λW=>aj W (w.heap.size) 32 [.bool s,.string (bs l)]/\aj W (w.heap.size+1) 39 [.bool false,.string (bs []),.int .i64 0]/\Bw w W)=R:=⟨_,rfl⟩;first|refine bQ R ?hR ?_|refine bP R ?hR ?_
   case hR=>subst hR;exact⟨((aj.newAt w _ _ (b:=w.heap.size) rfl).alloc _),(aj.newAt (w.alloc _) _ _ (b:=w.heap.size+1) zm),(zl.alloc zj _)⟩
   subst hR;rintro W ⟨qx,qr,ae⟩;have Hx:=af qx;clear qx;have Hr:=af qr;clear qr;obtain⟨x0,x1⟩:=Hx.out.c2;obtain⟨r0,ag,r1,ah,r2,au⟩:=Hr.out.g3;replace Hb:=ak Hb ae;clear ae;go_wp2_with fail;refine(Dw s l _ nS.out).mono ?_;rintro e w1 ⟨rfl,ae⟩;clear x0 x1 r0 ag r1 ah r2 au;replace Hx:=kB Hx ae;replace Hr:=kB Hr ae;obtain⟨x0,x1⟩:=Hx.out.c2;obtain⟨r0,ag,r1,ah,r2,au⟩:=Hr.out.g3;replace Hb:=ak Hb ae;clear ae;rw[H2.out];go_wp2;refine bodyPost_ret (v:=.agg #[.bool false,.string (bs []),.int .i64 0]) (by simp[results,Tryz.results27,go_sem,r0,r1,r2,aeR]) rfl ⟨by rw[Hv.out],?_⟩;(repeat first|exact Hb.out| (refine Below.setCell ?_ (by have:=Hb.out.size;first| (dsimp only;omega) | (show _<=_;omega) | (simp<;>omega)) _) | (refine Below.alloc ?_ zt _) |refine Below.drew ?_)
 . obtain⟨h1,h2⟩:=LA s l e h0;rw[hD]at h1 h2;clear hD;have hg0:dD (iv s l)≠0:=by unfold dD;split<;>(try split)<;>omega
   have Hg:Hid (∃g,dD (iv s l)=g/\g≠0):=⟨_,rfl,hg0⟩;obtain⟨g,hg,hg0⟩:=Hg.out;have Hg:=af hg;clear hg;have hn:tz (nv l)<=549755813888:=Nat.le_trans (amS (nv l) (8*l.length) (by have:=eY l;rwa [show(256:Nat)=2^8 by rfl,<-Nat.pow_mul]at this)) zo;obtain⟨n,hn0⟩:=aB (tz (nv l));rw[hn0]at h1 h2 hn;have sF:=af hn0;clear hn0;obtain⟨Z,hZ⟩:=aB (dN D);obtain⟨E,hE⟩:=aB (dE D);rw[hZ]at h1;rw[hE]at h2;obtain⟨HZ,HE⟩:=aI hZ hE;clear hZ hE;have H1:=af h1.symm;clear h1;have hwn:IntKind.i64.wrap (-(n:Int))= -(n:Int):=by rw[IntKind.wrap_i64];omega
   have WH:IntKind.i64.wrap (e+(n:Int))=E:=by rw[IntKind.wrap_i64];omega
   clear h0 h2;go_enter Tryz.func27,Tryz.ntmps27;have Hb:Hid (Bw w w):=Below.refl _ _;go_wp2_with fail;obtain⟨R,hR⟩:∃R:World->Prop,(λW=>aj W (w.heap.size) 32 [.bool s,.string (bs l)]/\aj W (w.heap.size+1) 39 [.bool false,.string (bs []),.int .i64 0]/\Bw w W)=R:=⟨_,rfl⟩;first|refine bQ R ?hR ?_|refine bP R ?hR ?_
   case hR=>subst hR;exact⟨((aj.newAt w _ _ (b:=w.heap.size) rfl).alloc _),(aj.newAt (w.alloc _) _ _ (b:=w.heap.size+1) zm),(zl.alloc zj _)⟩
   subst hR;rintro W ⟨qx,qr,ae⟩;have Hx:=af qx;clear qx;have Hr:=af qr;clear qr;obtain⟨x0,x1⟩:=Hx.out.c2;obtain⟨r0,ag,r1,ah,r2,au⟩:=Hr.out.g3;replace Hb:=ak Hb ae;clear ae;go_wp2_with fail;refine(Dw s l _ nS.out).mono ?_;rintro e w1 ⟨rfl,ae⟩;clear x0 x1 r0 ag r1 ah r2 au;replace Hx:=kB Hx ae;replace Hr:=kB Hr ae;obtain⟨x0,x1⟩:=Hx.out.c2;obtain⟨r0,ag,r1,ah,r2,au⟩:=Hr.out.g3;replace Hb:=ak Hb ae;clear ae;rw[Hg.out];have HT:=af (hT.below Hb.out);go_wp2_with fail;refine(Oy l _ JY.out HT.out).mono ?_;rintro e w2 ⟨rfl,ae⟩;clear x0 x1 r0 ag r1 ah r2 au;replace Hx:=kB Hx ae;replace Hr:=kB Hr ae;obtain⟨x0,x1⟩:=Hx.out.c2;obtain⟨r0,ag,r1,ah,r2,au⟩:=Hr.out.g3;replace Hb:=ak Hb ae;clear ae;rw[sF.out];replace HT:=af (hT.below Hb.out);go_wp2_with fail;refine(al8 s l n Z H1.out _ hl hn HT.out).mono ?_;rintro e w3 ⟨rfl,ae⟩;clear x0 x1 r0 ag r1 ah r2 au;replace Hx:=kB Hx ae;replace Hr:=kB Hr ae;obtain⟨x0,x1⟩:=Hx.out.c2;obtain⟨r0,ag,r1,ah,r2,au⟩:=Hr.out.g3;replace Hb:=ak Hb ae;clear ae;go_wp2;refine bodyPost_ret (v:=.agg #[.bool (ai Z),.string (bs (nt Z.natAbs)),.int .i64 E]) (by simp[results,Tryz.results27,go_sem,r0,r1,r2]) rfl ⟨by rw[<-HZ.out,<-HE.out],?_⟩;(repeat first|exact Hb.out| (refine Below.setCell ?_ (by have:=Hb.out.size;first| (dsimp only;omega) | (show _<=_;omega) | (simp<;>omega)) _) | (refine Below.alloc ?_ zt _) |refine Below.drew ?_)
theorem Ok.len {s:Bool}{l:List UInt8}{e:Int}(h:Ok (s,l,e)):l.length<=268435456:=h.1
theorem Ok.exp {s:Bool}{l:List UInt8}{e:Int}(h:Ok (s,l,e)): -268435456<=e/\e<=268435456:=h.2
theorem pH (s:Bool)(l:List UInt8)(e:Int)(D:Dyadic)(hD:ar (s,l,e)=D)(w:World)(hx:Ok (s,l,e))(hT:az w):
 Calls Tryz.prog 111 #[.agg #[.bool s,.string (bs l),.int .i64 e]] w λex w'=>ex=.returned (bH D)/\Bw w w':=by
 have HD:=af hD;clear hD;have h1:=hx.len;have h2:=hx.exp;clear hx;have Hl:Hid (l.length<=34359738368):=by show _<=_;omega
 have He:Hid (-1099511627776<=e/\e<=1099511627776):=by show _/\_;omega
 go_enter Tryz.func111,Tryz.ntmps111;have Hb:Hid (Bw w w):=Below.refl _ _;go_wp2_with fail;obtain⟨R,hR⟩:∃R:World->Prop,(λW=>aj W (w.heap.size) 39 [.bool s,.string (bs l),.int .i64 e]/\aj W (w.heap.size+1) 39 [.bool false,.string (bs []),.int .i64 0]/\Bw w W)=R:=⟨_,rfl⟩;first|refine bQ R ?hR ?_|refine bP R ?hR ?_
 case hR=>subst hR;exact⟨((aj.newAt w _ _ (b:=w.heap.size) rfl).alloc _),(aj.newAt (w.alloc _) _ _ (b:=w.heap.size+1) zm),(zl.alloc zj _)⟩
 subst hR;rintro W ⟨qx,qr,ae⟩;have Hx:=af qx;clear qx;have Hr:=af qr;clear qr;obtain⟨x0,x1,x2⟩:=Hx.out.c3;obtain⟨r0,ag,r1,ah,r2,au⟩:=Hr.out.g3;replace Hb:=ak Hb ae;clear ae;have HT:=af (hT.below Hb.out);go_wp2_with fail;refine(vg s l e D HD.out _ Hl.out He.out HT.out).mono ?_;rintro e w1 ⟨rfl,ae⟩;clear x0 x1 x2 r0 ag r1 ah r2 au;replace Hx:=kB Hx ae;replace Hr:=kB Hr ae;obtain⟨x0,x1,x2⟩:=Hx.out.c3;obtain⟨r0,ag,r1,ah,r2,au⟩:=Hr.out.g3;replace Hb:=ak Hb ae;clear ae;go_wp2;refine bodyPost_ret (v:=bH D) (by simp[results,Tryz.results111,go_sem,r0,r1,r2]) rfl ⟨rfl,?_⟩;(repeat first|exact Hb.out| (refine Below.setCell ?_ (by have:=Hb.out.size;first| (dsimp only;omega) | (show _<=_;omega) | (simp<;>omega)) _) | (refine Below.alloc ?_ zt _) |refine Below.drew ?_)
theorem Il (s:Bool)(l:List UInt8)(e n:Int)(D:Dyadic)(hD:ar (s,l,e+n)=D)(w:World)(hx:Ok (s,l,e))(hn: -268435456<=n/\n<=268435456)(hT:az w):
 Calls Tryz.prog 24 #[.agg #[.bool s,.string (bs l),.int .i64 e],.int .i64 n] w λex w'=>ex=.returned (bH D)/\Bw w w':=by
 have h1:=hx.len;have h2:=hx.exp;clear hx;obtain⟨z,hz⟩:=aB (e+n);have WH:IntKind.i64.wrap (e+n)=z:=by rw[IntKind.wrap_i64];omega
 rw[hz]at hD;have HD:=af hD;clear hD;have Hl:Hid (l.length<=34359738368):=by show _<=_;omega
 have He:Hid (-1099511627776<=z/\z<=1099511627776):=by show _/\_;omega
 clear hz;go_enter Tryz.func24,Tryz.ntmps24;have Hb:Hid (Bw w w):=Below.refl _ _;go_wp2_with fail;obtain⟨R,hR⟩:∃R:World->Prop,(λW=>aj W (w.heap.size) 39 [.bool s,.string (bs l),.int .i64 e]/\aj W (w.heap.size+1) 39 [.bool false,.string (bs []),.int .i64 0]/\Bw w W)=R:=⟨_,rfl⟩;first|refine bQ R ?hR ?_|refine bP R ?hR ?_
 case hR=>subst hR;exact⟨((aj.newAt w _ _ (b:=w.heap.size) rfl).alloc _),(aj.newAt (w.alloc _) _ _ (b:=w.heap.size+1) zm),(zl.alloc zj _)⟩
 subst hR;rintro W ⟨qx,qr,ae⟩;have Hx:=af qx;clear qx;have Hr:=af qr;clear qr;obtain⟨x0,x1,x2⟩:=Hx.out.c3;obtain⟨r0,ag,r1,ah,r2,au⟩:=Hr.out.g3;replace Hb:=ak Hb ae;clear ae;have HT:=af (hT.below Hb.out);go_wp2_with fail;refine(vg s l z D HD.out _ Hl.out He.out HT.out).mono ?_;rintro e w1 ⟨rfl,ae⟩;clear x0 x1 x2 r0 ag r1 ah r2 au;replace Hx:=kB Hx ae;replace Hr:=kB Hr ae;obtain⟨x0,x1,x2⟩:=Hx.out.c3;obtain⟨r0,ag,r1,ah,r2,au⟩:=Hr.out.g3;replace Hb:=ak Hb ae;clear ae;go_wp2;refine bodyPost_ret (v:=bH D) (by simp[results,Tryz.results24,go_sem,r0,r1,r2]) rfl ⟨rfl,?_⟩;(repeat first|exact Hb.out| (refine Below.setCell ?_ (by have:=Hb.out.size;first| (dsimp only;omega) | (show _<=_;omega) | (simp<;>omega)) _) | (refine Below.alloc ?_ zt _) |refine Below.drew ?_)
theorem Pj (s:Bool)(l:List UInt8)(e:Int):dD (iv s l)=dD (dN (ar (s,l,e))):=by
 by_cases h0:iv s l=0
 . rw[LB s l e h0,h0,Lq]
 . rw[(LA s l e h0).1];obtain⟨q,hq⟩:(2:Int)^tz (nv l)∣iv s l:=by rw[show tz (nv l)=(iv s l).trailingZeros by rw[<-mF s l];exact ZI _];exact Int.two_pow_trailingZeros_dvd h0
   have hp:(0:Int)<2^tz (nv l):=by
    have:((2^tz (nv l):Nat):Int)>0:=by have:=Nat.pow_pos (n:=tz (nv l)) (show 0<2 by decide);omega
    simpa[Int.natCast_pow]using this
   generalize (2:Int)^tz (nv l)=p at*;rw[hq,Int.mul_ediv_cancel_left _ zo];unfold dD;rcases Int.lt_trichotomy q 0 with h|h|h
   . have:=Int.mul_neg_of_pos_of_neg hp h;simp only[h,this,if_true]
   . subst h;simp
   . have:=Int.mul_pos hp h;rw[if_neg zo,if_neg zo,if_neg zo,if_neg zo]
abbrev aP (d:Dyadic):Int:=dD (dN d)
theorem ma (s:Bool)(l:List UInt8)(e:Int)(g:Int)(hg:aP (ar (s,l,e))=g)(w:World)(hx:Ok (s,l,e)):
 Calls Tryz.prog 65 #[.agg #[.bool s,.string (bs l),.int .i64 e]] w λex w'=>ex=.returned (.int .i64 g)/\Bw w w':=by
 have h1:=hx.len;clear hx;have Hg:Hid (dD (iv s l)=g):=by show _=_;rw[<-hg];exact Pj s l e
 have Hl:Hid (l.length<=1099511627776):=by show _<=_;omega
 clear hg;go_enter Tryz.func65,Tryz.ntmps65;have Hb:Hid (Bw w w):=Below.refl _ _;go_wp2_with fail;obtain⟨R,hR⟩:∃R:World->Prop,(λW=>aj W (w.heap.size) 39 [.bool s,.string (bs l),.int .i64 e]/\Bw w W)=R:=⟨_,rfl⟩;first|refine bQ R ?hR ?_|refine bP R ?hR ?_
 case hR=>subst hR;exact⟨(aj.newAt w _ _ (b:=w.heap.size) rfl),zl⟩
 subst hR;rintro W ⟨qx,ae⟩;have Hx:=af qx;clear qx;obtain⟨x0,x1,x2⟩:=Hx.out.c3;replace Hb:=ak Hb ae;clear ae;go_wp2_with fail;refine(Dw s l _ Hl.out).mono ?_;rintro e w1 ⟨rfl,ae⟩;clear x0 x1 x2;replace Hx:=kB Hx ae;obtain⟨x0,x1,x2⟩:=Hx.out.c3;replace Hb:=ak Hb ae;clear ae;rw[Hg.out];go_wp2;go_ret;exact⟨rfl,Hb.out⟩
theorem sO (n e:Int):ar (ai n,nt n.natAbs,e)=Dyadic.ofIntWithPrec n (-e):=by unfold ar;simp only[dI]
theorem rA (n:Int)(D:Dyadic)(hD:Dyadic.ofIntWithPrec n 0=D)(w:World)(hn: -9223372036854775808<=n/\n<=9223372036854775807)(hT:az w):
 Calls Tryz.prog 28 #[.int .i64 n] w λex w'=>ex=.returned (bH D)/\Bw w w':=by
 obtain⟨N,hN⟩:=aB n;have HD:Hid (ar (ai N,nt N.natAbs,0)=D):=by show _=_;rw[sO,<-hN];exact hD
 have Hl:Hid ((nt N.natAbs).length<=34359738368):=by
  show _<=_
  exact Nat.le_trans (iq (k:=8) zo) zd
 have HN:=af hN;clear hN hD;go_enter Tryz.func28,Tryz.ntmps28;have Hb:Hid (Bw w w):=Below.refl _ _;go_wp2_with fail;obtain⟨R,hR⟩:∃R:World->Prop,(λW=>aj W (w.heap.size) 39 [.bool false,.string (bs []),.int .i64 0]/\Bw w W)=R:=⟨_,rfl⟩;first|refine bQ R ?hR ?_|refine bP R ?hR ?_
 case hR=>subst hR;exact⟨(aj.newAt w _ _ (b:=w.heap.size) rfl),zl⟩
 subst hR;rintro W ⟨qr,ae⟩;have Hr:=af qr;clear qr;obtain⟨r0,ag,r1,ah,r2,au⟩:=Hr.out.g3;replace Hb:=ak Hb ae;clear ae;go_wp2_with fail;refine(IG n N HN.out _ hn.1 hn.2).mono ?_;rintro e w1 ⟨rfl,ae⟩;clear r0 ag r1 ah r2 au;replace Hr:=kB Hr ae;obtain⟨r0,ag,r1,ah,r2,au⟩:=Hr.out.g3;replace Hb:=ak Hb ae;clear ae;have HT:=af (hT.below Hb.out);go_wp2_with fail;refine(vg (ai N) (nt N.natAbs) 0 D HD.out _ Hl.out zo HT.out).mono ?_;rintro e w2 ⟨rfl,ae⟩;clear r0 ag r1 ah r2 au;replace Hr:=kB Hr ae;obtain⟨r0,ag,r1,ah,r2,au⟩:=Hr.out.g3;replace Hb:=ak Hb ae;clear ae;go_wp2;refine bodyPost_ret (v:=bH D) (by simp[results,Tryz.results28,go_sem,r0,r1,r2]) rfl ⟨rfl,?_⟩;(repeat first|exact Hb.out| (refine Below.setCell ?_ (by have:=Hb.out.size;first| (dsimp only;omega) | (show _<=_;omega) | (simp<;>omega)) _) | (refine Below.alloc ?_ zt _) |refine Below.drew ?_)
theorem Lr (s:Bool)(l:List UInt8)(e:Int)(D:Dyadic)(hD: -ar (s,l,e)=D)(w:World)(hx:Ok (s,l,e))(hT:az w):
 Calls Tryz.prog 148 #[.agg #[.bool s,.string (bs l),.int .i64 e]] w λex w'=>ex=.returned (bH D)/\Bw w w':=by
 have h1:=hx.len;have h2:=hx.exp;clear hx;obtain⟨N,hN⟩:=aB (-(iv s l));have HD:Hid (ar (ai N,nt N.natAbs,e)=D):=by
  show _=_
  rw[sO,<-hN,<-hD];unfold ar;rw[Da]
 have Hl:Hid ((nt N.natAbs).length<=34359738368):=by show _<=_;rw[<-hN];exact CV s l _ zo
 have nS:Hid (l.length<=1099511627776):=by show _<=_;omega
 have He:Hid (-1099511627776<=e/\e<=1099511627776):=by show _/\_;omega
 have HN:=af hN;clear hN hD;go_enter Tryz.func148,Tryz.ntmps148;have Hb:Hid (Bw w w):=Below.refl _ _;go_wp2_with fail;obtain⟨R,hR⟩:∃R:World->Prop,(λW=>aj W (w.heap.size) 39 [.bool s,.string (bs l),.int .i64 e]/\aj W (w.heap.size+1) 39 [.bool false,.string (bs []),.int .i64 0]/\Bw w W)=R:=⟨_,rfl⟩;first|refine bQ R ?hR ?_|refine bP R ?hR ?_
 case hR=>subst hR;exact⟨((aj.newAt w _ _ (b:=w.heap.size) rfl).alloc _),(aj.newAt (w.alloc _) _ _ (b:=w.heap.size+1) zm),(zl.alloc zj _)⟩
 subst hR;rintro W ⟨qx,qr,ae⟩;have Hx:=af qx;clear qx;have Hr:=af qr;clear qr;obtain⟨x0,x1,x2⟩:=Hx.out.c3;obtain⟨r0,ag,r1,ah,r2,au⟩:=Hr.out.g3;replace Hb:=ak Hb ae;clear ae;refine bW (λw'=>w'.cell? ⟨w.heap.size,0,none⟩=some (.bool s)/\w'.cell? ⟨w.heap.size,1,none⟩=some (.string (bs l))/\w'.cell? ⟨w.heap.size,2,none⟩=some (.int .i64 e)) (λi=>Nat.blt i 6) [(0,true),(1,true),(3,true),(4,true),(2,false),(5,false),(6,false)] zk zk rfl zk zc ⟨x0,x1,x2⟩ ?_;iterate 4 (refine pT rfl rfl ?_ (by intro w' ⟨q0,q1,q2⟩;go_simp;try with_reducible rfl);try simp only[UU])
 refine aC rfl rfl (λK hK=>?_);go_simp;with_reducible refine(IE s l N HN.out _ nS.out).mono ?_
 rintro e w1 ⟨rfl,hq⟩;have ae:Bw W w1:=by first|exact hq|exact aM hq
 clear x0 x1 x2 r0 ag r1 ah r2 au;replace Hx:=kB Hx ae;replace Hr:=kB Hr ae;obtain⟨x0,x1,x2⟩:=Hx.out.c3;obtain⟨r0,ag,r1,ah,r2,au⟩:=Hr.out.g3;replace Hb:=ak Hb ae;clear ae;refine hK _ _ (λ_=>⟨x0,x1,x2⟩) ?_;clear hK K;try simp only[UU]
 refine aC rfl rfl (λK hK=>?_);go_simp;with_reducible refine(vg (ai N) (nt N.natAbs) e D HD.out _ Hl.out He.out (hT.below Hb.out)).mono ?_
 rintro e w2 ⟨rfl,hq⟩;have ae:Bw w1 w2:=by first|exact hq|exact aM hq
 clear x0 x1 x2 r0 ag r1 ah r2 au;replace Hx:=kB Hx ae;replace Hr:=kB Hr ae;obtain⟨x0,x1,x2⟩:=Hx.out.c3;obtain⟨r0,ag,r1,ah,r2,au⟩:=Hr.out.g3;replace Hb:=ak Hb ae;clear ae;refine hK _ _ (λ_=>⟨x0,x1,x2⟩) ?_;clear hK K;try simp only[UU]
 refine aC rfl rfl (λK hK=>?_);go_simp;refine hK _ _ (λh=>absurd h zd) ?_;clear hK K;try simp only[UU]
 clear x0 x1 x2 r0 ag r1 ah r2 au;refine bI (aY w2 (w.heap.size+1) 0 [.bool (ai (dN D)),.string (bs (nt (dN D).natAbs)),.int .i64 (dE D)]) bg ?_;intro w3 hs;replace Hx:=kS Hx hs zo;replace Hr:=bE Hr hs;obtain⟨x0,x1,x2⟩:=Hx.out.c3;obtain⟨r0,ag,r1,ah,r2,au⟩:=Hr.out.g3;replace Hb:=bS Hb hs ZS;clear hs;simp only[aV];go_wp2;refine bodyPost_ret (v:=bH D) (by simp[results,Tryz.results148,go_sem,r0,r1,r2]) rfl ⟨rfl,?_⟩;(repeat first|exact Hb.out| (refine Below.setCell ?_ (by have:=Hb.out.size;first| (dsimp only;omega) | (show _<=_;omega) | (simp<;>omega)) _) | (refine Below.alloc ?_ zt _) |refine Below.drew ?_)
theorem az.drew {w:World}(h:az w):az w.drew:=h
theorem az.alloc {w:World}(h:az w)(o:Obj):az (w.alloc o):=λj hj=>aJ (h j hj)
def lK (v k:Int):Int:=if 0<=k then v*2^k.toNat else v/2^(-k).toNat
theorem anc (s:Bool)(l:List UInt8)(k Z:Int)(hZ:lK (iv s l) k=Z)(w:World)(hl:l.length<=34359738368)(hk: -549755813888<=k/\k<=549755813888)(hT:az w):
 Calls Tryz.prog 38 #[.agg #[.bool s,.string (bs l)],.int .i64 k] w λe w'=>e=.returned (cn Z)/\Bw w w':=by
 subst hZ;unfold lK;split
 . rename_i h
   have:=IH s l k.toNat w zo zo;rw[Int.toNat_of_nonneg h]at this;exact this
 . rename_i h
   have:=aaa s l (-k).toNat w hl zo zo hT;rw[Int.toNat_of_nonneg zo,Int.neg_neg]at this;exact this
theorem zE (s:Bool)(l:List UInt8)(e g Z:Int)(hZ:lK (iv s l) (e-g)=Z)(w:World)(hl:l.length<=34359738368)(hk: -549755813888<=e-g/\e-g<=549755813888)(hT:az w):
 Calls Tryz.prog 112 #[.int .i64 g,.agg #[.bool s,.string (bs l),.int .i64 e]] w λe w'=>e=.returned (cn Z)/\Bw w w':=by
 obtain⟨k,ft⟩:=aB (e-g);have WH:IntKind.i64.wrap (e-g)=k:=by rw[IntKind.wrap_i64];omega
 rw[ft]at hZ hk;have HZ:=af hZ;clear hZ ft;go_enter Tryz.func112,Tryz.ntmps112;have Hb:Hid (Bw w w):=Below.refl _ _;go_wp2_with fail;obtain⟨R,hR⟩:∃R:World->Prop,(λW=>aj W (w.heap.size) 39 [.bool s,.string (bs l),.int .i64 e]/\aj W (w.heap.size+1) 32 [.bool false,.string (bs [])]/\Bw w W)=R:=⟨_,rfl⟩;first|refine bQ R ?hR ?_|refine bP R ?hR ?_
 case hR=>subst hR;exact⟨((aj.newAt w _ _ (b:=w.heap.size) rfl).alloc _),(aj.newAt (w.alloc _) _ _ (b:=w.heap.size+1) zm),(zl.alloc zj _)⟩
 subst hR;rintro W ⟨qx,qr,ae⟩;have Hx:=af qx;clear qx;have Hr:=af qr;clear qr;obtain⟨x0,x1,x2⟩:=Hx.out.c3;obtain⟨r0,ag,r1,ah⟩:=Hr.out.g2;replace Hb:=ak Hb ae;clear ae;have HT:=af (hT.below Hb.out);go_wp2_with fail;refine(anc s l k Z HZ.out _ hl hk HT.out).mono ?_;rintro e w1 ⟨rfl,ae⟩;clear x0 x1 x2 r0 ag r1 ah;replace Hx:=kB Hx ae;replace Hr:=kB Hr ae;obtain⟨x0,x1,x2⟩:=Hx.out.c3;obtain⟨r0,ag,r1,ah⟩:=Hr.out.g2;replace Hb:=ak Hb ae;clear ae;go_wp2;refine bodyPost_ret (v:=cn Z) (by simp[results,Tryz.results112,go_sem,r0,r1]) rfl ⟨rfl,?_⟩;(repeat first|exact Hb.out| (refine Below.setCell ?_ (by have:=Hb.out.size;first| (dsimp only;omega) | (show _<=_;omega) | (simp<;>omega)) _) | (refine Below.alloc ?_ zt _) |refine Below.drew ?_)
def rN (A B:Dyadic):Int:=if A=0 then dE B else if B=0 then dE A else min (dE A) (dE B)
theorem rT (A:Dyadic):A=Dyadic.ofIntWithPrec (dN A) (-(dE A)):=by have:=bL A;unfold ar canon at this;simp only[dI]at this;exact this.symm
theorem Yo (A:Dyadic)(g:Int)(h:A=0\/g<=dE A):A=Dyadic.ofIntWithPrec (lK (dN A) (dE A-g)) (-g):=by
 rcases h with h|h
 . subst h;have:lK (dN 0) (dE 0-g)=0:=by unfold lK;rw[Lq];split<;>simp
   rw[this,vv]
 . unfold lK;rw[if_pos zo];have:=qE (dN A) (dE A-g).toNat (-(dE A));rw[show-(dE A)+((dE A-g).toNat:Int)= -g by omega]at this;rw[this];exact rT A
theorem ajj (A B:Dyadic):(A=0\/rN A B<=dE A)/\(B=0\/rN A B<=dE B):=by
 unfold rN;split
 . exact⟨.inl ‹_›,.inr zo⟩
 . split
   . exact⟨.inr zo,.inl ‹_›⟩
   . exact⟨.inr zo,.inr zo⟩
theorem Ye {A:Dyadic}:A=0\/((nt (dN A).natAbs)≠[]/\A≠0):=by
 by_cases h:A=0
 . exact .inl h
 . refine .inr ⟨?_,h⟩;intro h2;apply h;have:(dN A).natAbs=0:=by rw[<-ir (dN A).natAbs,h2];rfl
   rw[rT A,show dN A=0 by omega,vv]
theorem Ok.parts {x:Raw}(h:Ok x):(nt (dN (ar x)).natAbs).length<=1073741824/\ -4294967296<=dE (ar x)/\dE (ar x)<=4294967296:=by obtain⟨B,hB,hs⟩:∃B,B<=4294967296/\Sm B (ar x):=⟨4294967296,Nat.le_refl _,h.sm⟩;obtain⟨h1,h2,h3⟩:=hs.parts;exact⟨iB h1 zo,by clear h1;omega,by clear h1;omega⟩
theorem Xf (s:Bool)(l:List UInt8)(e:Int)(t:Bool)(m:List UInt8)(f:Int)(A B:Dyadic)(hA:ar (s,l,e)=A)(hB:ar (t,m,f)=B)(g X Y:Int)(hg:rN A B=g)(hX:lK (dN A) (dE A-g)=X)(hY:lK (dN B) (dE B-g)=Y)
 (w:World) (hx:Ok (s,l,e)) (hy:Ok (t,m,f)) (hT:az w):
 Calls Tryz.prog 66 #[.agg #[.bool s,.string (bs l),.int .i64 e],.agg #[.bool t,.string (bs m),.int .i64 f]] w λex w'=>ex=.returned (.agg #[.int .i64 g,.bool (ai X),.string (bs (nt X.natAbs)),.bool (ai Y),.string (bs (nt Y.natAbs))])/\Bw w w':=by
 have pA:=hx.parts;rw[hA]at pA;have pB:=hy.parts;rw[hB]at pB;obtain⟨HA,HB⟩:=aI hA hB;clear hA hB;obtain⟨a,ha⟩:=aB (nt (dN A).natAbs);obtain⟨p,hp⟩:=aB (ai (dN A));obtain⟨i,hi⟩:=aB (dE A);obtain⟨b,hb⟩:=aB (nt (dN B).natAbs);obtain⟨q,hq⟩:=aB (ai (dN B));obtain⟨j,hj⟩:=aB (dE B);have ou:lK (iv p a) (i-g)=X:=by rw[<-hp,<-ha,dI,<-hi];exact hX
 have Ux:lK (iv q b) (j-g)=Y:=by rw[<-hq,<-hb,dI,<-hj];exact hY
 have QR:Hid (∀W,az W->Calls Tryz.prog 111 #[.agg #[.bool s,.string (bs l),.int .i64 e]] W λex w'=>ex=.returned (.agg #[.bool p,.string (bs a),.int .i64 i])/\Bw W w'):=by intro W hW;rw[<-hp,<-ha,<-hi];exact pH s l e A HA.out W hx hW
 have QS:Hid (∀W,az W->Calls Tryz.prog 111 #[.agg #[.bool t,.string (bs m),.int .i64 f]] W λex w'=>ex=.returned (.agg #[.bool q,.string (bs b),.int .i64 j])/\Bw W w'):=by intro W hW;rw[<-hq,<-hb,<-hj];exact pH t m f B HB.out W hy hW
 have hlv:(A=0/\g=j)\/(A≠0/\B=0/\g=i)\/(A≠0/\B≠0/\g=min i j):=by
  rw[<-hg];unfold rN;by_cases h1:A=0
  . simp[h1,hj]
  . by_cases h2:B=0<;>simp[h1,h2,hi,hj]
 rw[ha,hi]at pA;rw[hb,hj]at pB;have zA:A=0->(p=false/\a=[]/\i=0):=by rintro rfl;exact⟨hp.symm,ha.symm,hi.symm⟩
 have zB:B=0->(q=false/\b=[]/\j=0):=by rintro rfl;exact⟨hq.symm,hb.symm,hj.symm⟩
 have nA:A≠0->a≠[]:=by intro h;rw[<-ha];rcases Ye (A:=A)with h2|h2;exact absurd h2 h;exact h2.1
 have nB:B≠0->b≠[]:=by intro h;rw[<-hb];rcases Ye (A:=B)with h2|h2;exact absurd h2 h;exact h2.1
 have Vp: -549755813888<=i-g/\i-g<=549755813888:=by rcases hlv with⟨_,h⟩ |⟨_,_,h⟩ |⟨_,_,h⟩<;>omega
 have Vq: -549755813888<=j-g/\j-g<=549755813888:=by rcases hlv with⟨_,h⟩ |⟨_,_,h⟩ |⟨_,_,h⟩<;>omega
 obtain⟨HX,HY⟩:=aI ou Ux;have La:Hid (a.length<=34359738368):=by show _<=_;omega
 have Lb:Hid (b.length<=34359738368):=by show _<=_;omega
 obtain⟨JS,JU⟩:=aI Vp Vq;clear ou Ux hX hY hg ha hp hi hb hq hj Vp Vq HA HB hx hy;go_enter Tryz.func66,Tryz.ntmps66;have Hb:Hid (Bw w w):=Below.refl _ _;go_wp2_with fail;obtain⟨R,hR⟩:∃R:World->Prop,(λW=>aj W (w.heap.size) 39 [.bool s,.string (bs l),.int .i64 e]/\aj W (w.heap.size+1) 39 [.bool t,.string (bs m),.int .i64 f]/\aj W (w.heap.size+1+1) 100 [.int .i64 0,.bool false,.string (bs []),.bool false,.string (bs [])]/\Bw w W)=R:=⟨_,rfl⟩;first|refine bQ R ?hR ?_|refine bP R ?hR ?_
 case hR=>subst hR;exact⟨(((aj.newAt w _ _ (b:=w.heap.size) rfl).alloc _).alloc _),((aj.newAt (w.alloc _) _ _ (b:=w.heap.size+1) zm).alloc _),(aj.newAt ((w.alloc _).alloc _) _ _ (b:=w.heap.size+1+1) zm),((zl.alloc zj _).alloc zj _)⟩
 subst hR;rintro W ⟨qx,qy,qr,ae⟩;have Hx:=af qx;clear qx;have Hy:=af qy;clear qy;have Hr:=af qr;clear qr;obtain⟨x0,aK,x1,aL,x2,aN⟩:=Hx.out.g3;obtain⟨y0,aQ,y1,aR,y2,aS⟩:=Hy.out.g3;obtain⟨r0,ag,r1,ah,r2,au,r3,bu,r4,bD⟩:=Hr.out.g5;replace Hb:=ak Hb ae;clear ae;have HT:=af (hT.below Hb.out);refine bW (λw'=>w'.cell? ⟨w.heap.size,0,none⟩=some (.bool s)/\w'.cell? ⟨w.heap.size,1,none⟩=some (.string (bs l))/\w'.cell? ⟨w.heap.size,2,none⟩=some (.int .i64 e)/\w'.cell? ⟨w.heap.size+1,0,none⟩=some (.bool t)/\w'.cell? ⟨w.heap.size+1,1,none⟩=some (.string (bs m))/\w'.cell? ⟨w.heap.size+1,2,none⟩=some (.int .i64 f)) (λi=>Nat.blt i 4) [(0,true),(2,true),(1,false),(3,false),(4,false),(5,false)] zk zk rfl zk zc ⟨x0,x1,x2,y0,y1,y2⟩ ?_;iterate 2 (refine pT rfl rfl ?_ (by intro w' ⟨q0,q1,q2,q3,q4,q5⟩;go_simp;try with_reducible rfl);try simp only[UU])
 refine aC rfl rfl (λK hK=>?_);go_simp;with_reducible refine(QR.out _ (by first|exact HT.out|exact az.drew HT.out|exact az.alloc HT.out _|exact az.drew (az.alloc HT.out _) |exact az.alloc (az.drew HT.out) _)).mono ?_
 rintro e w1 ⟨rfl,hq⟩;have ae:Bw W w1:=by first|exact hq|exact aM hq
 clear x0 aK x1 aL x2 aN y0 aQ y1 aR y2 aS r0 ag r1 ah r2 au r3 bu r4 bD;replace Hx:=kB Hx ae;replace Hy:=kB Hy ae;replace Hr:=kB Hr ae;obtain⟨x0,aK,x1,aL,x2,aN⟩:=Hx.out.g3;obtain⟨y0,aQ,y1,aR,y2,aS⟩:=Hy.out.g3;obtain⟨r0,ag,r1,ah,r2,au,r3,bu,r4,bD⟩:=Hr.out.g5;replace Hb:=ak Hb ae;clear ae;refine hK _ _ (λ_=>⟨x0,x1,x2,y0,y1,y2⟩) ?_;clear hK K;try simp only[UU]
 refine aC rfl rfl (λK hK=>?_);go_simp;with_reducible refine(QS.out _ (by first|exact(hT.below Hb.out) |exact az.drew (hT.below Hb.out) |exact az.alloc (hT.below Hb.out) _|exact az.drew (az.alloc (hT.below Hb.out) _) |exact az.alloc (az.drew (hT.below Hb.out)) _)).mono ?_
 rintro e w2 ⟨rfl,hq⟩;have ae:Bw w1 w2:=by first|exact hq|exact aM hq
 clear x0 aK x1 aL x2 aN y0 aQ y1 aR y2 aS r0 ag r1 ah r2 au r3 bu r4 bD;replace Hx:=kB Hx ae;replace Hy:=kB Hy ae;replace Hr:=kB Hr ae;obtain⟨x0,aK,x1,aL,x2,aN⟩:=Hx.out.g3;obtain⟨y0,aQ,y1,aR,y2,aS⟩:=Hy.out.g3;obtain⟨r0,ag,r1,ah,r2,au,r3,bu,r4,bD⟩:=Hr.out.g5;replace Hb:=ak Hb ae;clear ae;refine hK _ _ (λ_=>⟨x0,x1,x2,y0,y1,y2⟩) ?_;clear hK K;try simp only[UU]
 refine aC rfl rfl (λK hK=>?_);go_simp;refine hK _ _ (λh=>absurd h zd) ?_;clear hK K;try simp only[UU]
 clear x0 aK x1 aL x2 aN y0 aQ y1 aR y2 aS r0 ag r1 ah r2 au r3 bu r4 bD;refine bI (aY w2 (w.heap.size) 0 [.bool p,.string (bs a),.int .i64 i]) bg ?_;intro w3 hs;replace Hx:=bE Hx hs;replace Hy:=kS Hy hs zo;replace Hr:=kS Hr hs zo;obtain⟨x0,aK,x1,aL,x2,aN⟩:=Hx.out.g3;obtain⟨y0,aQ,y1,aR,y2,aS⟩:=Hy.out.g3;obtain⟨r0,ag,r1,ah,r2,au,r3,bu,r4,bD⟩:=Hr.out.g5;replace Hb:=bS Hb hs ZS;clear hs;refine aC rfl rfl (λK hK=>?_);go_simp;refine hK _ _ (λh=>absurd h zd) ?_;clear hK K;try simp only[UU]
 clear x0 aK x1 aL x2 aN y0 aQ y1 aR y2 aS r0 ag r1 ah r2 au r3 bu r4 bD;refine bI (aY w3 (w.heap.size+1) 0 [.bool q,.string (bs b),.int .i64 j]) bg ?_;intro w4 hs;replace Hx:=kS Hx hs zo;replace Hy:=bE Hy hs;replace Hr:=kS Hr hs zo;obtain⟨x0,aK,x1,aL,x2,aN⟩:=Hx.out.g3;obtain⟨y0,aQ,y1,aR,y2,aS⟩:=Hy.out.g3;obtain⟨r0,ag,r1,ah,r2,au,r3,bu,r4,bD⟩:=Hr.out.g5;replace Hb:=bS Hb hs ZS;clear hs;simp only[aV];have AP:=Hr;clear x0 x1 x2 aK aL aN y0 y1 y2 aQ aR aS r0 r1 r2 r3 r4 ag ah au bu bD HT QR QS;rcases hlv with⟨h1,h2⟩ |⟨h1,h3,h2⟩ |⟨h1,h3,h2⟩
 . obtain⟨rfl,rfl,rfl⟩:=zA h1;subst h2;have z1:(bs []).toList=[]:=ju _;clear zA zB nA nB pA pB;obtain⟨x0,aK,x1,aL,x2,aN⟩:=Hx.out.g3;obtain⟨y0,aQ,y1,aR,y2,aS⟩:=Hy.out.g3;obtain⟨r0,ag,r1,ah,r2,au,r3,bu,r4,bD⟩:=Hr.out.g5;have XC:=Hx.out.lt;have XD:=Hy.out.lt;have GP:=Hr.out.lt;go_wp2_with fail;obtain⟨R,hR⟩:∃R:World->Prop,(λW5=>aj W5 (w4.heap.size) 100 [.int .i64 g,.bool false,.string (bs []),.bool false,.string (bs [])]/\Bw w4 W5)=R:=⟨_,rfl⟩;first|refine bQ R ?hR ?_|refine bP R ?hR ?_
   case hR=>subst hR;exact⟨(aj.newAt w4 _ _ (b:=w4.heap.size) rfl),zl⟩
   subst hR;rintro W5 ⟨qn,ae⟩;have Hn:=af qn;clear qn x0 aK x1 aL x2 aN;replace Hx:=kB Hx ae;obtain⟨x0,aK,x1,aL,x2,aN⟩:=Hx.out.g3;clear y0 aQ y1 aR y2 aS;replace Hy:=kB Hy ae;obtain⟨y0,aQ,y1,aR,y2,aS⟩:=Hy.out.g3;clear r0 ag r1 ah r2 au r3 bu r4 bD;replace Hr:=kB Hr ae;obtain⟨r0,ag,r1,ah,r2,au,r3,bu,r4,bD⟩:=Hr.out.g5;obtain⟨n0,eV,n1,eW,n2,eX,n3,fK,n4,fL⟩:=Hn.out.g5;replace Hb:=ak Hb ae;clear ae;have hns:w.heap.size+1+1<w4.heap.size:=AP.out.lt;refine bW (λw'=>w'.cell? ⟨w.heap.size,0,none⟩=some (.bool false)/\w'.cell? ⟨w.heap.size,1,none⟩=some (.string (bs []))/\w'.cell? ⟨w.heap.size,2,none⟩=some (.int .i64 0)/\w'.cell? ⟨w.heap.size+1,0,none⟩=some (.bool q)/\w'.cell? ⟨w.heap.size+1,1,none⟩=some (.string (bs b))/\w'.cell? ⟨w.heap.size+1,2,none⟩=some (.int .i64 g)/\w'.cell? ⟨w4.heap.size,0,none⟩=some (.int .i64 g)) (λi=>Nat.blt i 11) [(0,true),(1,true),(2,true),(4,true),(5,true),(6,true),(3,false),(8,true),(7,false),(9,false),(10,true),(11,false)] zk zk rfl zk zc ⟨x0,x1,x2,y0,y1,y2,n0⟩ ?_;iterate 6 (refine pT rfl rfl ?_ (by intro w' ⟨q0,q1,q2,q3,q4,q5,q6⟩;go_simp;try with_reducible rfl);try simp only[UU])
   refine aC rfl rfl (λK hK=>?_);go_simp;with_reducible refine(zE false [] 0 g X HX.out _ La.out JS.out (by first|exact(hT.below Hb.out) |exact az.drew (hT.below Hb.out) |exact az.alloc (hT.below Hb.out) _|exact az.drew (az.alloc (hT.below Hb.out) _) |exact az.alloc (az.drew (hT.below Hb.out)) _)).mono ?_
   rintro e w6 ⟨rfl,hq⟩;have ae:Bw W5 w6:=by first|exact hq|exact aM hq
   clear x0 aK x1 aL x2 aN y0 aQ y1 aR y2 aS r0 ag r1 ah r2 au r3 bu r4 bD n0 eV n1 eW n2 eX n3 fK n4 fL;replace Hx:=kB Hx ae;replace Hy:=kB Hy ae;replace Hr:=kB Hr ae;replace Hn:=kB Hn ae;obtain⟨x0,aK,x1,aL,x2,aN⟩:=Hx.out.g3;obtain⟨y0,aQ,y1,aR,y2,aS⟩:=Hy.out.g3;obtain⟨r0,ag,r1,ah,r2,au,r3,bu,r4,bD⟩:=Hr.out.g5;obtain⟨n0,eV,n1,eW,n2,eX,n3,fK,n4,fL⟩:=Hn.out.g5;replace Hb:=ak Hb ae;clear ae;refine hK _ _ (λ_=>⟨x0,x1,x2,y0,y1,y2,n0⟩) ?_;clear hK K;try simp only[UU]
   refine pT rfl rfl ?_;try simp only[UU]
   refine aC rfl rfl (λK hK=>?_);go_simp;with_reducible refine(zE q b g g Y HY.out _ Lb.out JU.out (by first|exact(hT.below Hb.out) |exact az.drew (hT.below Hb.out) |exact az.alloc (hT.below Hb.out) _|exact az.drew (az.alloc (hT.below Hb.out) _) |exact az.alloc (az.drew (hT.below Hb.out)) _)).mono ?_
   rintro e w7 ⟨rfl,hq⟩;have ae:Bw w6 w7:=by first|exact hq|exact aM hq
   clear x0 aK x1 aL x2 aN y0 aQ y1 aR y2 aS r0 ag r1 ah r2 au r3 bu r4 bD n0 eV n1 eW n2 eX n3 fK n4 fL;replace Hx:=kB Hx ae;replace Hy:=kB Hy ae;replace Hr:=kB Hr ae;replace Hn:=kB Hn ae;obtain⟨x0,aK,x1,aL,x2,aN⟩:=Hx.out.g3;obtain⟨y0,aQ,y1,aR,y2,aS⟩:=Hy.out.g3;obtain⟨r0,ag,r1,ah,r2,au,r3,bu,r4,bD⟩:=Hr.out.g5;obtain⟨n0,eV,n1,eW,n2,eX,n3,fK,n4,fL⟩:=Hn.out.g5;replace Hb:=ak Hb ae;clear ae;refine hK _ _ (λ_=>⟨x0,x1,x2,y0,y1,y2,n0⟩) ?_;clear hK K;try simp only[UU]
   refine aC rfl rfl (λK hK=>?_);go_simp;refine hK _ _ (λ_=>⟨(aG zf (aG zf x0)),(aG zf (aG zf x1)),(aG zf (aG zf x2)),(aG zf (aG zf y0)),(aG zf (aG zf y1)),(aG zf (aG zf y2)),(aG zf (aG zf n0))⟩) ?_;clear hK K;try simp only[UU]
   clear x0 aK x1 aL x2 aN y0 aQ y1 aR y2 aS r0 ag r1 ah r2 au r3 bu r4 bD n0 eV n1 eW n2 eX n3 fK n4 fL;refine bI (aY w7 (w4.heap.size) 1 [.bool (ai X),.string (bs (nt X.natAbs))]) bg ?_;intro w8 hs;replace Hx:=kS Hx hs zo;replace Hy:=kS Hy hs zo;replace Hr:=kS Hr hs zo;replace Hn:Hid (aj w8 (w4.heap.size) 100 [.int .i64 g,.bool (ai X),.string (bs (nt X.natAbs)),.bool false,.string (bs [])]):=xa Hn hs;obtain⟨x0,aK,x1,aL,x2,aN⟩:=Hx.out.g3;obtain⟨y0,aQ,y1,aR,y2,aS⟩:=Hy.out.g3;obtain⟨r0,ag,r1,ah,r2,au,r3,bu,r4,bD⟩:=Hr.out.g5;obtain⟨n0,eV,n1,eW,n2,eX,n3,fK,n4,fL⟩:=Hn.out.g5;replace Hb:=bS Hb hs ZS;clear hs;refine pT rfl rfl ?_;try simp only[UU]
   refine aC rfl rfl (λK hK=>?_);go_simp;refine hK _ _ (λh=>absurd h zd) ?_;clear hK K;try simp only[UU]
   clear x0 aK x1 aL x2 aN y0 aQ y1 aR y2 aS r0 ag r1 ah r2 au r3 bu r4 bD n0 eV n1 eW n2 eX n3 fK n4 fL;refine bI (aY w8 (w4.heap.size) 3 [.bool (ai Y),.string (bs (nt Y.natAbs))]) bg ?_;intro w9 hs;replace Hx:=kS Hx hs zo;replace Hy:=kS Hy hs zo;replace Hr:=kS Hr hs zo;replace Hn:Hid (aj w9 (w4.heap.size) 100 [.int .i64 g,.bool (ai X),.string (bs (nt X.natAbs)),.bool (ai Y),.string (bs (nt Y.natAbs))]):=xa Hn hs;obtain⟨x0,aK,x1,aL,x2,aN⟩:=Hx.out.g3;obtain⟨y0,aQ,y1,aR,y2,aS⟩:=Hy.out.g3;obtain⟨r0,ag,r1,ah,r2,au,r3,bu,r4,bD⟩:=Hr.out.g5;obtain⟨n0,eV,n1,eW,n2,eX,n3,fK,n4,fL⟩:=Hn.out.g5;replace Hb:=bS Hb hs ZS;clear hs;simp only[aV];go_wp2;refine bodyPost_ret (v:=.agg #[.int .i64 g,.bool (ai X),.string (bs (nt X.natAbs)),.bool (ai Y),.string (bs (nt Y.natAbs))]) (by simp[results,Tryz.results66,go_sem,r0,r1,r2,r3,r4]) rfl ⟨rfl,?_⟩;(repeat first|exact Hb.out| (refine Below.setCell ?_ (by have:=Hb.out.size;first| (dsimp only;omega) | (show _<=_;omega) | (simp<;>omega)) _) | (refine Below.alloc ?_ zt _) |refine Below.drew ?_)
 . obtain⟨rfl,rfl,rfl⟩:=zB h3;subst h2;have z1:(bs []).toList=[]:=ju _;have z2:¬(bs a).toList=[]:=by rw[ju];exact nA h1
   clear zA zB nA nB pA pB;obtain⟨x0,aK,x1,aL,x2,aN⟩:=Hx.out.g3;obtain⟨y0,aQ,y1,aR,y2,aS⟩:=Hy.out.g3;obtain⟨r0,ag,r1,ah,r2,au,r3,bu,r4,bD⟩:=Hr.out.g5;have XC:=Hx.out.lt;have XD:=Hy.out.lt;have GP:=Hr.out.lt;go_wp2_with fail;obtain⟨R,hR⟩:∃R:World->Prop,(λW5=>aj W5 (w4.heap.size) 100 [.int .i64 g,.bool false,.string (bs []),.bool false,.string (bs [])]/\Bw w4 W5)=R:=⟨_,rfl⟩;first|refine bQ R ?hR ?_|refine bP R ?hR ?_
   case hR=>subst hR;exact⟨(aj.newAt w4 _ _ (b:=w4.heap.size) rfl),zl⟩
   subst hR;rintro W5 ⟨qn,ae⟩;have Hn:=af qn;clear qn x0 aK x1 aL x2 aN;replace Hx:=kB Hx ae;obtain⟨x0,aK,x1,aL,x2,aN⟩:=Hx.out.g3;clear y0 aQ y1 aR y2 aS;replace Hy:=kB Hy ae;obtain⟨y0,aQ,y1,aR,y2,aS⟩:=Hy.out.g3;clear r0 ag r1 ah r2 au r3 bu r4 bD;replace Hr:=kB Hr ae;obtain⟨r0,ag,r1,ah,r2,au,r3,bu,r4,bD⟩:=Hr.out.g5;obtain⟨n0,eV,n1,eW,n2,eX,n3,fK,n4,fL⟩:=Hn.out.g5;replace Hb:=ak Hb ae;clear ae;have hns:w.heap.size+1+1<w4.heap.size:=AP.out.lt;refine bW (λw'=>w'.cell? ⟨w.heap.size,0,none⟩=some (.bool p)/\w'.cell? ⟨w.heap.size,1,none⟩=some (.string (bs a))/\w'.cell? ⟨w.heap.size,2,none⟩=some (.int .i64 g)/\w'.cell? ⟨w.heap.size+1,0,none⟩=some (.bool false)/\w'.cell? ⟨w.heap.size+1,1,none⟩=some (.string (bs []))/\w'.cell? ⟨w.heap.size+1,2,none⟩=some (.int .i64 0)/\w'.cell? ⟨w4.heap.size,0,none⟩=some (.int .i64 g)) (λi=>Nat.blt i 11) [(0,true),(1,true),(2,true),(4,true),(5,true),(6,true),(3,false),(8,true),(7,false),(9,false),(10,true),(11,false)] zk zk rfl zk zc ⟨x0,x1,x2,y0,y1,y2,n0⟩ ?_;iterate 6 (refine pT rfl rfl ?_ (by intro w' ⟨q0,q1,q2,q3,q4,q5,q6⟩;go_simp;try with_reducible rfl);try simp only[UU])
   refine aC rfl rfl (λK hK=>?_);go_simp;with_reducible refine(zE p a g g X HX.out _ La.out JS.out (by first|exact(hT.below Hb.out) |exact az.drew (hT.below Hb.out) |exact az.alloc (hT.below Hb.out) _|exact az.drew (az.alloc (hT.below Hb.out) _) |exact az.alloc (az.drew (hT.below Hb.out)) _)).mono ?_
   rintro e w6 ⟨rfl,hq⟩;have ae:Bw W5 w6:=by first|exact hq|exact aM hq
   clear x0 aK x1 aL x2 aN y0 aQ y1 aR y2 aS r0 ag r1 ah r2 au r3 bu r4 bD n0 eV n1 eW n2 eX n3 fK n4 fL;replace Hx:=kB Hx ae;replace Hy:=kB Hy ae;replace Hr:=kB Hr ae;replace Hn:=kB Hn ae;obtain⟨x0,aK,x1,aL,x2,aN⟩:=Hx.out.g3;obtain⟨y0,aQ,y1,aR,y2,aS⟩:=Hy.out.g3;obtain⟨r0,ag,r1,ah,r2,au,r3,bu,r4,bD⟩:=Hr.out.g5;obtain⟨n0,eV,n1,eW,n2,eX,n3,fK,n4,fL⟩:=Hn.out.g5;replace Hb:=ak Hb ae;clear ae;refine hK _ _ (λ_=>⟨x0,x1,x2,y0,y1,y2,n0⟩) ?_;clear hK K;try simp only[UU]
   refine pT rfl rfl ?_;try simp only[UU]
   refine aC rfl rfl (λK hK=>?_);go_simp;with_reducible refine(zE false [] 0 g Y HY.out _ Lb.out JU.out (by first|exact(hT.below Hb.out) |exact az.drew (hT.below Hb.out) |exact az.alloc (hT.below Hb.out) _|exact az.drew (az.alloc (hT.below Hb.out) _) |exact az.alloc (az.drew (hT.below Hb.out)) _)).mono ?_
   rintro e w7 ⟨rfl,hq⟩;have ae:Bw w6 w7:=by first|exact hq|exact aM hq
   clear x0 aK x1 aL x2 aN y0 aQ y1 aR y2 aS r0 ag r1 ah r2 au r3 bu r4 bD n0 eV n1 eW n2 eX n3 fK n4 fL;replace Hx:=kB Hx ae;replace Hy:=kB Hy ae;replace Hr:=kB Hr ae;replace Hn:=kB Hn ae;obtain⟨x0,aK,x1,aL,x2,aN⟩:=Hx.out.g3;obtain⟨y0,aQ,y1,aR,y2,aS⟩:=Hy.out.g3;obtain⟨r0,ag,r1,ah,r2,au,r3,bu,r4,bD⟩:=Hr.out.g5;obtain⟨n0,eV,n1,eW,n2,eX,n3,fK,n4,fL⟩:=Hn.out.g5;replace Hb:=ak Hb ae;clear ae;refine hK _ _ (λ_=>⟨x0,x1,x2,y0,y1,y2,n0⟩) ?_;clear hK K;try simp only[UU]
   refine aC rfl rfl (λK hK=>?_);go_simp;refine hK _ _ (λ_=>⟨(aG zf (aG zf x0)),(aG zf (aG zf x1)),(aG zf (aG zf x2)),(aG zf (aG zf y0)),(aG zf (aG zf y1)),(aG zf (aG zf y2)),(aG zf (aG zf n0))⟩) ?_;clear hK K;try simp only[UU]
   clear x0 aK x1 aL x2 aN y0 aQ y1 aR y2 aS r0 ag r1 ah r2 au r3 bu r4 bD n0 eV n1 eW n2 eX n3 fK n4 fL;refine bI (aY w7 (w4.heap.size) 1 [.bool (ai X),.string (bs (nt X.natAbs))]) bg ?_;intro w8 hs;replace Hx:=kS Hx hs zo;replace Hy:=kS Hy hs zo;replace Hr:=kS Hr hs zo;replace Hn:Hid (aj w8 (w4.heap.size) 100 [.int .i64 g,.bool (ai X),.string (bs (nt X.natAbs)),.bool false,.string (bs [])]):=xa Hn hs;obtain⟨x0,aK,x1,aL,x2,aN⟩:=Hx.out.g3;obtain⟨y0,aQ,y1,aR,y2,aS⟩:=Hy.out.g3;obtain⟨r0,ag,r1,ah,r2,au,r3,bu,r4,bD⟩:=Hr.out.g5;obtain⟨n0,eV,n1,eW,n2,eX,n3,fK,n4,fL⟩:=Hn.out.g5;replace Hb:=bS Hb hs ZS;clear hs;refine pT rfl rfl ?_;try simp only[UU]
   refine aC rfl rfl (λK hK=>?_);go_simp;refine hK _ _ (λh=>absurd h zd) ?_;clear hK K;try simp only[UU]
   clear x0 aK x1 aL x2 aN y0 aQ y1 aR y2 aS r0 ag r1 ah r2 au r3 bu r4 bD n0 eV n1 eW n2 eX n3 fK n4 fL;refine bI (aY w8 (w4.heap.size) 3 [.bool (ai Y),.string (bs (nt Y.natAbs))]) bg ?_;intro w9 hs;replace Hx:=kS Hx hs zo;replace Hy:=kS Hy hs zo;replace Hr:=kS Hr hs zo;replace Hn:Hid (aj w9 (w4.heap.size) 100 [.int .i64 g,.bool (ai X),.string (bs (nt X.natAbs)),.bool (ai Y),.string (bs (nt Y.natAbs))]):=xa Hn hs;obtain⟨x0,aK,x1,aL,x2,aN⟩:=Hx.out.g3;obtain⟨y0,aQ,y1,aR,y2,aS⟩:=Hy.out.g3;obtain⟨r0,ag,r1,ah,r2,au,r3,bu,r4,bD⟩:=Hr.out.g5;obtain⟨n0,eV,n1,eW,n2,eX,n3,fK,n4,fL⟩:=Hn.out.g5;replace Hb:=bS Hb hs ZS;clear hs;simp only[aV];go_wp2;refine bodyPost_ret (v:=.agg #[.int .i64 g,.bool (ai X),.string (bs (nt X.natAbs)),.bool (ai Y),.string (bs (nt Y.natAbs))]) (by simp[results,Tryz.results66,go_sem,r0,r1,r2,r3,r4]) rfl ⟨rfl,?_⟩;(repeat first|exact Hb.out| (refine Below.setCell ?_ (by have:=Hb.out.size;first| (dsimp only;omega) | (show _<=_;omega) | (simp<;>omega)) _) | (refine Below.alloc ?_ zt _) |refine Below.drew ?_)
 . have z1:¬(bs b).toList=[]:=by rw[ju];exact nB h3
   have z2:¬(bs a).toList=[]:=by rw[ju];exact nA h1
   have z3:min i j=g:=h2.symm;clear zA zB nA nB pA pB h2;obtain⟨x0,aK,x1,aL,x2,aN⟩:=Hx.out.g3;obtain⟨y0,aQ,y1,aR,y2,aS⟩:=Hy.out.g3;obtain⟨r0,ag,r1,ah,r2,au,r3,bu,r4,bD⟩:=Hr.out.g5;have XC:=Hx.out.lt;have XD:=Hy.out.lt;have GP:=Hr.out.lt;go_wp2_with fail;obtain⟨R,hR⟩:∃R:World->Prop,(λW5=>aj W5 (w4.heap.size) 100 [.int .i64 g,.bool false,.string (bs []),.bool false,.string (bs [])]/\Bw w4 W5)=R:=⟨_,rfl⟩;first|refine bQ R ?hR ?_|refine bP R ?hR ?_
   case hR=>subst hR;exact⟨(aj.newAt w4 _ _ (b:=w4.heap.size) rfl),zl⟩
   subst hR;rintro W5 ⟨qn,ae⟩;have Hn:=af qn;clear qn x0 aK x1 aL x2 aN;replace Hx:=kB Hx ae;obtain⟨x0,aK,x1,aL,x2,aN⟩:=Hx.out.g3;clear y0 aQ y1 aR y2 aS;replace Hy:=kB Hy ae;obtain⟨y0,aQ,y1,aR,y2,aS⟩:=Hy.out.g3;clear r0 ag r1 ah r2 au r3 bu r4 bD;replace Hr:=kB Hr ae;obtain⟨r0,ag,r1,ah,r2,au,r3,bu,r4,bD⟩:=Hr.out.g5;obtain⟨n0,eV,n1,eW,n2,eX,n3,fK,n4,fL⟩:=Hn.out.g5;replace Hb:=ak Hb ae;clear ae;have hns:w.heap.size+1+1<w4.heap.size:=AP.out.lt;refine bW (λw'=>w'.cell? ⟨w.heap.size,0,none⟩=some (.bool p)/\w'.cell? ⟨w.heap.size,1,none⟩=some (.string (bs a))/\w'.cell? ⟨w.heap.size,2,none⟩=some (.int .i64 i)/\w'.cell? ⟨w.heap.size+1,0,none⟩=some (.bool q)/\w'.cell? ⟨w.heap.size+1,1,none⟩=some (.string (bs b))/\w'.cell? ⟨w.heap.size+1,2,none⟩=some (.int .i64 j)/\w'.cell? ⟨w4.heap.size,0,none⟩=some (.int .i64 g)) (λi=>Nat.blt i 11) [(0,true),(1,true),(2,true),(4,true),(5,true),(6,true),(3,false),(8,true),(7,false),(9,false),(10,true),(11,false)] zk zk rfl zk zc ⟨x0,x1,x2,y0,y1,y2,n0⟩ ?_;iterate 6 (refine pT rfl rfl ?_ (by intro w' ⟨q0,q1,q2,q3,q4,q5,q6⟩;go_simp;try with_reducible rfl);try simp only[UU])
   refine aC rfl rfl (λK hK=>?_);go_simp;with_reducible refine(zE p a i g X HX.out _ La.out JS.out (by first|exact(hT.below Hb.out) |exact az.drew (hT.below Hb.out) |exact az.alloc (hT.below Hb.out) _|exact az.drew (az.alloc (hT.below Hb.out) _) |exact az.alloc (az.drew (hT.below Hb.out)) _)).mono ?_
   rintro e w6 ⟨rfl,hq⟩;have ae:Bw W5 w6:=by first|exact hq|exact aM hq
   clear x0 aK x1 aL x2 aN y0 aQ y1 aR y2 aS r0 ag r1 ah r2 au r3 bu r4 bD n0 eV n1 eW n2 eX n3 fK n4 fL;replace Hx:=kB Hx ae;replace Hy:=kB Hy ae;replace Hr:=kB Hr ae;replace Hn:=kB Hn ae;obtain⟨x0,aK,x1,aL,x2,aN⟩:=Hx.out.g3;obtain⟨y0,aQ,y1,aR,y2,aS⟩:=Hy.out.g3;obtain⟨r0,ag,r1,ah,r2,au,r3,bu,r4,bD⟩:=Hr.out.g5;obtain⟨n0,eV,n1,eW,n2,eX,n3,fK,n4,fL⟩:=Hn.out.g5;replace Hb:=ak Hb ae;clear ae;refine hK _ _ (λ_=>⟨x0,x1,x2,y0,y1,y2,n0⟩) ?_;clear hK K;try simp only[UU]
   refine pT rfl rfl ?_;try simp only[UU]
   refine aC rfl rfl (λK hK=>?_);go_simp;with_reducible refine(zE q b j g Y HY.out _ Lb.out JU.out (by first|exact(hT.below Hb.out) |exact az.drew (hT.below Hb.out) |exact az.alloc (hT.below Hb.out) _|exact az.drew (az.alloc (hT.below Hb.out) _) |exact az.alloc (az.drew (hT.below Hb.out)) _)).mono ?_
   rintro e w7 ⟨rfl,hq⟩;have ae:Bw w6 w7:=by first|exact hq|exact aM hq
   clear x0 aK x1 aL x2 aN y0 aQ y1 aR y2 aS r0 ag r1 ah r2 au r3 bu r4 bD n0 eV n1 eW n2 eX n3 fK n4 fL;replace Hx:=kB Hx ae;replace Hy:=kB Hy ae;replace Hr:=kB Hr ae;replace Hn:=kB Hn ae;obtain⟨x0,aK,x1,aL,x2,aN⟩:=Hx.out.g3;obtain⟨y0,aQ,y1,aR,y2,aS⟩:=Hy.out.g3;obtain⟨r0,ag,r1,ah,r2,au,r3,bu,r4,bD⟩:=Hr.out.g5;obtain⟨n0,eV,n1,eW,n2,eX,n3,fK,n4,fL⟩:=Hn.out.g5;replace Hb:=ak Hb ae;clear ae;refine hK _ _ (λ_=>⟨x0,x1,x2,y0,y1,y2,n0⟩) ?_;clear hK K;try simp only[UU]
   refine aC rfl rfl (λK hK=>?_);go_simp;refine hK _ _ (λ_=>⟨(aG zf (aG zf x0)),(aG zf (aG zf x1)),(aG zf (aG zf x2)),(aG zf (aG zf y0)),(aG zf (aG zf y1)),(aG zf (aG zf y2)),(aG zf (aG zf n0))⟩) ?_;clear hK K;try simp only[UU]
   clear x0 aK x1 aL x2 aN y0 aQ y1 aR y2 aS r0 ag r1 ah r2 au r3 bu r4 bD n0 eV n1 eW n2 eX n3 fK n4 fL;refine bI (aY w7 (w4.heap.size) 1 [.bool (ai X),.string (bs (nt X.natAbs))]) bg ?_;intro w8 hs;replace Hx:=kS Hx hs zo;replace Hy:=kS Hy hs zo;replace Hr:=kS Hr hs zo;replace Hn:Hid (aj w8 (w4.heap.size) 100 [.int .i64 g,.bool (ai X),.string (bs (nt X.natAbs)),.bool false,.string (bs [])]):=xa Hn hs;obtain⟨x0,aK,x1,aL,x2,aN⟩:=Hx.out.g3;obtain⟨y0,aQ,y1,aR,y2,aS⟩:=Hy.out.g3;obtain⟨r0,ag,r1,ah,r2,au,r3,bu,r4,bD⟩:=Hr.out.g5;obtain⟨n0,eV,n1,eW,n2,eX,n3,fK,n4,fL⟩:=Hn.out.g5;replace Hb:=bS Hb hs ZS;clear hs;refine pT rfl rfl ?_;try simp only[UU]
   refine aC rfl rfl (λK hK=>?_);go_simp;refine hK _ _ (λh=>absurd h zd) ?_;clear hK K;try simp only[UU]
   clear x0 aK x1 aL x2 aN y0 aQ y1 aR y2 aS r0 ag r1 ah r2 au r3 bu r4 bD n0 eV n1 eW n2 eX n3 fK n4 fL;refine bI (aY w8 (w4.heap.size) 3 [.bool (ai Y),.string (bs (nt Y.natAbs))]) bg ?_;intro w9 hs;replace Hx:=kS Hx hs zo;replace Hy:=kS Hy hs zo;replace Hr:=kS Hr hs zo;replace Hn:Hid (aj w9 (w4.heap.size) 100 [.int .i64 g,.bool (ai X),.string (bs (nt X.natAbs)),.bool (ai Y),.string (bs (nt Y.natAbs))]):=xa Hn hs;obtain⟨x0,aK,x1,aL,x2,aN⟩:=Hx.out.g3;obtain⟨y0,aQ,y1,aR,y2,aS⟩:=Hy.out.g3;obtain⟨r0,ag,r1,ah,r2,au,r3,bu,r4,bD⟩:=Hr.out.g5;obtain⟨n0,eV,n1,eW,n2,eX,n3,fK,n4,fL⟩:=Hn.out.g5;replace Hb:=bS Hb hs ZS;clear hs;simp only[aV];go_wp2;refine bodyPost_ret (v:=.agg #[.int .i64 g,.bool (ai X),.string (bs (nt X.natAbs)),.bool (ai Y),.string (bs (nt Y.natAbs))]) (by simp[results,Tryz.results66,go_sem,r0,r1,r2,r3,r4]) rfl ⟨rfl,?_⟩;(repeat first|exact Hb.out| (refine Below.setCell ?_ (by have:=Hb.out.size;first| (dsimp only;omega) | (show _<=_;omega) | (simp<;>omega)) _) | (refine Below.alloc ?_ zt _) |refine Below.drew ?_)
theorem Sd (X Y:Int)(n:Nat)(hX:(nt X.natAbs).length<=n)(hY:(nt Y.natAbs).length<=n):(nt (X+Y).natAbs).length<=n+1:=by have h1:=eY (nt X.natAbs);have h2:=eY (nt Y.natAbs);rw[ir]at h1 h2;have h3:=Nat.lt_of_lt_of_le h1 (Nat.pow_le_pow_right (show 0<256 by decide) hX);have h4:=Nat.lt_of_lt_of_le h2 (Nat.pow_le_pow_right (show 0<256 by decide) hY);refine iq ?_;rw[Nat.pow_succ];omega
theorem ajY (X Y:Int)(m n:Nat)(hX:(nt X.natAbs).length<=m)(hY:(nt Y.natAbs).length<=n):(nt (X*Y).natAbs).length<=m+n:=by have h1:=eY (nt X.natAbs);have h2:=eY (nt Y.natAbs);rw[ir]at h1 h2;have h3:=Nat.lt_of_lt_of_le h1 (Nat.pow_le_pow_right (show 0<256 by decide) hX);have h4:=Nat.lt_of_lt_of_le h2 (Nat.pow_le_pow_right (show 0<256 by decide) hY);refine iq ?_;rw[Int.natAbs_mul,Nat.pow_add];exact Nat.mul_lt_mul'' h3 h4
theorem YV (v k:Int)(a b:Nat)(hv:v.natAbs<2^a)(hk:k<=b):(lK v k).natAbs<2^(a+b):=by
 have h0:v.natAbs<2^(a+b):=Nat.lt_of_lt_of_le hv (Nat.pow_le_pow_right zd zo);unfold lK;split
 . rw[Int.natAbs_mul,Int.natAbs_pow,Nat.pow_add];refine Nat.lt_of_le_of_lt (Nat.mul_le_mul_left _ (Nat.pow_le_pow_right zd (show k.toNat<=b by omega))) ?_;exact Nat.mul_lt_mul_of_pos_right hv (Nat.pow_pos zd)
 . have hp:(0:Int)<2^(-k).toNat:=by
    have:((2^(-k).toNat:Nat):Int)>0:=by have:=Nat.pow_pos (n:=(-k).toNat) (show 0<2 by decide);omega
    simpa[Int.natCast_pow]using this
   generalize (2:Int)^(-k).toNat=p at*;have:(v/p).natAbs<=v.natAbs:=by
    rcases Int.le_total 0 v with h|h
    . have h1:=Int.ediv_nonneg h (by omega:(0:Int)<=p);have h2:=Int.ediv_le_self p h;omega
    . have h1:v<=v/p:=by rw[Int.le_ediv_iff_mul_le hp];have:=Int.mul_le_mul_of_nonpos_left h (show(1:Int)<=p by omega);omega
      have h2:v/p<=0:=by have:=Int.ediv_le_ediv hp h;simpa using this
      omega
   omega
theorem Xu {x y:Raw}(hx:Ok x)(hy:Ok y)(A B:Dyadic)(hA:ar x=A)(hB:ar y=B):∃g X Y,rN A B=g/\lK (dN A) (dE A-g)=X/\lK (dN B) (dE B-g)=Y/\A=Dyadic.ofIntWithPrec X (-g)/\B=Dyadic.ofIntWithPrec Y (-g)/\
 (nt X.natAbs).length<=17179869183/\(nt Y.natAbs).length<=17179869183/\ -1099511627776<=g/\g<=1099511627776:=by
 subst hA hB;obtain⟨M,hM,sx,sy⟩:∃M,M<=4294967296/\Sm M (ar x)/\Sm M (ar y):=⟨4294967296,Nat.le_refl _,hx.sm,hy.sm⟩;obtain⟨a1,a2,a3⟩:=sx.parts;obtain⟨b1,b2,b3⟩:=sy.parts;generalize ar x=A at*;generalize ar y=B at*;obtain⟨h1,h2⟩:=ajj A B;have hg: -(M:Int)<=rN A B/\rN A B<=M:=by
  clear a1 b1;unfold rN;split
  . omega
  . split<;>omega
 refine⟨rN A B,_,_,rfl,rfl,rfl,Yo A _ h1,Yo B _ h2,?_,?_,?_,?_⟩
 . exact iB (YV _ _ _ (2*M) a1 (by clear a1 b1;omega)) zo
 . exact iB (YV _ _ _ (2*M) b1 (by clear a1 b1;omega)) zo
 . clear a1 b1;omega
 . clear a1 b1;omega
def cg (x:Raw):List Value:=[.bool x.1,.string (bs x.2.1),.int .i64 x.2.2]
def jM :List Raw->Dyadic
 |[]=>0
 |x::xs=>ar x+jM xs
theorem agd (xs ys:List Raw):jM (xs++ys)=jM xs+jM ys:=by
 induction xs with
 |nil=>simp only[List.nil_append,jM];grind
 |cons x xs ih=>simp only[List.cons_append,jM,ih];grind
theorem agf (xs:List Raw)(k:Nat)(hk:k<xs.length):jM (xs.take (k+1))=jM (xs.take k)+ar xs[k]:=by rw[List.take_succ_eq_append_getElem hk,agd];simp only[jM];grind
def iP :List Raw->Dyadic
 |[]=>1
 |x::xs=>ar x*iP xs
theorem aga (xs ys:List Raw):iP (xs++ys)=iP xs*iP ys:=by
 induction xs with
 |nil=>simp only[List.nil_append,iP];grind
 |cons x xs ih=>simp only[List.cons_append,iP,ih];grind
theorem agc (xs:List Raw)(k:Nat)(hk:k<xs.length):iP (xs.take (k+1))=iP (xs.take k) *ar xs[k]:=by rw[List.take_succ_eq_append_getElem hk,aga];simp only[iP];grind
theorem am5 (X Y N:Int)(hN:X+Y=N)(b cap:Nat)(ty:TypeId)(w:World)(hl:(nt X.natAbs).length<=34359738368)(hm:(nt Y.natAbs).length<=34359738368)
 (ha:aj w b ty [.bool (ai X),.string (bs (nt X.natAbs)),.bool (ai Y),.string (bs (nt Y.natAbs))]):
 Calls Tryz.prog 68 #[.slice (some ⟨b,0,none⟩) 2 cap] w λe w'=>e=.returned (cn N)/\Bw w w':=by
 have:=ZU (ai X) (nt X.natAbs) (ai Y) (nt Y.natAbs) b cap ty w hl hm ha;rw[dI,dI,hN]at this;exact this
theorem ZX (s:Bool)(l:List UInt8)(t:Bool)(m:List UInt8)(N:Int)(hN:iv s l*iv t m=N)(b cap:Nat)(ty:TypeId)(w:World)(hl:l.length<=17179869184)(hm:m.length<=17179869184)
 (ha:aj w b ty [.bool s,.string (bs l),.bool t,.string (bs m)]):
 Calls Tryz.prog 88 #[.slice (some ⟨b,0,none⟩) 2 cap] w λe w'=>e=.returned (cn N)/\Bw w w':=by
 have:=ana [(s,l),(t,m)] (some ⟨b,0,none⟩) cap w (by simp[ny];omega) zm (At.arA ha);have e:fY [(s,l),(t,m)]=N:=by rw[<-hN];simp[fY]
 rw[e]at this;exact this
theorem afA (xs:List Raw)(a:Option Addr)(cap:Nat)(w:World)(hl:∀x∈xs,Ok x)(hS:∀k,Ok (canon (jM (xs.take k))))(hx:xs.length<=1048576)
 (ha:At w a (xs.flatMap cg)) (hT:az w):
 Calls Tryz.prog 26 #[.slice a xs.length cap] w λe w'=>e=.returned (bH (jM xs))/\Bw w w':=by
 have Hl:=af hl;clear hl;have HS:=af hS;clear hS;have Ha:=af ha;clear ha;have eQ:=af hT;clear hT;go_enter Tryz.func26,Tryz.ntmps26;have Hb:Hid (Bw w w):=Below.refl _ _;go_wp2_with fail;obtain⟨R,hR⟩:∃R:World->Prop,(λW=>aj W (w.heap.size) 39 [.bool false,.string (bs []),.int .i64 0]/\aj W (w.heap.size+1) 39 [.bool false,.string (bs []),.int .i64 0]/\Bw w W)=R:=⟨_,rfl⟩;first|refine bQ R ?hR ?_|refine bP R ?hR ?_
 case hR=>subst hR;exact⟨((aj.newAt w _ _ (b:=w.heap.size) rfl).alloc _),(aj.newAt (w.alloc _) _ _ (b:=w.heap.size+1) zm),(zl.alloc zj _)⟩
 subst hR;rintro W ⟨qr,qs,ae⟩;have Hr:=af qr;clear qr;have Hs:=af qs;clear qs;obtain⟨r0,ag,r1,ah,r2,au⟩:=Hr.out.g3;obtain⟨s0,aW,s1,aX,s2,bi⟩:=Hs.out.g3;replace Hb:=ak Hb ae;clear ae
 go_loopw[5,6,9] (λ_ _ i wr=>∃(k:Nat),k<=xs.length/\i=.int .i64 k/\aj wr w.heap.size 39 [.bool false,.string (bs []),.int .i64 0]/\
  aj wr (w.heap.size+1) 39 (cg (canon (jM (xs.take k))))/\Bw w wr) (λ_ _ i _=>xs.length-(intOf i).toNat)
 case atStart=>exact⟨0,Nat.zero_le _,rfl,Hr.out,Hs.out,Hb.out⟩
 case round=>
  obtain⟨k,hk,rfl,qr,qs,hb⟩:=hrel;replace Hr:=af qr;replace Hs:=af qs;replace Hb:=af hb;clear qr qs hb r0 r1 r2 ag ah au s0 s1 s2 aW aX bi;by_cases hlt:k<xs.length
  . obtain ⟨b,o,hab,hcs⟩:=(Ha.out.below Hb.out).elem (f:=cg) (sz:=3) (fun _=>rfl) zd k hlt;have hc0:wr.cell? ⟨b,o+k*3,none⟩=some (.bool xs[k].1):=hcs 0 zd;have hc1:wr.cell? ⟨b,o+k*3+1,none⟩=some (.string (bs xs[k].2.1)):=hcs 1 zd;have hc2:wr.cell? ⟨b,o+k*3+2,none⟩=some (.int .i64 xs[k].2.2):=hcs 2 zd;have bB:=tE xs.length cap k (k:Int) hab hlt rfl;have bX:=af (agf xs k hlt);have jD:Hid (Ok xs[k]):=Hl.out _ (List.getElem_mem hlt);have jq:=af (HS.out k);clear hcs hab;generalize xs[k]=x at*;obtain⟨t1,l1,e1⟩:=x;generalize hS:jM (xs.take k)=S at*;clear hS;obtain⟨g,X,Y,hg,hX,hY,eA,eB,lX,lY,hg1,hg2⟩:=Xu jq.out jD.out S (ar (t1,l1,e1)) (bL S) rfl;obtain⟨N,hN⟩:=aB (X+Y);obtain⟨D,hD⟩:=aB (S+ar (t1,l1,e1));have HD:Hid (ar (ai N,nt N.natAbs,g)=D):=by
     show _=_
     rw[sO,<-hD,<-hN,<-xu,<-eA,<-eB]
    have JZ:Hid ((nt N.natAbs).length<=34359738368):=by show _<=_;rw[<-hN];exact Nat.le_trans (Sd X Y _ lX lY) zd
    rw[hD]at bX;have xY:Hid (∀W,az W->Calls Tryz.prog 66 #[bH S,.agg #[.bool t1,.string (bs l1),.int .i64 e1]] W λex w'=>ex=.returned (.agg #[.int .i64 g,.bool (ai X),.string (bs (nt X.natAbs)),.bool (ai Y),.string (bs (nt Y.natAbs))])/\Bw W w'):=λW hW=>
     Xf _ _ _ t1 l1 e1 S (ar (t1,l1,e1)) (bL S) rfl g X Y hg hX hY W jq.out jD.out hW
    have LX:Hid ((nt X.natAbs).length<=34359738368):=by show _<=_;omega
    have LY:Hid ((nt Y.natAbs).length<=34359738368):=by show _<=_;omega
    have Hg:Hid (-1099511627776<=g/\g<=1099511627776):=⟨hg1,hg2⟩;have HN:=af hN;clear eA eB hg hX hY lX lY hN hD hg1 hg2 jq jD;unfold cg canon at Hs;simp only at Hs;obtain⟨r0,ag,r1,ah,r2,au⟩:=Hr.out.g3;obtain⟨s0,aW,s1,aX,s2,bi⟩:=Hs.out.g3;have CU:=Hr.out.lt;have Ot:=Hs.out.lt;go_wp2_with fail;obtain⟨R,hR⟩:∃R:World->Prop,(λW1=>aj W1 (wr.heap.size) 39 [.bool t1,.string (bs l1),.int .i64 e1]/\Bw wr W1)=R:=⟨_,rfl⟩;first|refine bQ R ?hR ?_|refine bP R ?hR ?_
    case hR=>subst hR;exact⟨(aj.newAt wr _ _ (b:=wr.heap.size) rfl),zl⟩
    subst hR;rintro W1 ⟨qc,ae⟩;have Hc:=af qc;clear qc r0 ag r1 ah r2 au;replace Hr:=kB Hr ae;obtain⟨r0,ag,r1,ah,r2,au⟩:=Hr.out.g3;clear s0 aW s1 aX s2 bi;replace Hs:=kB Hs ae;obtain⟨s0,aW,s1,aX,s2,bi⟩:=Hs.out.g3;obtain⟨c0,c1,c2⟩:=Hc.out.c3;replace Hb:=ak Hb ae;clear ae;have HT:=af (eQ.out.below Hb.out);go_wp2_with fail;refine(xY.out _ HT.out).mono ?_;rintro e w1 ⟨rfl,ae⟩;clear r0 ag r1 ah r2 au s0 aW s1 aX s2 bi c0 c1 c2;replace Hr:=kB Hr ae;replace Hs:=kB Hs ae;replace Hc:=kB Hc ae;obtain⟨r0,ag,r1,ah,r2,au⟩:=Hr.out.g3;obtain⟨s0,aW,s1,aX,s2,bi⟩:=Hs.out.g3;obtain⟨c0,c1,c2⟩:=Hc.out.c3;replace Hb:=ak Hb ae;clear ae;have oH:=Hr.out.lt;have aqs:=Hs.out.lt;have ajk:=Hc.out.lt;go_wp2_with fail;obtain⟨R,hR⟩:∃R:World->Prop,(λW2=>aj W2 (w1.heap.size) 100 [.int .i64 g,.bool (ai X),.string (bs (nt X.natAbs)),.bool (ai Y),.string (bs (nt Y.natAbs))]/\Bw w1 W2)=R:=⟨_,rfl⟩;first|refine bQ R ?hR ?_|refine bP R ?hR ?_
    case hR=>subst hR;exact⟨(aj.newAt w1 _ _ (b:=w1.heap.size) rfl),zl⟩
    subst hR;rintro W2 ⟨qp,ae⟩;have Hp:=af qp;clear qp r0 ag r1 ah r2 au;replace Hr:=kB Hr ae;obtain⟨r0,ag,r1,ah,r2,au⟩:=Hr.out.g3;clear s0 aW s1 aX s2 bi;replace Hs:=kB Hs ae;obtain⟨s0,aW,s1,aX,s2,bi⟩:=Hs.out.g3;clear c0 c1 c2;replace Hc:=kB Hc ae;obtain⟨c0,c1,c2⟩:=Hc.out.c3;obtain⟨p0,p1,p2,p3,p4⟩:=Hp.out.c5;replace Hb:=ak Hb ae;clear ae;refine bW (λw'=>w'.cell? ⟨w1.heap.size,0,none⟩=some (.int .i64 g)/\w'.cell? ⟨w1.heap.size,1,none⟩=some (.bool (ai X))/\w'.cell? ⟨w1.heap.size,2,none⟩=some (.string (bs (nt X.natAbs)))/\w'.cell? ⟨w1.heap.size,3,none⟩=some (.bool (ai Y))/\w'.cell? ⟨w1.heap.size,4,none⟩=some (.string (bs (nt Y.natAbs)))) (λi=>Nat.blt i 9) [(0,true),(1,true),(2,true),(3,true),(6,true),(7,true),(4,false),(5,false),(8,false),(9,false)] zk zk rfl zk zc ⟨p0,p1,p2,p3,p4⟩ ?_;iterate 6 (refine pT rfl rfl ?_ (by intro w' ⟨q0,q1,q2,q3,q4⟩;go_simp;try with_reducible rfl);try simp only[UU])
    refine aC rfl rfl (λK hK=>?_);go_simp;refine hK _ _ (λ_=>⟨aJ p0,aJ p1,aJ p2,aJ p3,aJ p4⟩) ?_;clear hK K;try simp only[UU]
    refine bI (λW3=>aj W3 (W2.heap.size) 32 [.bool (ai X),.string (bs (nt X.natAbs)),.bool (ai Y),.string (bs (nt Y.natAbs))]/\Bw W2 W3) (by first|exact cS|exact cV) ?_;rintro W3 ⟨qv,ae⟩;clear r0 ag r1 ah r2 au s0 aW s1 aX s2 bi c0 c1 c2 p0 p1 p2 p3 p4;have GM:=Hr.out.lt;have ajt:=Hs.out.lt;have Xv:=Hc.out.lt;have ajr:=Hp.out.lt;replace Hr:=kB Hr ae;replace Hs:=kB Hs ae;replace Hc:=kB Hc ae;replace Hp:=kB Hp ae;have Hv:=af qv;clear qv;obtain⟨r0,ag,r1,ah,r2,au⟩:=Hr.out.g3;obtain⟨s0,aW,s1,aX,s2,bi⟩:=Hs.out.g3;obtain⟨c0,c1,c2⟩:=Hc.out.c3;obtain⟨p0,p1,p2,p3,p4⟩:=Hp.out.c5;obtain⟨v0,v1,v2,v3⟩:=Hv.out.c4;replace Hb:=ak Hb ae;clear ae;refine aC rfl rfl (λK hK=>?_);go_simp;with_reducible refine(am5 X Y N HN.out W2.heap.size 2 32 _ LX.out LY.out Hv.out).mono ?_
    rintro e w3 ⟨rfl,hq⟩;have ae:Bw W3 w3:=by first|exact hq|exact aM hq
    clear r0 ag r1 ah r2 au s0 aW s1 aX s2 bi c0 c1 c2 p0 p1 p2 p3 p4 v0 v1 v2 v3;replace Hr:=kB Hr ae;replace Hs:=kB Hs ae;replace Hc:=kB Hc ae;replace Hp:=kB Hp ae;replace Hv:=kB Hv ae;obtain⟨r0,ag,r1,ah,r2,au⟩:=Hr.out.g3;obtain⟨s0,aW,s1,aX,s2,bi⟩:=Hs.out.g3;obtain⟨c0,c1,c2⟩:=Hc.out.c3;obtain⟨p0,p1,p2,p3,p4⟩:=Hp.out.c5;obtain⟨v0,v1,v2,v3⟩:=Hv.out.c4;replace Hb:=ak Hb ae;clear ae;refine hK _ _ (λ_=>⟨p0,p1,p2,p3,p4⟩) ?_;clear hK K;try simp only[UU]
    refine aC rfl rfl (λK hK=>?_);go_simp;with_reducible refine(vg (ai N) (nt N.natAbs) g D HD.out _ JZ.out Hg.out (by first|exact(eQ.out.below Hb.out) |exact az.drew (eQ.out.below Hb.out) |exact az.alloc (eQ.out.below Hb.out) _|exact az.drew (az.alloc (eQ.out.below Hb.out) _) |exact az.alloc (az.drew (eQ.out.below Hb.out)) _)).mono ?_
    rintro e w4 ⟨rfl,hq⟩;have ae:Bw w3 w4:=by first|exact hq|exact aM hq
    clear r0 ag r1 ah r2 au s0 aW s1 aX s2 bi c0 c1 c2 p0 p1 p2 p3 p4 v0 v1 v2 v3;replace Hr:=kB Hr ae;replace Hs:=kB Hs ae;replace Hc:=kB Hc ae;replace Hp:=kB Hp ae;replace Hv:=kB Hv ae;obtain⟨r0,ag,r1,ah,r2,au⟩:=Hr.out.g3;obtain⟨s0,aW,s1,aX,s2,bi⟩:=Hs.out.g3;obtain⟨c0,c1,c2⟩:=Hc.out.c3;obtain⟨p0,p1,p2,p3,p4⟩:=Hp.out.c5;obtain⟨v0,v1,v2,v3⟩:=Hv.out.c4;replace Hb:=ak Hb ae;clear ae;refine hK _ _ (λ_=>⟨p0,p1,p2,p3,p4⟩) ?_;clear hK K;try simp only[UU]
    refine aC rfl rfl (λK hK=>?_);go_simp;refine hK _ _ (λh=>absurd h zd) ?_;clear hK K;try simp only[UU]
    clear r0 ag r1 ah r2 au s0 aW s1 aX s2 bi c0 c1 c2 p0 p1 p2 p3 p4 v0 v1 v2 v3;refine bI (aY w4 (w.heap.size+1) 0 [.bool (ai (dN D)),.string (bs (nt (dN D).natAbs)),.int .i64 (dE D)]) bg ?_;intro w5 hs;replace Hr:=kS Hr hs zo;replace Hs:=bE Hs hs;replace Hc:=kS Hc hs zo;replace Hp:=kS Hp hs zo;replace Hv:=kS Hv hs zo;obtain⟨r0,ag,r1,ah,r2,au⟩:=Hr.out.g3;obtain⟨s0,aW,s1,aX,s2,bi⟩:=Hs.out.g3;obtain⟨c0,c1,c2⟩:=Hc.out.c3;obtain⟨p0,p1,p2,p3,p4⟩:=Hp.out.c5;obtain⟨v0,v1,v2,v3⟩:=Hv.out.c4;replace Hb:=bS Hb hs ZS;clear hs;simp only[aV];go_wp2;go_roundw;case rel=>refine⟨k+1,by omega,by go_num,Hr.out,?_,Hb.out⟩;rw[bX.out];exact Hs.out
    case measure=>simp[intOf];omega
  . obtain rfl:k=xs.length:=by omega
    rw[List.take_length]at Hs;unfold cg canon at Hs;simp only at Hs;obtain⟨r0,ag,r1,ah,r2,au⟩:=Hr.out.g3;obtain⟨s0,aW,s1,aX,s2,bi⟩:=Hs.out.g3;go_wp2;refine bodyPost_ret (v:=bH (jM xs)) (by simp[results,Tryz.results26,go_sem,r0,r1,r2]) rfl ⟨rfl,?_⟩;(repeat first|exact Hb.out| (refine Below.setCell ?_ (by have:=Hb.out.size;first| (dsimp only;omega) | (show _<=_;omega) | (simp<;>omega)) _) | (refine Below.alloc ?_ zt _) |refine Below.drew ?_)
theorem Sm.one :Sm 1 1:=⟨2,by rfl,by decide⟩
theorem age {B:Nat}(xs:List Raw)(h:∀x∈xs,Sm B (ar x)):Sm (B+xs.length) (jM xs):=by
 induction xs with
 |nil=>exact Sm.zero _
 |cons x xs ih=>have h1:=h x zm;have h2:=ih (λy hy=>h y (by simp[hy]));exact(Sm.add (h1.mono (by omega:B<=B+xs.length)) h2)
theorem agb {B:Nat}(xs:List Raw)(h:∀x∈xs,Sm B (ar x)):Sm (B*xs.length+1) (iP xs):=by
 induction xs with
 |nil=>exact Sm.one
 |cons x xs ih=>have h1:=h x zm;have h2:=ih (λy hy=>h y (by simp[hy]));have:=Sm.mul h1 h2;rw[show B* (x::xs).length+1=B+(B*xs.length+1)by rw[List.length_cons,Nat.mul_add];omega];exact this
def Fit (B:Nat)(x:Raw):Prop:=Ok x/\Sm B (ar x)
theorem Fit.mono {A B:Nat}{x:Raw}(h:Fit A x)(TI:A<=B):Fit B x:=⟨h.1,h.2.mono TI⟩
theorem Sm.fit {B:Nat}{d:Dyadic}(h:Sm B d)(hB:B<=268435456):Fit B (canon d):=⟨h.ok hB,by rw[bL];exact h⟩
theorem afB (xs:List Raw)(B:Nat)(S:Dyadic)(hS:jM xs=S)(a:Option Addr)(cap:Nat)(w:World)(hl:∀x∈xs,Fit B x)(hB:B+xs.length<=268435456)(hx:xs.length<=1048576)
 (ha:At w a (xs.flatMap cg)) (hT:az w):
 Calls Tryz.prog 26 #[.slice a xs.length cap] w λe w'=>e=.returned (bH S)/\Bw w w':=by
 subst hS;refine afA xs a cap w (λx h=>(hl x h).1) (λk=>?_) hx ha hT;refine Sm.ok (B:=B+xs.length) (Sm.mono (age (B:=B) _ (λx h=>(hl x (List.mem_of_mem_take h)).2)) ?_) hB;rw[List.length_take];omega
theorem afI (xs:List Raw)(a:Option Addr)(cap:Nat)(w:World)(hl:∀x∈xs,Ok x)(hS:∀k,Ok (canon (iP (xs.take k))))(hx:xs.length<=1048576)
 (ha:At w a (xs.flatMap cg)) (hT:az w):
 Calls Tryz.prog 46 #[.slice a xs.length cap] w λe w'=>e=.returned (bH (iP xs))/\Bw w w':=by
 have Hl:=af hl;clear hl;have HS:=af hS;clear hS;have Ha:=af ha;clear ha;have eQ:=af hT;clear hT;obtain⟨I,hI⟩:∃I:Dyadic,1=I:=⟨_,rfl⟩;have HI:Hid (Dyadic.ofIntWithPrec 1 0=I):=by show _=_;rw[<-hI];rfl
 have HI1:=af hI;clear hI;go_enter Tryz.func46,Tryz.ntmps46;have Hb:Hid (Bw w w):=Below.refl _ _;go_wp2_with fail;obtain⟨R,hR⟩:∃R:World->Prop,(λW=>aj W (w.heap.size) 39 [.bool false,.string (bs []),.int .i64 0]/\Bw w W)=R:=⟨_,rfl⟩;first|refine bQ R ?hR ?_|refine bP R ?hR ?_
 case hR=>subst hR;exact⟨(aj.newAt w _ _ (b:=w.heap.size) rfl),zl⟩
 subst hR;rintro W ⟨qr,ae⟩;have Hr:=af qr;clear qr;obtain⟨r0,ag,r1,ah,r2,au⟩:=Hr.out.g3;replace Hb:=ak Hb ae;clear ae;have HT:=af (eQ.out.below Hb.out);go_wp2_with fail;refine(rA 1 I HI.out _ zo HT.out).mono ?_;rintro e w2 ⟨rfl,ae⟩;clear r0 ag r1 ah r2 au;replace Hr:=kB Hr ae;obtain⟨r0,ag,r1,ah,r2,au⟩:=Hr.out.g3;replace Hb:=ak Hb ae;clear ae;have oH:=Hr.out.lt;go_wp2_with fail;obtain⟨R,hR⟩:∃R:World->Prop,(λW2=>aj W2 (w2.heap.size) 39 [.bool (ai (dN I)),.string (bs (nt (dN I).natAbs)),.int .i64 (dE I)]/\Bw w2 W2)=R:=⟨_,rfl⟩;first|refine bQ R ?hR ?_|refine bP R ?hR ?_
 case hR=>subst hR;exact⟨(aj.newAt w2 _ _ (b:=w2.heap.size) rfl),zl⟩
 subst hR;rintro W2 ⟨qs,ae⟩;have Hs:=af qs;clear qs r0 ag r1 ah r2 au;replace Hr:=kB Hr ae;obtain⟨r0,ag,r1,ah,r2,au⟩:=Hr.out.g3;obtain⟨s0,aW,s1,aX,s2,bi⟩:=Hs.out.g3;replace Hb:=ak Hb ae;clear ae
 go_loopw[5,9] (λ_ i wr=>∃(k:Nat),k<=xs.length/\i=.int .i64 k/\aj wr w.heap.size 39 [.bool false,.string (bs []),.int .i64 0]/\
  aj wr w2.heap.size 39 (cg (canon (iP (xs.take k))))/\Bw w wr) (λ_ i _=>xs.length-(intOf i).toNat)
 case atStart=>
  refine⟨0,Nat.zero_le _,rfl,Hr.out,?_,Hb.out⟩;have e:iP (xs.take 0)=I:=by rw[<-HI1.out];rfl
  rw[e];exact Hs.out
 case round=>
  obtain⟨k,hk,rfl,qr,qs,hb⟩:=hrel;replace Hr:=af qr;replace Hs:=af qs;replace Hb:=af hb;clear qr qs hb r0 r1 r2 ag ah au s0 s1 s2 aW aX bi HT;by_cases hlt:k<xs.length
  . obtain ⟨b,o,hab,hcs⟩:=(Ha.out.below Hb.out).elem (f:=cg) (sz:=3) (fun _=>rfl) zd k hlt;have hc0:wr.cell? ⟨b,o+k*3,none⟩=some (.bool xs[k].1):=hcs 0 zd;have hc1:wr.cell? ⟨b,o+k*3+1,none⟩=some (.string (bs xs[k].2.1)):=hcs 1 zd;have hc2:wr.cell? ⟨b,o+k*3+2,none⟩=some (.int .i64 xs[k].2.2):=hcs 2 zd;have bB:=tE xs.length cap k (k:Int) hab hlt rfl;have bX:=af (agc xs k hlt);have jD:Hid (Ok xs[k]):=Hl.out _ (List.getElem_mem hlt);have jq:=af (HS.out k);clear hcs hab;generalize xs[k]=x at*;obtain⟨t1,l1,e1⟩:=x;generalize hS:iP (xs.take k)=S at*;clear hS;obtain⟨N,hN⟩:=aB (dN S*iv t1 l1);obtain⟨D,hD⟩:=aB (S*ar (t1,l1,e1));obtain⟨g,hg⟩:=aB (dE S+e1);have HD:Hid (ar (ai N,nt N.natAbs,g)=D):=by
     show _=_
     rw[sO,<-hD,<-hN];conv=>rhs;rw[rT S]
     unfold ar;rw[tP];congr 1;simp only;omega
    have o1:=jq.out.exp;have o2:=jD.out.exp;have o3:=jq.out.len;have o4:=jD.out.len;have JZ:Hid ((nt N.natAbs).length<=34359738368):=by
     show _<=_
     have h2:=CV t1 l1 268435456 o4;rw[Int.natAbs_neg]at h2;rw[<-hN];exact Nat.le_trans (ajY (dN S) (iv t1 l1) _ _ o3 h2) zd
    rw[hD]at bX;have LX:Hid ((nt (dN S).natAbs).length<=17179869184):=by show _<=_;omega
    have LY:Hid (l1.length<=17179869184):=by show _<=_;omega
    have Hg:Hid (-1099511627776<=g/\g<=1099511627776):=by show _/\_;omega
    have hwg:IntKind.i64.wrap (dE S+e1)=g:=by rw[IntKind.wrap_i64];omega
    have HN:Hid (iv (ai (dN S)) (nt (dN S).natAbs) *iv t1 l1=N):=by show _=_;rw[dI];exact hN
    clear hg hN hD jq jD o1 o2 o3 o4;unfold cg canon at Hs;simp only at Hs;have hrs:w.heap.size<w2.heap.size:=oH;obtain⟨r0,ag,r1,ah,r2,au⟩:=Hr.out.g3;obtain⟨s0,aW,s1,aX,s2,bi⟩:=Hs.out.g3;have CU:=Hr.out.lt;have Ot:=Hs.out.lt;go_wp2_with fail;obtain⟨R,hR⟩:∃R:World->Prop,(λW1=>aj W1 (wr.heap.size) 39 [.bool t1,.string (bs l1),.int .i64 e1]/\Bw wr W1)=R:=⟨_,rfl⟩;first|refine bQ R ?hR ?_|refine bP R ?hR ?_
    case hR=>subst hR;exact⟨(aj.newAt wr _ _ (b:=wr.heap.size) rfl),zl⟩
    subst hR;rintro W1 ⟨qc,ae⟩;have Hc:=af qc;clear qc r0 ag r1 ah r2 au;replace Hr:=kB Hr ae;obtain⟨r0,ag,r1,ah,r2,au⟩:=Hr.out.g3;clear s0 aW s1 aX s2 bi;replace Hs:=kB Hs ae;obtain⟨s0,aW,s1,aX,s2,bi⟩:=Hs.out.g3;obtain⟨c0,c1,c2⟩:=Hc.out.c3;replace Hb:=ak Hb ae;clear ae;refine bW (λw'=>w'.cell? ⟨wr.heap.size,0,none⟩=some (.bool t1)/\w'.cell? ⟨wr.heap.size,1,none⟩=some (.string (bs l1))/\w'.cell? ⟨wr.heap.size,2,none⟩=some (.int .i64 e1)/\w'.cell? ⟨w2.heap.size,0,none⟩=some (.bool (ai (dN S)))/\w'.cell? ⟨w2.heap.size,1,none⟩=some (.string (bs (nt (dN S).natAbs)))/\w'.cell? ⟨w2.heap.size,2,none⟩=some (.int .i64 (dE S))) (λi=>Nat.blt i 12) [(0,true),(1,true),(2,true),(3,true),(6,true),(7,true),(8,true),(9,true),(10,true),(4,false),(5,false),(11,false),(12,false)] zk zk rfl zk zc ⟨c0,c1,c2,s0,s1,s2⟩ ?_;iterate 9 (refine pT rfl rfl ?_ (by intro w' ⟨q0,q1,q2,q3,q4,q5⟩;go_simp;try with_reducible rfl);try simp only[UU])
    refine aC rfl rfl (λK hK=>?_);go_simp;refine hK _ _ (λ_=>⟨aJ c0,aJ c1,aJ c2,aJ s0,aJ s1,aJ s2⟩) ?_;clear hK K;try simp only[UU]
    refine bI (λW3=>aj W3 (W1.heap.size) 32 [.bool (ai (dN S)),.string (bs (nt (dN S).natAbs)),.bool t1,.string (bs l1)]/\Bw W1 W3) (by first|exact cS|exact cV) ?_;rintro W3 ⟨qv,ae⟩;clear r0 ag r1 ah r2 au s0 aW s1 aX s2 bi c0 c1 c2;have GM:=Hr.out.lt;have ajt:=Hs.out.lt;have Xv:=Hc.out.lt;replace Hr:=kB Hr ae;replace Hs:=kB Hs ae;replace Hc:=kB Hc ae;have Hv:=af qv;clear qv;obtain⟨r0,ag,r1,ah,r2,au⟩:=Hr.out.g3;obtain⟨s0,aW,s1,aX,s2,bi⟩:=Hs.out.g3;obtain⟨c0,c1,c2⟩:=Hc.out.c3;obtain⟨v0,v1,v2,v3⟩:=Hv.out.c4;replace Hb:=ak Hb ae;clear ae;refine aC rfl rfl (λK hK=>?_);go_simp;with_reducible refine(ZX (ai (dN S)) (nt (dN S).natAbs) t1 l1 N HN.out W1.heap.size 2 32 _ LX.out LY.out Hv.out).mono ?_
    rintro e w3 ⟨rfl,hq⟩;have ae:Bw W3 w3:=by first|exact hq|exact aM hq
    clear r0 ag r1 ah r2 au s0 aW s1 aX s2 bi c0 c1 c2 v0 v1 v2 v3;replace Hr:=kB Hr ae;replace Hs:=kB Hs ae;replace Hc:=kB Hc ae;replace Hv:=kB Hv ae;obtain⟨r0,ag,r1,ah,r2,au⟩:=Hr.out.g3;obtain⟨s0,aW,s1,aX,s2,bi⟩:=Hs.out.g3;obtain⟨c0,c1,c2⟩:=Hc.out.c3;obtain⟨v0,v1,v2,v3⟩:=Hv.out.c4;replace Hb:=ak Hb ae;clear ae;refine hK _ _ (λ_=>⟨c0,c1,c2,s0,s1,s2⟩) ?_;clear hK K;try simp only[UU]
    refine aC rfl rfl (λK hK=>?_);go_simp;with_reducible refine(vg (ai N) (nt N.natAbs) g D HD.out _ JZ.out Hg.out (by first|exact(eQ.out.below Hb.out) |exact az.drew (eQ.out.below Hb.out) |exact az.alloc (eQ.out.below Hb.out) _|exact az.drew (az.alloc (eQ.out.below Hb.out) _) |exact az.alloc (az.drew (eQ.out.below Hb.out)) _)).mono ?_
    rintro e w4 ⟨rfl,hq⟩;have ae:Bw w3 w4:=by first|exact hq|exact aM hq
    clear r0 ag r1 ah r2 au s0 aW s1 aX s2 bi c0 c1 c2 v0 v1 v2 v3;replace Hr:=kB Hr ae;replace Hs:=kB Hs ae;replace Hc:=kB Hc ae;replace Hv:=kB Hv ae;obtain⟨r0,ag,r1,ah,r2,au⟩:=Hr.out.g3;obtain⟨s0,aW,s1,aX,s2,bi⟩:=Hs.out.g3;obtain⟨c0,c1,c2⟩:=Hc.out.c3;obtain⟨v0,v1,v2,v3⟩:=Hv.out.c4;replace Hb:=ak Hb ae;clear ae;refine hK _ _ (λ_=>⟨c0,c1,c2,s0,s1,s2⟩) ?_;clear hK K;try simp only[UU]
    refine aC rfl rfl (λK hK=>?_);go_simp;refine hK _ _ (λh=>absurd h zd) ?_;clear hK K;try simp only[UU]
    clear r0 ag r1 ah r2 au s0 aW s1 aX s2 bi c0 c1 c2 v0 v1 v2 v3;refine bI (aY w4 (w2.heap.size) 0 [.bool (ai (dN D)),.string (bs (nt (dN D).natAbs)),.int .i64 (dE D)]) bg ?_;intro w5 hs;replace Hr:=kS Hr hs zo;replace Hs:=bE Hs hs;replace Hc:=kS Hc hs zo;replace Hv:=kS Hv hs zo;obtain⟨r0,ag,r1,ah,r2,au⟩:=Hr.out.g3;obtain⟨s0,aW,s1,aX,s2,bi⟩:=Hs.out.g3;obtain⟨c0,c1,c2⟩:=Hc.out.c3;obtain⟨v0,v1,v2,v3⟩:=Hv.out.c4;replace Hb:=bS Hb hs ZS;clear hs;simp only[aV];go_wp2;go_roundw;case rel=>refine⟨k+1,by omega,by go_num,Hr.out,?_,Hb.out⟩;rw[bX.out];exact Hs.out
    case measure=>simp[intOf];omega
  . obtain rfl:k=xs.length:=by omega
    rw[List.take_length]at Hs;unfold cg canon at Hs;simp only at Hs;obtain⟨r0,ag,r1,ah,r2,au⟩:=Hr.out.g3;obtain⟨s0,aW,s1,aX,s2,bi⟩:=Hs.out.g3;go_wp2;refine bodyPost_ret (v:=bH (iP xs)) (by simp[results,Tryz.results46,go_sem,r0,r1,r2]) rfl ⟨rfl,?_⟩;(repeat first|exact Hb.out| (refine Below.setCell ?_ (by have:=Hb.out.size;first| (dsimp only;omega) | (show _<=_;omega) | (simp<;>omega)) _) | (refine Below.alloc ?_ zt _) |refine Below.drew ?_)
theorem Lp (xs:List Raw)(B:Nat)(S:Dyadic)(hS:iP xs=S)(a:Option Addr)(cap:Nat)(w:World)(hl:∀x∈xs,Fit B x)(hB:B*xs.length+1<=268435456)(hx:xs.length<=1048576)
 (ha:At w a (xs.flatMap cg)) (hT:az w):
 Calls Tryz.prog 46 #[.slice a xs.length cap] w λe w'=>e=.returned (bH S)/\Bw w w':=by
 subst hS;refine afI xs a cap w (λx h=>(hl x h).1) (λk=>?_) hx ha hT;refine Sm.ok (B:=B*xs.length+1) (Sm.mono (agb (B:=B) _ (λx h=>(hl x (List.mem_of_mem_take h)).2)) ?_) hB;rw[List.length_take];have:B*min k xs.length<=B*xs.length:=Nat.mul_le_mul_left _ zo;omega
theorem yz (s:Bool)(l:List UInt8)(e:Int)(t:Bool)(m:List UInt8)(f:Int)(S:Dyadic)(B:Nat)(hS:ar (s,l,e)+ar (t,m,f)=S)(b cap:Nat)(ty:TypeId)(w:World)(hx:Fit B (s,l,e))(hy:Fit B (t,m,f))(hB:B+2<=268435456)
 (ha:aj w b ty [.bool s,.string (bs l),.int .i64 e,.bool t,.string (bs m),.int .i64 f]) (hT:az w):
 Calls Tryz.prog 26 #[.slice (some ⟨b,0,none⟩) 2 cap] w λe w'=>e=.returned (bH S)/\Bw w w':=
 afB [(s,l,e),(t,m,f)] B S (by rw[<-hS];simp only[jM];grind) _ cap w (by intro x h;simp at h;rcases h with rfl|rfl;exact hx;exact hy) hB zm (At.arA ha) hT
theorem pE (s:Bool)(l:List UInt8)(e:Int)(t:Bool)(m:List UInt8)(f:Int)(S:Dyadic)(B:Nat)(hS:ar (s,l,e) *ar (t,m,f)=S)(b cap:Nat)(ty:TypeId)(w:World)(hx:Fit B (s,l,e))(hy:Fit B (t,m,f))(hB:2*B+1<=268435456)
 (ha:aj w b ty [.bool s,.string (bs l),.int .i64 e,.bool t,.string (bs m),.int .i64 f]) (hT:az w):
 Calls Tryz.prog 46 #[.slice (some ⟨b,0,none⟩) 2 cap] w λe w'=>e=.returned (bH S)/\Bw w w':=
 Lp [(s,l,e),(t,m,f)] B S (by rw[<-hS];simp only[iP];grind) _ cap w (by intro x h;simp at h;rcases h with rfl|rfl;exact hx;exact hy) zi zm (At.arA ha) hT
theorem Bu (s:Bool)(l:List UInt8)(e:Int)(t:Bool)(m:List UInt8)(f:Int)(S:Dyadic)(B:Nat)(hS:ar (s,l,e)-ar (t,m,f)=S)(w:World)(hx:Fit B (s,l,e))(hy:Fit B (t,m,f))(hB:B+2<=268435456)(hT:az w):
 Calls Tryz.prog 98 #[.agg #[.bool s,.string (bs l),.int .i64 e],.agg #[.bool t,.string (bs m),.int .i64 f]] w λe w'=>e=.returned (bH S)/\Bw w w':=by
 obtain⟨D,hD⟩:=aB (-ar (t,m,f));have Hn:Hid (Fit B (ai (dN D),nt (dN D).natAbs,dE D)):=by rw[<-hD];exact(hy.2.neg).fit zo
 have HS:Hid (ar (s,l,e)+ar (ai (dN D),nt (dN D).natAbs,dE D)=S):=by show _+ar (canon D)=_;rw[bL,<-hD,<-hS];grind
 obtain⟨Hyo,HD,nW,lW⟩:=cQ hy.1 hD hx hy;clear hD hx hy hS;go_enter Tryz.func98,Tryz.ntmps98;have Hb:Hid (Bw w w):=Below.refl _ _;go_wp2_with fail;obtain⟨R,hR⟩:∃R:World->Prop,(λW=>aj W (w.heap.size) 39 [.bool s,.string (bs l),.int .i64 e]/\aj W (w.heap.size+1) 39 [.bool t,.string (bs m),.int .i64 f]/\aj W (w.heap.size+1+1) 39 [.bool false,.string (bs []),.int .i64 0]/\Bw w W)=R:=⟨_,rfl⟩;first|refine bQ R ?hR ?_|refine bP R ?hR ?_
 case hR=>subst hR;exact⟨(((aj.newAt w _ _ (b:=w.heap.size) rfl).alloc _).alloc _),((aj.newAt (w.alloc _) _ _ (b:=w.heap.size+1) zm).alloc _),(aj.newAt ((w.alloc _).alloc _) _ _ (b:=w.heap.size+1+1) zm),((zl.alloc zj _).alloc zj _)⟩
 subst hR;rintro W ⟨qx,qy,qr,ae⟩;have Hx:=af qx;clear qx;have Hy:=af qy;clear qy;have Hr:=af qr;clear qr;obtain⟨x0,x1,x2⟩:=Hx.out.c3;obtain⟨y0,y1,y2⟩:=Hy.out.c3;obtain⟨r0,ag,r1,ah,r2,au⟩:=Hr.out.g3;replace Hb:=ak Hb ae;clear ae;refine bW (λw'=>w'.cell? ⟨w.heap.size,0,none⟩=some (.bool s)/\w'.cell? ⟨w.heap.size,1,none⟩=some (.string (bs l))/\w'.cell? ⟨w.heap.size,2,none⟩=some (.int .i64 e)/\w'.cell? ⟨w.heap.size+1,0,none⟩=some (.bool t)/\w'.cell? ⟨w.heap.size+1,1,none⟩=some (.string (bs m))/\w'.cell? ⟨w.heap.size+1,2,none⟩=some (.int .i64 f)) (λi=>Nat.blt i 5) [(0,true),(1,true),(2,false),(3,false),(4,false),(5,false)] zk zk rfl zk zc ⟨x0,x1,x2,y0,y1,y2⟩ ?_;iterate 2 (refine pT rfl rfl ?_ (by intro w' ⟨q0,q1,q2,q3,q4,q5⟩;go_simp;try with_reducible rfl);try simp only[UU])
 refine aC rfl rfl (λK hK=>?_);go_simp;with_reducible refine(Lr t m f D HD.out _ Hyo.out (by first|exact(hT.below Hb.out) |exact az.drew (hT.below Hb.out) |exact az.alloc (hT.below Hb.out) _|exact az.drew (az.alloc (hT.below Hb.out) _) |exact az.alloc (az.drew (hT.below Hb.out)) _)).mono ?_
 rintro e w1 ⟨rfl,hq⟩;have ae:Bw W w1:=by first|exact hq|exact aM hq
 clear x0 x1 x2 y0 y1 y2 r0 ag r1 ah r2 au;replace Hx:=kB Hx ae;replace Hy:=kB Hy ae;replace Hr:=kB Hr ae;obtain⟨x0,x1,x2⟩:=Hx.out.c3;obtain⟨y0,y1,y2⟩:=Hy.out.c3;obtain⟨r0,ag,r1,ah,r2,au⟩:=Hr.out.g3;replace Hb:=ak Hb ae;clear ae;refine hK _ _ (λ_=>⟨x0,x1,x2,y0,y1,y2⟩) ?_;clear hK K;try simp only[UU]
 refine aC rfl rfl (λK hK=>?_);go_simp;refine hK _ _ (λ_=>⟨aJ x0,aJ x1,aJ x2,aJ y0,aJ y1,aJ y2⟩) ?_;clear hK K;try simp only[UU]
 refine bI (λW1=>aj W1 (w1.heap.size) 39 [.bool s,.string (bs l),.int .i64 e,.bool (ai (dN D)),.string (bs (nt (dN D).natAbs)),.int .i64 (dE D)]/\Bw w1 W1) (by first|exact cS|exact cV) ?_;rintro W1 ⟨qv,ae⟩;clear x0 x1 x2 y0 y1 y2 r0 ag r1 ah r2 au;have ajx:=Hx.out.lt;have ajC:=Hy.out.lt;have CU:=Hr.out.lt;replace Hx:=kB Hx ae;replace Hy:=kB Hy ae;replace Hr:=kB Hr ae;have Hv:=af qv;clear qv;obtain⟨x0,x1,x2⟩:=Hx.out.c3;obtain⟨y0,y1,y2⟩:=Hy.out.c3;obtain⟨r0,ag,r1,ah,r2,au⟩:=Hr.out.g3;obtain⟨v0,v1,v2,v3,v4,v5⟩:=Hv.out.c6;replace Hb:=ak Hb ae;clear ae;refine aC rfl rfl (λK hK=>?_);go_simp;with_reducible refine(yz s l e (ai (dN D)) (nt (dN D).natAbs) (dE D) S B HS.out w1.heap.size 2 39 _ nW.out Hn.out hB Hv.out (by first|exact(hT.below Hb.out) |exact az.drew (hT.below Hb.out) |exact az.alloc (hT.below Hb.out) _|exact az.drew (az.alloc (hT.below Hb.out) _) |exact az.alloc (az.drew (hT.below Hb.out)) _)).mono ?_
 rintro e w2 ⟨rfl,hq⟩;have ae:Bw W1 w2:=by first|exact hq|exact aM hq
 clear x0 x1 x2 y0 y1 y2 r0 ag r1 ah r2 au v0 v1 v2 v3 v4 v5;replace Hx:=kB Hx ae;replace Hy:=kB Hy ae;replace Hr:=kB Hr ae;replace Hv:=kB Hv ae;obtain⟨x0,x1,x2⟩:=Hx.out.c3;obtain⟨y0,y1,y2⟩:=Hy.out.c3;obtain⟨r0,ag,r1,ah,r2,au⟩:=Hr.out.g3;obtain⟨v0,v1,v2,v3,v4,v5⟩:=Hv.out.c6;replace Hb:=ak Hb ae;clear ae;refine hK _ _ (λ_=>⟨x0,x1,x2,y0,y1,y2⟩) ?_;clear hK K;try simp only[UU]
 refine aC rfl rfl (λK hK=>?_);go_simp;refine hK _ _ (λh=>absurd h zd) ?_;clear hK K;try simp only[UU]
 clear x0 x1 x2 y0 y1 y2 r0 ag r1 ah r2 au v0 v1 v2 v3 v4 v5;refine bI (aY w2 (w.heap.size+1+1) 0 [.bool (ai (dN S)),.string (bs (nt (dN S).natAbs)),.int .i64 (dE S)]) bg ?_;intro w3 hs;replace Hx:=kS Hx hs zo;replace Hy:=kS Hy hs zo;replace Hr:=bE Hr hs;replace Hv:=kS Hv hs zo;obtain⟨x0,x1,x2⟩:=Hx.out.c3;obtain⟨y0,y1,y2⟩:=Hy.out.c3;obtain⟨r0,ag,r1,ah,r2,au⟩:=Hr.out.g3;obtain⟨v0,v1,v2,v3,v4,v5⟩:=Hv.out.c6;replace Hb:=bS Hb hs ZS;clear hs;simp only[aV];go_wp2;refine bodyPost_ret (v:=bH S) (by simp[results,Tryz.results98,go_sem,r0,r1,r2]) rfl ⟨rfl,?_⟩;(repeat first|exact Hb.out| (refine Below.setCell ?_ (by have:=Hb.out.size;first| (dsimp only;omega) | (show _<=_;omega) | (simp<;>omega)) _) | (refine Below.alloc ?_ zt _) |refine Below.drew ?_)
theorem Lx (n k:Int):aP (Dyadic.ofIntWithPrec n k)=dD n:=by have h:=Pj (ai n) (nt n.natAbs) (-k);rw[sO,dI,Int.neg_neg]at h;exact h.symm
theorem sN (s:Bool)(l:List UInt8)(e:Int)(t:Bool)(m:List UInt8)(f:Int)(c:Int)(hc:aP (ar (s,l,e)-ar (t,m,f))=c)(w:World)(hx:Ok (s,l,e))(hy:Ok (t,m,f))(hT:az w):
 Calls Tryz.prog 25 #[.agg #[.bool s,.string (bs l),.int .i64 e],.agg #[.bool t,.string (bs m),.int .i64 f]] w λe w'=>e=.returned (.int .i64 c)/\Bw w w':=by
 obtain⟨g,X,Y,hg,hX,hY,eA,eB,lX,lY,hg1,hg2⟩:=Xu hx hy _ _ rfl rfl;have MI:dD (X-Y)=c:=by rw[<-hc,eA,eB,show ∀a b:Dyadic,a-b=a+ -b from λa b=>by grind,Da,xu,Lx];rfl
 obtain⟨u,hu⟩:=aB (aP (ar (s,l,e)));obtain⟨v,hv⟩:=aB (aP (ar (t,m,f)));have hu2:dD X=u:=by rw[<-hu,eA,Lx]
 have hv2:dD Y=v:=by rw[<-hv,eB,Lx]
 have ru: -1<=u/\u<=1:=by rw[<-hu2];unfold dD;split<;>(try split)<;>omega
 have rv: -1<=v/\v<=1:=by rw[<-hv2];unfold dD;split<;>(try split)<;>omega
 have xY:Hid (∀W,az W->Calls Tryz.prog 66 #[.agg #[.bool s,.string (bs l),.int .i64 e],.agg #[.bool t,.string (bs m),.int .i64 f]] W λex w'=>ex=.returned (.agg #[.int .i64 g,.bool (ai X),.string (bs (nt X.natAbs)),.bool (ai Y),.string (bs (nt Y.natAbs))])/\Bw W w'):=λW hW=>
  Xf s l e t m f _ _ rfl rfl g X Y hg hX hY W hx hy hW
 have Aq:Hid (∀W,Calls Tryz.prog 67 #[cn X,cn Y] W λex w'=>ex=.returned (.int .i64 c)/\Bw W w'):=λW=>by
  have:=am7 (ai X) (nt X.natAbs) (ai Y) (nt Y.natAbs) W zo zo (by rw[dI,dI,Int.sub_eq_add_neg];exact Nat.le_trans (Sd X (-Y) 17179869183 lX (by rw[Int.natAbs_neg];exact lY)) zd)
  rw[dI,dI,MI]at this;exact this
 have hcl:¬u=v->max (-1) (min 1 (u-v))=c:=by intro hne;rw[<-MI];rw[<-hu2,<-hv2]at hne⊢;unfold dD at*;split<;>split<;>(try split)<;>(try split)<;>(try split)<;>omega
 have hwr:IntKind.i64.wrap (u-v)=u-v:=by rw[IntKind.wrap_i64];omega
 obtain⟨Hu,Hv,nW,lW⟩:=cQ hu hv hx hy;clear hu hv hu2 hv2 hx hy MI hc eA eB hX hY hg;go_enter Tryz.func25,Tryz.ntmps25;have Hb:Hid (Bw w w):=Below.refl _ _;go_wp2_with fail;obtain⟨R,hR⟩:∃R:World->Prop,(λW=>aj W (w.heap.size) 39 [.bool s,.string (bs l),.int .i64 e]/\aj W (w.heap.size+1) 39 [.bool t,.string (bs m),.int .i64 f]/\Bw w W)=R:=⟨_,rfl⟩;first|refine bQ R ?hR ?_|refine bP R ?hR ?_
 case hR=>subst hR;exact⟨((aj.newAt w _ _ (b:=w.heap.size) rfl).alloc _),(aj.newAt (w.alloc _) _ _ (b:=w.heap.size+1) zm),(zl.alloc zj _)⟩
 subst hR;rintro W ⟨qx,qy,ae⟩;have Hx:=af qx;clear qx;have Hy:=af qy;clear qy;obtain⟨x0,x1,x2⟩:=Hx.out.c3;obtain⟨y0,y1,y2⟩:=Hy.out.c3;replace Hb:=ak Hb ae;clear ae;refine bW (λw'=>w'.cell? ⟨w.heap.size,0,none⟩=some (.bool s)/\w'.cell? ⟨w.heap.size,1,none⟩=some (.string (bs l))/\w'.cell? ⟨w.heap.size,2,none⟩=some (.int .i64 e)/\w'.cell? ⟨w.heap.size+1,0,none⟩=some (.bool t)/\w'.cell? ⟨w.heap.size+1,1,none⟩=some (.string (bs m))/\w'.cell? ⟨w.heap.size+1,2,none⟩=some (.int .i64 f)) (λi=>Nat.blt i 100000) [(0,true),(2,true),(1,false),(3,false),(4,true),(5,true)] zk zk rfl zk zc ⟨x0,x1,x2,y0,y1,y2⟩ ?_;iterate 2 (refine pT rfl rfl ?_ (by intro w' ⟨q0,q1,q2,q3,q4,q5⟩;go_simp;try with_reducible rfl);try simp only[UU])
 refine aC rfl rfl (λK hK=>?_);go_simp;with_reducible refine(ma s l e u Hu.out _ nW.out).mono ?_
 rintro e w1 ⟨rfl,hq⟩;have ae:Bw W w1:=by first|exact hq|exact aM hq
 clear x0 x1 x2 y0 y1 y2;replace Hx:=kB Hx ae;replace Hy:=kB Hy ae;obtain⟨x0,x1,x2⟩:=Hx.out.c3;obtain⟨y0,y1,y2⟩:=Hy.out.c3;replace Hb:=ak Hb ae;clear ae;refine hK _ _ (λ_=>⟨x0,x1,x2,y0,y1,y2⟩) ?_;clear hK K;try simp only[UU]
 refine aC rfl rfl (λK hK=>?_);go_simp;with_reducible refine(ma t m f v Hv.out _ lW.out).mono ?_
 rintro e w2 ⟨rfl,hq⟩;have ae:Bw w1 w2:=by first|exact hq|exact aM hq
 clear x0 x1 x2 y0 y1 y2;replace Hx:=kB Hx ae;replace Hy:=kB Hy ae;obtain⟨x0,x1,x2⟩:=Hx.out.c3;obtain⟨y0,y1,y2⟩:=Hy.out.c3;replace Hb:=ak Hb ae;clear ae;refine hK _ _ (λ_=>⟨x0,x1,x2,y0,y1,y2⟩) ?_;clear hK K;try simp only[UU]
 iterate 2 (refine pT rfl rfl ?_;try simp only[UU])
 simp only[aV];by_cases tB:u=v
 . subst tB;clear hcl;go_wp2_with fail;have HT:=af (hT.below Hb.out);go_wp2_with fail;refine(xY.out _ HT.out).mono ?_;rintro e w3 ⟨rfl,ae⟩;clear x0 x1 x2 y0 y1 y2;replace Hx:=kB Hx ae;replace Hy:=kB Hy ae;obtain⟨x0,x1,x2⟩:=Hx.out.c3;obtain⟨y0,y1,y2⟩:=Hy.out.c3;replace Hb:=ak Hb ae;clear ae;have ajz:=Hx.out.lt;have aqF:=Hy.out.lt;go_wp2_with fail;obtain⟨R,hR⟩:∃R:World->Prop,(λW4=>aj W4 (w3.heap.size) 100 [.int .i64 g,.bool (ai X),.string (bs (nt X.natAbs)),.bool (ai Y),.string (bs (nt Y.natAbs))]/\Bw w3 W4)=R:=⟨_,rfl⟩;first|refine bQ R ?hR ?_|refine bP R ?hR ?_
   case hR=>subst hR;exact⟨(aj.newAt w3 _ _ (b:=w3.heap.size) rfl),zl⟩
   subst hR;rintro W4 ⟨qp,ae⟩;have Hp:=af qp;clear qp x0 x1 x2;replace Hx:=kB Hx ae;obtain⟨x0,x1,x2⟩:=Hx.out.c3;clear y0 y1 y2;replace Hy:=kB Hy ae;obtain⟨y0,y1,y2⟩:=Hy.out.c3;obtain⟨p0,p1,p2,p3,p4⟩:=Hp.out.c5;replace Hb:=ak Hb ae;clear ae;go_wp2_with fail;refine(Aq.out _).mono ?_;rintro e w5 ⟨rfl,ae⟩;clear x0 x1 x2 y0 y1 y2 p0 p1 p2 p3 p4;replace Hx:=kB Hx ae;replace Hy:=kB Hy ae;replace Hp:=kB Hp ae;obtain⟨x0,x1,x2⟩:=Hx.out.c3;obtain⟨y0,y1,y2⟩:=Hy.out.c3;obtain⟨p0,p1,p2,p3,p4⟩:=Hp.out.c5;replace Hb:=ak Hb ae;clear ae;go_wp2;go_ret;exact⟨rfl,Hb.out⟩
 . have hcl:=hcl tB;have ao9:(u !=v)=true:=by simp[tB]
   go_wp2;go_ret;exact⟨rfl,Hb.out⟩
theorem afz (s:Bool)(l:List UInt8)(e:Int)(D:Dyadic)(hD:(if aP (ar (s,l,e))<0 then-ar (s,l,e)else ar (s,l,e))=D)(w:World)(hx:Ok (s,l,e))(hT:az w):
 Calls Tryz.prog 145 #[.agg #[.bool s,.string (bs l),.int .i64 e]] w λex w'=>ex=.returned (bH D)/\Bw w w':=by
 obtain⟨u,hu⟩:=aB (aP (ar (s,l,e)));have nW:=af hx;clear hx;have Hu:=af hu;rw[hu]at hD;clear hu;by_cases h:u<0
 . rw[if_pos h]at hD;have HD:=af hD;clear hD;go_enter Tryz.func145,Tryz.ntmps145;have Hb:Hid (Bw w w):=Below.refl _ _;go_wp2_with fail;obtain⟨R,hR⟩:∃R:World->Prop,(λW=>aj W (w.heap.size) 39 [.bool s,.string (bs l),.int .i64 e]/\aj W (w.heap.size+1) 39 [.bool false,.string (bs []),.int .i64 0]/\Bw w W)=R:=⟨_,rfl⟩;first|refine bQ R ?hR ?_|refine bP R ?hR ?_
   case hR=>subst hR;exact⟨((aj.newAt w _ _ (b:=w.heap.size) rfl).alloc _),(aj.newAt (w.alloc _) _ _ (b:=w.heap.size+1) zm),(zl.alloc zj _)⟩
   subst hR;rintro W ⟨qx,qr,ae⟩;have Hx:=af qx;clear qx;have Hr:=af qr;clear qr;obtain⟨x0,x1,x2⟩:=Hx.out.c3;obtain⟨r0,ag,r1,ah,r2,au⟩:=Hr.out.g3;replace Hb:=ak Hb ae;clear ae;go_wp2_with fail;refine(ma s l e u Hu.out _ nW.out).mono ?_;rintro e w1 ⟨rfl,ae⟩;clear x0 x1 x2 r0 ag r1 ah r2 au;replace Hx:=kB Hx ae;replace Hr:=kB Hr ae;obtain⟨x0,x1,x2⟩:=Hx.out.c3;obtain⟨r0,ag,r1,ah,r2,au⟩:=Hr.out.g3;replace Hb:=ak Hb ae;clear ae;have HT:=af (hT.below Hb.out);go_wp2_with fail;refine(Lr s l e D HD.out _ nW.out HT.out).mono ?_;rintro e w2 ⟨rfl,ae⟩;clear x0 x1 x2 r0 ag r1 ah r2 au;replace Hx:=kB Hx ae;replace Hr:=kB Hr ae;obtain⟨x0,x1,x2⟩:=Hx.out.c3;obtain⟨r0,ag,r1,ah,r2,au⟩:=Hr.out.g3;replace Hb:=ak Hb ae;clear ae;go_wp2;refine bodyPost_ret (v:=bH D) (by simp[results,Tryz.results145,go_sem,r0,r1,r2]) rfl ⟨rfl,?_⟩;(repeat first|exact Hb.out| (refine Below.setCell ?_ (by have:=Hb.out.size;first| (dsimp only;omega) | (show _<=_;omega) | (simp<;>omega)) _) | (refine Below.alloc ?_ zt _) |refine Below.drew ?_)
 . rw[if_neg h]at hD;have HD:=af hD;clear hD;have h2:0<=u:=by omega
   go_enter Tryz.func145,Tryz.ntmps145;have Hb:Hid (Bw w w):=Below.refl _ _;go_wp2_with fail;obtain⟨R,hR⟩:∃R:World->Prop,(λW=>aj W (w.heap.size) 39 [.bool s,.string (bs l),.int .i64 e]/\aj W (w.heap.size+1) 39 [.bool false,.string (bs []),.int .i64 0]/\Bw w W)=R:=⟨_,rfl⟩;first|refine bQ R ?hR ?_|refine bP R ?hR ?_
   case hR=>subst hR;exact⟨((aj.newAt w _ _ (b:=w.heap.size) rfl).alloc _),(aj.newAt (w.alloc _) _ _ (b:=w.heap.size+1) zm),(zl.alloc zj _)⟩
   subst hR;rintro W ⟨qx,qr,ae⟩;have Hx:=af qx;clear qx;have Hr:=af qr;clear qr;obtain⟨x0,x1,x2⟩:=Hx.out.c3;obtain⟨r0,ag,r1,ah,r2,au⟩:=Hr.out.g3;replace Hb:=ak Hb ae;clear ae;go_wp2_with fail;refine(ma s l e u Hu.out _ nW.out).mono ?_;rintro e w1 ⟨rfl,ae⟩;clear x0 x1 x2 r0 ag r1 ah r2 au;replace Hx:=kB Hx ae;replace Hr:=kB Hr ae;obtain⟨x0,x1,x2⟩:=Hx.out.c3;obtain⟨r0,ag,r1,ah,r2,au⟩:=Hr.out.g3;replace Hb:=ak Hb ae;clear ae;have HT:=af (hT.below Hb.out);go_wp2_with fail;refine(pH s l e D HD.out _ nW.out HT.out).mono ?_;rintro e w2 ⟨rfl,ae⟩;clear x0 x1 x2 r0 ag r1 ah r2 au;replace Hx:=kB Hx ae;replace Hr:=kB Hr ae;obtain⟨x0,x1,x2⟩:=Hx.out.c3;obtain⟨r0,ag,r1,ah,r2,au⟩:=Hr.out.g3;replace Hb:=ak Hb ae;clear ae;go_wp2;refine bodyPost_ret (v:=bH D) (by simp[results,Tryz.results145,go_sem,r0,r1,r2]) rfl ⟨rfl,?_⟩;(repeat first|exact Hb.out| (refine Below.setCell ?_ (by have:=Hb.out.size;first| (dsimp only;omega) | (show _<=_;omega) | (simp<;>omega)) _) | (refine Below.alloc ?_ zt _) |refine Below.drew ?_)
end Go.Proofs.YtoopepmmepmfnaaGreatDoor
namespace Go.Proofs.YtoopepmmepmfnaaGreatDoor
theorem akI (n k:Int):Dyadic.ofIntWithPrec n k<0↔n<0:=by
 rw[<-Dyadic.toRat_lt_toRat_iff,Dyadic.toRat_ofIntWithPrec_eq_mul_two_pow,Dyadic.toRat_zero];have h2:(0:Rat)<2^(-k):=Rat.zpow_pos zd;constructor
 . intro h;by_cases h3:n<0
   . exact h3
   . exfalso
     have h4:(0:Rat)<=(n:Rat):=by exact_mod_cast Int.not_lt.1 h3
     have h5:=Rat.mul_nonneg h4 (Rat.le_of_lt h2);grind
 . intro h;have h4:(n:Rat)<0:=by exact_mod_cast h
   have:=Rat.mul_lt_mul_of_pos_right h4 h2;grind
theorem yA (X:Dyadic):aP X<0↔X<0:=by
 conv=>rhs;rw[rT X]
 rw[akI];unfold aP dD;split
 . rename_i h;simp[h]
 . rename_i h
   split<;>simp<;>omega
theorem Tq (X:Dyadic):aP X=0↔X=0:=by
 constructor
 . intro h;have h1:dN X=0:=by
    unfold aP dD at h;by_cases h1:dN X<0
    . rw[if_pos h1]at h;cases h
    . rw[if_neg h1]at h;by_cases h2:dN X=0
      . exact h2
      . rw[if_neg h2]at h;cases h
   have h2:=rT X;rw[h1,vv]at h2;exact h2
 . rintro rfl;rfl
def nP (X:Dyadic):Dyadic:=Dyadic.ofIntWithPrec (aP X) 0
theorem YS (X:Dyadic):nP X=if X<0 then-1 else if X=0 then 0 else 1:=by
 unfold nP;have h1:=yA X;have h2:=Tq X;have h3:aP X= -1\/aP X=0\/aP X=1:=by
  unfold aP dD;split
  . exact .inl rfl
  . split
    . exact .inr (.inl rfl)
    . exact .inr (.inr rfl)
 rcases h3 with h|h|h
 . rw[if_pos (h1.1 zo),h];rfl
 . rw[if_neg (λh4=>by have:=h1.2 h4;omega),if_pos (h2.1 h),h];rfl
 . rw[if_neg (λh4=>by have:=h1.2 h4;omega),if_neg (λh4=>by have:=h2.2 h4;omega),h];rfl
def IM (n:Nat)(p:Nat->Nat->Dyadic)(x:Nat->Dyadic)(k:Nat):Dyadic:=nP (gv n p) *gv n (PE p k x)
def jU (e:Nat->Nat->Dyadic)(r c:Nat):Nat->Nat->Dyadic:=λa b=>e (if a<r then a else a+1) (if b<c then b else b+1)
def zn (n:Nat)(e:Nat->Nat->Dyadic)(y:Nat->Dyadic)(i:Nat):Nat->Dyadic
 |0=>0
 |k+1=>zn n e y i k+y k* (if(k+i)%2=1 then-dU (n-1) (jU e i k)else dU (n-1) (jU e i k))
theorem aiK (n:Nat)(hn:1<=n)(cM:n<=4)(e:Nat->Nat->Dyadic)(y:Nat->Dyadic)(i:Nat)(hi:i<n):zn n e y i n=dU n λa b=>if a=i then y b else e a b:=by
 have hc:(n=1/\i=0)\/(n=2/\i=0)\/(n=2/\i=1)\/(n=3/\i=0)\/(n=3/\i=1)\/(n=3/\i=2)\/(n=4/\i=0)\/(n=4/\i=1)\/(n=4/\i=2)\/(n=4/\i=3):=by omega
 rcases hc with⟨rfl,rfl⟩ |⟨rfl,rfl⟩ |⟨rfl,rfl⟩ |⟨rfl,rfl⟩ |⟨rfl,rfl⟩ |⟨rfl,rfl⟩ |⟨rfl,rfl⟩ |⟨rfl,rfl⟩ |⟨rfl,rfl⟩ |⟨rfl,rfl⟩<;>(simp[zn,dU,jU];try grind)
theorem agh (n:Nat)(p:Nat->Nat->Dyadic)(x:Nat->Dyadic)(i:Nat):gv n (PE p (i+1) x)=dU n λa b=>if a=i then x b-p 0 b else p (a+1) b-p 0 b:=by
 unfold gv PE;congr 1;funext a b
 by_cases h:a=i
 . rw[if_pos h,if_pos zo,if_neg zo]
 . rw[if_neg h,if_neg zo,if_neg zo]
end Go.Proofs.YtoopepmmepmfnaaGreatDoor
namespace Go.Proofs.YtoopepmmepmfnaaGreatDoor
open Go.RowKit
attribute [local go_sem ↓] Go.wp_at_zero Go.wp_at_succ
def gh (l:List UInt8)(v:Int):Bool:=(l.all λc=>decide (c.toNat<=127))&&decide ((l.length:Int)=v)
theorem GZ (l:List UInt8)(v:Int)(w:World)(hl:l.length<=9223372036854775807):
 Calls Tryz.prog 187 #[.string (bs l),.int .i64 v] w λe w'=>e=.returned (.bool (gh l v))/\Bw w w':=by
 obtain⟨n,hn⟩:=aB l.length;have hsz:(bs l).size=n:=by rw[mW,hn]
 obtain⟨M,hM⟩:=aB (gh l v);rw[hM];obtain⟨HM,Hn⟩:=aI hM hn;rw[hn]at hl;clear hM hn;go_enter Tryz.func187,Tryz.ntmps187;have Hb:Hid (Bw w w):=Below.refl _ _;go_wp2_with fail;go_loopw[8] (λx wr=>∃k:Nat,k<=n/\x=.int .i64 (k:Int)/\((l.take k).all λc=>decide (c.toNat<=127))=true/\Bw w wr) (λx _=>n-(intOf x).toNat);case atStart=>exact⟨0,Nat.zero_le _,rfl,rfl,Hb.out⟩
 case round=>
  clear Hb;obtain⟨k,hk,rfl,hall,pb⟩:=hrel;obtain⟨nR,Hb⟩:=aI hall pb;clear hall pb;by_cases hlt:k<n
  . have hk2:k<l.length:=by rw[Hn.out];exact hlt
    have ix:=zh l (k:Int) k hk2 rfl;obtain⟨c,hc⟩:∃c:Nat,(l[k]).toNat=c:=⟨_,rfl⟩;rw[hc]at ix;by_cases h1:127<c
    . have h2:(127:Int)<(c:Int):=by omega
      have Ct:M=false:=by
       rw[<-HM.out];unfold gh;have:(l.all λc=>decide (c.toNat<=127))=false:=by rw[List.all_eq_false];exact⟨l[k],List.getElem_mem hk2,by simp;omega⟩
       rw[this];rfl
      subst Ct;go_wp2;refine bodyPost_ret (v:=.bool false) (by simp[results,Tryz.results187,go_sem]) rfl ⟨rfl,?_⟩;(repeat first|exact Hb.out| (refine Below.setCell ?_ (by have:=Hb.out.size;first| (dsimp only;omega) | (show _<=_;omega) | (simp<;>omega)) _) | (refine Below.alloc ?_ zt _) |refine Below.drew ?_)
    . have h2:¬(127:Int)<(c:Int):=by omega
      have bX:Hid (((l.take (k+1)).all λc=>decide (c.toNat<=127))=true):=by
       show _=_
       rw[List.take_succ_eq_append_getElem hk2,List.all_append,nR.out];simp;omega
      clear hc;go_wp2;go_roundw;case rel=>exact⟨k+1,by omega,by go_num,bX.out,Hb.out⟩
      case measure=>simp[intOf];omega
  . obtain rfl:k=n:=by omega
    have hme:M=decide ((k:Int)=v):=by rw[<-HM.out];have h:=nR.out;rw[List.take_of_length_le (by rw[Hn.out];exact Nat.le_refl _)]at h;unfold gh;rw[h,Hn.out,Bool.true_and]
    have Hme:=af hme;clear hme;go_wp2;refine bodyPost_ret (results_tmp rfl _ _ _) rfl ⟨?_,Hb.out⟩;rw[Hme.out];by_cases h:(k:Int)=v<;>simp[h]
theorem EZ (v:Int)(w:World):
 Calls Tryz.prog 146 #[.int .i64 v] w λe w'=>e=.returned (.bool (decide (0<=v/\v<=12)))/\Bw w w':=by
 have Hb:Hid (Bw w w):=Below.refl _ _;go_enter Tryz.func146,Tryz.ntmps146;by_cases h1:0<=v
 . by_cases h2:v<=12
   . go_wp2;refine bodyPost_ret (results_tmp rfl _ _ _) rfl ⟨?_,Hb.out⟩;simp[h2];omega
   . go_wp2;refine bodyPost_ret (results_tmp rfl _ _ _) rfl ⟨?_,Hb.out⟩;simp[h2]
 . go_wp2;refine bodyPost_ret (results_tmp rfl _ _ _) rfl ⟨?_,Hb.out⟩;simp;omega
end Go.Proofs.YtoopepmmepmfnaaGreatDoor
namespace Go.Proofs.YtoopepmmepmfnaaGreatDoor
end Go.Proofs.YtoopepmmepmfnaaGreatDoor
