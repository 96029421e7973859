/- Package dyad: Make,Form,Sign,Shift,Of,Neg,Abs. -/
import Derived.Test.YtoopepmmepmfnaaGreatDoorZ7
import Derived.Test.YtoopepmmepmfnaaGreatDoorZ8
import Derived.Test.YtoopepmmepmfnaaGreatDoorZ6
import Derived.Test.YtoopepmmepmfnaaGreatDoorZ1
set_option linter.unusedVariables false
set_option linter.unusedSimpArgs false
set_option maxRecDepth 100000
set_option maxHeartbeats 16000000
namespace Go.Proofs.YtoopepmmepmfnaaGreatDoor
open Go.RowKit
attribute [local go_sem ↓] Go.wp_at_zero Go.wp_at_succ
abbrev bQ (d:Dyadic):Value:=.agg #[.bool (aj (dN d)),.string (bs (nt (dN d).natAbs)),.int .i64 (dE d)]
theorem ady :(⟨#[]⟩:ByteArray)=bs []:=rfl
theorem akA (s:Bool)(l:List UInt8)(n:Nat)(Z:Int)(hZ:iv s l/2^n=Z)(w:World)(hl:l.length<=34359738368)(hn:n<=549755813888)(hT:au w):
 Calls Tryz.prog 38 #[.agg #[.bool s,.string (bs l)],.int .i64 (-(n:Int))] w λe w'=>e=.returned (bM Z)/\Bw w w':=by
 rcases Nat.eq_zero_or_pos n with h|h
 . subst h;subst hZ;have:=Gj s l 0 w zo zo;simpa using this
 . subst hZ;exact YB s l n w hl h zo hT
theorem alv (v k:Nat)(h:v<2^k):tz v<=k:=by
 rcases Nat.eq_zero_or_pos v with h0|h0
 . subst h0;exact Nat.zero_le _
 . obtain⟨m,hm⟩:=Yn v h0;rcases Nat.lt_or_ge k (tz v)with h1|h1
   . exfalso
     have h2:=Nat.pow_le_pow_right (show 0<2 by decide) (Nat.le_of_lt h1);have h3:2^tz v<=2^tz v* (2*m+1):=Nat.le_mul_of_pos_right _ zo;omega
   . exact h1
theorem Yk (n:Int):tz n.natAbs=n.trailingZeros:=by
 unfold tz;rcases Int.natAbs_eq n with h|h
 . rw[<-h]
 . conv=>rhs;rw[h]
   rw[Int.trailingZeros_neg]
theorem Kf (s:Bool)(l:List UInt8)(e:Int)(h:iv s l=0):ar (s,l,e)=0:=by unfold ar;simp only[h];exact uC _
theorem Ke (s:Bool)(l:List UInt8)(e:Int)(h:iv s l≠0):dN (ar (s,l,e))=iv s l/2^tz (nv l)/\dE (ar (s,l,e))=e+(tz (nv l):Int):=by have:=Rm (k:=-e) h;unfold ar;rw[show tz (nv l)=(iv s l).trailingZeros by rw[<-qo s l];exact Yk _];exact⟨this.1,by rw[this.2];omega⟩
theorem qG (s:Bool)(l:List UInt8)(e:Int)(D:Dyadic)(hD:ar (s,l,e)=D)(w:World)(hl:l.length<=34359738368)(he: -1099511627776<=e/\e<=1099511627776)(hT:au w):
 Calls Tryz.prog 27 #[.agg #[.bool s,.string (bs l)],.int .i64 e] w λex w'=>ex=.returned (bQ D)/\Bw w w':=by
 have mS:Hid (l.length<=1099511627776):=by show _<=_;omega
 have Iz:Hid (l.length<=68719476736):=by show _<=_;omega
 by_cases h0:iv s l=0
 . have h1:=Kf s l e h0;rw[hD]at h1;subst h1;clear hD;have h2:dO (iv s l)=0:=by rw[h0];rfl
   have H2:=af h2;clear h2;have Hv:Hid (bQ 0=.agg #[.bool false,.string (bs []),.int .i64 0]):=rfl;go_enter Tryz.func27,Tryz.ntmps27;have Hb:Hid (Bw w w):=Below.refl _ _;go_wp2_with fail;obtain⟨R,hR⟩:∃R:World->Prop,(λW=>ag W (w.heap.size) 32 [.bool s,.string (bs l)]/\ag W (w.heap.size+1) 39 [.bool false,.string (bs []),.int .i64 0]/\Bw w W)=R:=⟨_,rfl⟩;first|refine bB R ?hR ?_|refine bz R ?hR ?_
   case hR=>subst hR;exact⟨((ag.newAt w _ _ (b:=w.heap.size) rfl).alloc _),(ag.newAt (w.alloc _) _ _ (b:=w.heap.size+1) zm),(zl.alloc zj _)⟩
   subst hR;rintro W ⟨qx,qr,ae⟩;have Hx:=af qx;clear qx;have Hr:=af qr;clear qr;obtain⟨x0,x1⟩:=Hx.out.c2;obtain⟨r0,ah,r1,ai,r2,aB⟩:=Hr.out.g3;replace Hb:=ak Hb ae;clear ae;go_wp2_with fail;refine(Cs s l _ mS.out).mono ?_;rintro e w1 ⟨rfl,ae⟩;clear x0 x1 r0 ah r1 ai r2 aB;replace Hx:=kB Hx ae;replace Hr:=kB Hr ae;obtain⟨x0,x1⟩:=Hx.out.c2;obtain⟨r0,ah,r1,ai,r2,aB⟩:=Hr.out.g3;replace Hb:=ak Hb ae;clear ae;rw[H2.out];go_wp2;refine bodyPost_ret (v:=.agg #[.bool false,.string (bs []),.int .i64 0]) (by simp[results,Tryz.results27,go_sem,r0,r1,r2,ady]) rfl ⟨by rw[Hv.out],?_⟩;(repeat first|exact Hb.out| (refine Below.setCell ?_ (by have:=Hb.out.size;first| (dsimp only;omega) | (show _<=_;omega) | (simp<;>omega)) _) | (refine Below.alloc ?_ zt _) |refine Below.drew ?_)
 . obtain⟨h1,h2⟩:=Ke s l e h0;rw[hD]at h1 h2;clear hD;have hg0:dO (iv s l)≠0:=by unfold dO;split<;>(try split)<;>omega
   have Hg:Hid (∃g,dO (iv s l)=g/\g≠0):=⟨_,rfl,hg0⟩;obtain⟨g,hg,hg0⟩:=Hg.out;have Hg:=af hg;clear hg;have hn:tz (nv l)<=549755813888:=Nat.le_trans (alv (nv l) (8*l.length) (by have:=iF l;rwa [show(256:Nat)=2^8 by rfl,<-Nat.pow_mul]at this)) zo;obtain⟨n,hn0⟩:=az (tz (nv l));rw[hn0]at h1 h2 hn;have rB:=af hn0;clear hn0;obtain⟨Z,hZ⟩:=az (dN D);obtain⟨E,hE⟩:=az (dE D);rw[hZ]at h1;rw[hE]at h2;obtain⟨HZ,HE⟩:=aJ hZ hE;clear hZ hE;have H1:=af h1.symm;clear h1;have hwn:IntKind.i64.wrap (-(n:Int))= -(n:Int):=by rw[IntKind.wrap_i64];omega
   have Vx:IntKind.i64.wrap (e+(n:Int))=E:=by rw[IntKind.wrap_i64];omega
   clear h0 h2;go_enter Tryz.func27,Tryz.ntmps27;have Hb:Hid (Bw w w):=Below.refl _ _;go_wp2_with fail;obtain⟨R,hR⟩:∃R:World->Prop,(λW=>ag W (w.heap.size) 32 [.bool s,.string (bs l)]/\ag W (w.heap.size+1) 39 [.bool false,.string (bs []),.int .i64 0]/\Bw w W)=R:=⟨_,rfl⟩;first|refine bB R ?hR ?_|refine bz R ?hR ?_
   case hR=>subst hR;exact⟨((ag.newAt w _ _ (b:=w.heap.size) rfl).alloc _),(ag.newAt (w.alloc _) _ _ (b:=w.heap.size+1) zm),(zl.alloc zj _)⟩
   subst hR;rintro W ⟨qx,qr,ae⟩;have Hx:=af qx;clear qx;have Hr:=af qr;clear qr;obtain⟨x0,x1⟩:=Hx.out.c2;obtain⟨r0,ah,r1,ai,r2,aB⟩:=Hr.out.g3;replace Hb:=ak Hb ae;clear ae;go_wp2_with fail;refine(Cs s l _ mS.out).mono ?_;rintro e w1 ⟨rfl,ae⟩;clear x0 x1 r0 ah r1 ai r2 aB;replace Hx:=kB Hx ae;replace Hr:=kB Hr ae;obtain⟨x0,x1⟩:=Hx.out.c2;obtain⟨r0,ah,r1,ai,r2,aB⟩:=Hr.out.g3;replace Hb:=ak Hb ae;clear ae;rw[Hg.out];have HT:=af (hT.below Hb.out);go_wp2_with fail;refine(MM l _ Iz.out HT.out).mono ?_;rintro e w2 ⟨rfl,ae⟩;clear x0 x1 r0 ah r1 ai r2 aB;replace Hx:=kB Hx ae;replace Hr:=kB Hr ae;obtain⟨x0,x1⟩:=Hx.out.c2;obtain⟨r0,ah,r1,ai,r2,aB⟩:=Hr.out.g3;replace Hb:=ak Hb ae;clear ae;rw[rB.out];replace HT:=af (hT.below Hb.out);go_wp2_with fail;refine(akA s l n Z H1.out _ hl hn HT.out).mono ?_;rintro e w3 ⟨rfl,ae⟩;clear x0 x1 r0 ah r1 ai r2 aB;replace Hx:=kB Hx ae;replace Hr:=kB Hr ae;obtain⟨x0,x1⟩:=Hx.out.c2;obtain⟨r0,ah,r1,ai,r2,aB⟩:=Hr.out.g3;replace Hb:=ak Hb ae;clear ae;go_wp2;refine bodyPost_ret (v:=.agg #[.bool (aj Z),.string (bs (nt Z.natAbs)),.int .i64 E]) (by simp[results,Tryz.results27,go_sem,r0,r1,r2]) rfl ⟨by rw[<-HZ.out,<-HE.out],?_⟩;(repeat first|exact Hb.out| (refine Below.setCell ?_ (by have:=Hb.out.size;first| (dsimp only;omega) | (show _<=_;omega) | (simp<;>omega)) _) | (refine Below.alloc ?_ zt _) |refine Below.drew ?_)
theorem Ok.len {s:Bool}{l:List UInt8}{e:Int}(h:Ok (s,l,e)):l.length<=268435456:=h.1
theorem Ok.exp {s:Bool}{l:List UInt8}{e:Int}(h:Ok (s,l,e)): -268435456<=e/\e<=268435456:=h.2
theorem oH (s:Bool)(l:List UInt8)(e:Int)(D:Dyadic)(hD:ar (s,l,e)=D)(w:World)(hx:Ok (s,l,e))(hT:au w):
 Calls Tryz.prog 111 #[.agg #[.bool s,.string (bs l),.int .i64 e]] w λex w'=>ex=.returned (bQ D)/\Bw w w':=by
 have HD:=af hD;clear hD;have h1:=hx.len;have h2:=hx.exp;clear hx;have Hl:Hid (l.length<=34359738368):=by show _<=_;omega
 have He:Hid (-1099511627776<=e/\e<=1099511627776):=by show _/\_;omega
 go_enter Tryz.func111,Tryz.ntmps111;have Hb:Hid (Bw w w):=Below.refl _ _;go_wp2_with fail;obtain⟨R,hR⟩:∃R:World->Prop,(λW=>ag W (w.heap.size) 39 [.bool s,.string (bs l),.int .i64 e]/\ag W (w.heap.size+1) 39 [.bool false,.string (bs []),.int .i64 0]/\Bw w W)=R:=⟨_,rfl⟩;first|refine bB R ?hR ?_|refine bz R ?hR ?_
 case hR=>subst hR;exact⟨((ag.newAt w _ _ (b:=w.heap.size) rfl).alloc _),(ag.newAt (w.alloc _) _ _ (b:=w.heap.size+1) zm),(zl.alloc zj _)⟩
 subst hR;rintro W ⟨qx,qr,ae⟩;have Hx:=af qx;clear qx;have Hr:=af qr;clear qr;obtain⟨x0,x1,x2⟩:=Hx.out.c3;obtain⟨r0,ah,r1,ai,r2,aB⟩:=Hr.out.g3;replace Hb:=ak Hb ae;clear ae;have HT:=af (hT.below Hb.out);go_wp2_with fail;refine(qG s l e D HD.out _ Hl.out He.out HT.out).mono ?_;rintro e w1 ⟨rfl,ae⟩;clear x0 x1 x2 r0 ah r1 ai r2 aB;replace Hx:=kB Hx ae;replace Hr:=kB Hr ae;obtain⟨x0,x1,x2⟩:=Hx.out.c3;obtain⟨r0,ah,r1,ai,r2,aB⟩:=Hr.out.g3;replace Hb:=ak Hb ae;clear ae;go_wp2;refine bodyPost_ret (v:=bQ D) (by simp[results,Tryz.results111,go_sem,r0,r1,r2]) rfl ⟨rfl,?_⟩;(repeat first|exact Hb.out| (refine Below.setCell ?_ (by have:=Hb.out.size;first| (dsimp only;omega) | (show _<=_;omega) | (simp<;>omega)) _) | (refine Below.alloc ?_ zt _) |refine Below.drew ?_)
theorem yF (s:Bool)(l:List UInt8)(e n:Int)(D:Dyadic)(hD:ar (s,l,e+n)=D)(w:World)(hx:Ok (s,l,e))(hn: -268435456<=n/\n<=268435456)(hT:au w):
 Calls Tryz.prog 24 #[.agg #[.bool s,.string (bs l),.int .i64 e],.int .i64 n] w λex w'=>ex=.returned (bQ D)/\Bw w w':=by
 have h1:=hx.len;have h2:=hx.exp;clear hx;obtain⟨z,hz⟩:=az (e+n);have Vx:IntKind.i64.wrap (e+n)=z:=by rw[IntKind.wrap_i64];omega
 rw[hz]at hD;have HD:=af hD;clear hD;have Hl:Hid (l.length<=34359738368):=by show _<=_;omega
 have He:Hid (-1099511627776<=z/\z<=1099511627776):=by show _/\_;omega
 clear hz;go_enter Tryz.func24,Tryz.ntmps24;have Hb:Hid (Bw w w):=Below.refl _ _;go_wp2_with fail;obtain⟨R,hR⟩:∃R:World->Prop,(λW=>ag W (w.heap.size) 39 [.bool s,.string (bs l),.int .i64 e]/\ag W (w.heap.size+1) 39 [.bool false,.string (bs []),.int .i64 0]/\Bw w W)=R:=⟨_,rfl⟩;first|refine bB R ?hR ?_|refine bz R ?hR ?_
 case hR=>subst hR;exact⟨((ag.newAt w _ _ (b:=w.heap.size) rfl).alloc _),(ag.newAt (w.alloc _) _ _ (b:=w.heap.size+1) zm),(zl.alloc zj _)⟩
 subst hR;rintro W ⟨qx,qr,ae⟩;have Hx:=af qx;clear qx;have Hr:=af qr;clear qr;obtain⟨x0,x1,x2⟩:=Hx.out.c3;obtain⟨r0,ah,r1,ai,r2,aB⟩:=Hr.out.g3;replace Hb:=ak Hb ae;clear ae;have HT:=af (hT.below Hb.out);go_wp2_with fail;refine(qG s l z D HD.out _ Hl.out He.out HT.out).mono ?_;rintro e w1 ⟨rfl,ae⟩;clear x0 x1 x2 r0 ah r1 ai r2 aB;replace Hx:=kB Hx ae;replace Hr:=kB Hr ae;obtain⟨x0,x1,x2⟩:=Hx.out.c3;obtain⟨r0,ah,r1,ai,r2,aB⟩:=Hr.out.g3;replace Hb:=ak Hb ae;clear ae;go_wp2;refine bodyPost_ret (v:=bQ D) (by simp[results,Tryz.results24,go_sem,r0,r1,r2]) rfl ⟨rfl,?_⟩;(repeat first|exact Hb.out| (refine Below.setCell ?_ (by have:=Hb.out.size;first| (dsimp only;omega) | (show _<=_;omega) | (simp<;>omega)) _) | (refine Below.alloc ?_ zt _) |refine Below.drew ?_)
theorem XA (s:Bool)(l:List UInt8)(e:Int):dO (iv s l)=dO (dN (ar (s,l,e))):=by
 by_cases h0:iv s l=0
 . rw[Kf s l e h0,h0,JU]
 . rw[(Ke s l e h0).1];obtain⟨q,hq⟩:(2:Int)^tz (nv l)∣iv s l:=by rw[show tz (nv l)=(iv s l).trailingZeros by rw[<-qo s l];exact Yk _];exact Int.two_pow_trailingZeros_dvd h0
   have hp:(0:Int)<2^tz (nv l):=by
    have:((2^tz (nv l):Nat):Int)>0:=by have:=Nat.pow_pos (n:=tz (nv l)) (show 0<2 by decide);omega
    simpa[Int.natCast_pow]using this
   generalize (2:Int)^tz (nv l)=p at*;rw[hq,Int.mul_ediv_cancel_left _ zo];unfold dO;rcases Int.lt_trichotomy q 0 with h|h|h
   . have:=Int.mul_neg_of_pos_of_neg hp h;simp only[h,this,if_true]
   . subst h;simp
   . have:=Int.mul_pos hp h;rw[if_neg zo,if_neg zo,if_neg zo,if_neg zo]
abbrev aL (d:Dyadic):Int:=dO (dN d)
theorem lj (s:Bool)(l:List UInt8)(e:Int)(g:Int)(hg:aL (ar (s,l,e))=g)(w:World)(hx:Ok (s,l,e)):
 Calls Tryz.prog 65 #[.agg #[.bool s,.string (bs l),.int .i64 e]] w λex w'=>ex=.returned (.int .i64 g)/\Bw w w':=by
 have h1:=hx.len;clear hx;have Hg:Hid (dO (iv s l)=g):=by show _=_;rw[<-hg];exact XA s l e
 have Hl:Hid (l.length<=1099511627776):=by show _<=_;omega
 clear hg;go_enter Tryz.func65,Tryz.ntmps65;have Hb:Hid (Bw w w):=Below.refl _ _;go_wp2_with fail;obtain⟨R,hR⟩:∃R:World->Prop,(λW=>ag W (w.heap.size) 39 [.bool s,.string (bs l),.int .i64 e]/\Bw w W)=R:=⟨_,rfl⟩;first|refine bB R ?hR ?_|refine bz R ?hR ?_
 case hR=>subst hR;exact⟨(ag.newAt w _ _ (b:=w.heap.size) rfl),zl⟩
 subst hR;rintro W ⟨qx,ae⟩;have Hx:=af qx;clear qx;obtain⟨x0,x1,x2⟩:=Hx.out.c3;replace Hb:=ak Hb ae;clear ae;go_wp2_with fail;refine(Cs s l _ Hl.out).mono ?_;rintro e w1 ⟨rfl,ae⟩;clear x0 x1 x2;replace Hx:=kB Hx ae;obtain⟨x0,x1,x2⟩:=Hx.out.c3;replace Hb:=ak Hb ae;clear ae;rw[Hg.out];go_wp2;go_ret;exact⟨rfl,Hb.out⟩
theorem xL (n e:Int):ar (aj n,nt n.natAbs,e)=Dyadic.ofIntWithPrec n (-e):=by unfold ar;simp only[dI]
theorem rI (n:Int)(D:Dyadic)(hD:Dyadic.ofIntWithPrec n 0=D)(w:World)(hn: -9223372036854775808<=n/\n<=9223372036854775807)(hT:au w):
 Calls Tryz.prog 28 #[.int .i64 n] w λex w'=>ex=.returned (bQ D)/\Bw w w':=by
 obtain⟨N,hN⟩:=az n;have HD:Hid (ar (aj N,nt N.natAbs,0)=D):=by show _=_;rw[xL,<-hN];exact hD
 have Hl:Hid ((nt N.natAbs).length<=34359738368):=by
  show _<=_
  exact Nat.le_trans (lL (k:=8) zo) zd
 have HN:=af hN;clear hN hD;go_enter Tryz.func28,Tryz.ntmps28;have Hb:Hid (Bw w w):=Below.refl _ _;go_wp2_with fail;obtain⟨R,hR⟩:∃R:World->Prop,(λW=>ag W (w.heap.size) 39 [.bool false,.string (bs []),.int .i64 0]/\Bw w W)=R:=⟨_,rfl⟩;first|refine bB R ?hR ?_|refine bz R ?hR ?_
 case hR=>subst hR;exact⟨(ag.newAt w _ _ (b:=w.heap.size) rfl),zl⟩
 subst hR;rintro W ⟨qr,ae⟩;have Hr:=af qr;clear qr;obtain⟨r0,ah,r1,ai,r2,aB⟩:=Hr.out.g3;replace Hb:=ak Hb ae;clear ae;go_wp2_with fail;refine(Gi n N HN.out _ hn.1 hn.2).mono ?_;rintro e w1 ⟨rfl,ae⟩;clear r0 ah r1 ai r2 aB;replace Hr:=kB Hr ae;obtain⟨r0,ah,r1,ai,r2,aB⟩:=Hr.out.g3;replace Hb:=ak Hb ae;clear ae;have HT:=af (hT.below Hb.out);go_wp2_with fail;refine(qG (aj N) (nt N.natAbs) 0 D HD.out _ Hl.out zo HT.out).mono ?_;rintro e w2 ⟨rfl,ae⟩;clear r0 ah r1 ai r2 aB;replace Hr:=kB Hr ae;obtain⟨r0,ah,r1,ai,r2,aB⟩:=Hr.out.g3;replace Hb:=ak Hb ae;clear ae;go_wp2;refine bodyPost_ret (v:=bQ D) (by simp[results,Tryz.results28,go_sem,r0,r1,r2]) rfl ⟨rfl,?_⟩;(repeat first|exact Hb.out| (refine Below.setCell ?_ (by have:=Hb.out.size;first| (dsimp only;omega) | (show _<=_;omega) | (simp<;>omega)) _) | (refine Below.alloc ?_ zt _) |refine Below.drew ?_)
theorem JV (s:Bool)(l:List UInt8)(e:Int)(D:Dyadic)(hD: -ar (s,l,e)=D)(w:World)(hx:Ok (s,l,e))(hT:au w):
 Calls Tryz.prog 148 #[.agg #[.bool s,.string (bs l),.int .i64 e]] w λex w'=>ex=.returned (bQ D)/\Bw w w':=by
 have h1:=hx.len;have h2:=hx.exp;clear hx;obtain⟨N,hN⟩:=az (-(iv s l));have HD:Hid (ar (aj N,nt N.natAbs,e)=D):=by
  show _=_
  rw[xL,<-hN,<-hD];unfold ar;rw[FJ]
 have Hl:Hid ((nt N.natAbs).length<=34359738368):=by show _<=_;rw[<-hN];exact BQ s l _ zo
 have mS:Hid (l.length<=1099511627776):=by show _<=_;omega
 have He:Hid (-1099511627776<=e/\e<=1099511627776):=by show _/\_;omega
 have HN:=af hN;clear hN hD;go_enter Tryz.func148,Tryz.ntmps148;have Hb:Hid (Bw w w):=Below.refl _ _;go_wp2_with fail;obtain⟨R,hR⟩:∃R:World->Prop,(λW=>ag W (w.heap.size) 39 [.bool s,.string (bs l),.int .i64 e]/\ag W (w.heap.size+1) 39 [.bool false,.string (bs []),.int .i64 0]/\Bw w W)=R:=⟨_,rfl⟩;first|refine bB R ?hR ?_|refine bz R ?hR ?_
 case hR=>subst hR;exact⟨((ag.newAt w _ _ (b:=w.heap.size) rfl).alloc _),(ag.newAt (w.alloc _) _ _ (b:=w.heap.size+1) zm),(zl.alloc zj _)⟩
 subst hR;rintro W ⟨qx,qr,ae⟩;have Hx:=af qx;clear qx;have Hr:=af qr;clear qr;obtain⟨x0,x1,x2⟩:=Hx.out.c3;obtain⟨r0,ah,r1,ai,r2,aB⟩:=Hr.out.g3;replace Hb:=ak Hb ae;clear ae;refine cf (λw'=>w'.cell? ⟨w.heap.size,0,none⟩=some (.bool s)/\w'.cell? ⟨w.heap.size,1,none⟩=some (.string (bs l))/\w'.cell? ⟨w.heap.size,2,none⟩=some (.int .i64 e)) (λi=>Nat.blt i 6) [(0,true),(1,true),(3,true),(4,true),(2,false),(5,false),(6,false)] zk zk rfl zk zc ⟨x0,x1,x2⟩ ?_;iterate 4 (refine pT rfl rfl ?_ (by intro w' ⟨q0,q1,q2⟩;go_simp;try with_reducible rfl);try simp only[UU])
 refine aF rfl rfl (λK hK=>?_);go_simp;with_reducible refine(Gh s l N HN.out _ mS.out).mono ?_
 rintro e w1 ⟨rfl,hq⟩;have ae:Bw W w1:=by first|exact hq|exact aK hq
 clear x0 x1 x2 r0 ah r1 ai r2 aB;replace Hx:=kB Hx ae;replace Hr:=kB Hr ae;obtain⟨x0,x1,x2⟩:=Hx.out.c3;obtain⟨r0,ah,r1,ai,r2,aB⟩:=Hr.out.g3;replace Hb:=ak Hb ae;clear ae;refine hK _ _ (λ_=>⟨x0,x1,x2⟩) ?_;clear hK K;try simp only[UU]
 refine aF rfl rfl (λK hK=>?_);go_simp;with_reducible refine(qG (aj N) (nt N.natAbs) e D HD.out _ Hl.out He.out (hT.below Hb.out)).mono ?_
 rintro e w2 ⟨rfl,hq⟩;have ae:Bw w1 w2:=by first|exact hq|exact aK hq
 clear x0 x1 x2 r0 ah r1 ai r2 aB;replace Hx:=kB Hx ae;replace Hr:=kB Hr ae;obtain⟨x0,x1,x2⟩:=Hx.out.c3;obtain⟨r0,ah,r1,ai,r2,aB⟩:=Hr.out.g3;replace Hb:=ak Hb ae;clear ae;refine hK _ _ (λ_=>⟨x0,x1,x2⟩) ?_;clear hK K;try simp only[UU]
 refine aF rfl rfl (λK hK=>?_);go_simp;refine hK _ _ (λh=>absurd h zd) ?_;clear hK K;try simp only[UU]
 clear x0 x1 x2 r0 ah r1 ai r2 aB;refine cj (bf w2 (w.heap.size+1) 0 [.bool (aj (dN D)),.string (bs (nt (dN D).natAbs)),.int .i64 (dE D)]) bI ?_;intro w3 hs;replace Hx:=kS Hx hs zo;replace Hr:=cp Hr hs;obtain⟨x0,x1,x2⟩:=Hx.out.c3;obtain⟨r0,ah,r1,ai,r2,aB⟩:=Hr.out.g3;replace Hb:=bS Hb hs ZS;clear hs;simp only[aN];go_wp2;refine bodyPost_ret (v:=bQ D) (by simp[results,Tryz.results148,go_sem,r0,r1,r2]) rfl ⟨rfl,?_⟩;(repeat first|exact Hb.out| (refine Below.setCell ?_ (by have:=Hb.out.size;first| (dsimp only;omega) | (show _<=_;omega) | (simp<;>omega)) _) | (refine Below.alloc ?_ zt _) |refine Below.drew ?_)
theorem au.drew {w:World}(h:au w):au w.drew:=h
theorem au.alloc {w:World}(h:au w)(o:Obj):au (w.alloc o):=λj hj=>aH (h j hj)
def kI (v k:Int):Int:=if 0<=k then v*2^k.toNat else v/2^(-k).toNat
theorem alQ (s:Bool)(l:List UInt8)(k Z:Int)(hZ:kI (iv s l) k=Z)(w:World)(hl:l.length<=34359738368)(hk: -549755813888<=k/\k<=549755813888)(hT:au w):
 Calls Tryz.prog 38 #[.agg #[.bool s,.string (bs l)],.int .i64 k] w λe w'=>e=.returned (bM Z)/\Bw w w':=by
 subst hZ;unfold kI;split
 . rename_i h
   have:=Gj s l k.toNat w zo zo;rw[Int.toNat_of_nonneg h]at this;exact this
 . rename_i h
   have:=YB s l (-k).toNat w hl zo zo hT;rw[Int.toNat_of_nonneg zo,Int.neg_neg]at this;exact this
theorem yw (s:Bool)(l:List UInt8)(e g Z:Int)(hZ:kI (iv s l) (e-g)=Z)(w:World)(hl:l.length<=34359738368)(hk: -549755813888<=e-g/\e-g<=549755813888)(hT:au w):
 Calls Tryz.prog 112 #[.int .i64 g,.agg #[.bool s,.string (bs l),.int .i64 e]] w λe w'=>e=.returned (bM Z)/\Bw w w':=by
 obtain⟨k,eY⟩:=az (e-g);have Vx:IntKind.i64.wrap (e-g)=k:=by rw[IntKind.wrap_i64];omega
 rw[eY]at hZ hk;have HZ:=af hZ;clear hZ eY;go_enter Tryz.func112,Tryz.ntmps112;have Hb:Hid (Bw w w):=Below.refl _ _;go_wp2_with fail;obtain⟨R,hR⟩:∃R:World->Prop,(λW=>ag W (w.heap.size) 39 [.bool s,.string (bs l),.int .i64 e]/\ag W (w.heap.size+1) 32 [.bool false,.string (bs [])]/\Bw w W)=R:=⟨_,rfl⟩;first|refine bB R ?hR ?_|refine bz R ?hR ?_
 case hR=>subst hR;exact⟨((ag.newAt w _ _ (b:=w.heap.size) rfl).alloc _),(ag.newAt (w.alloc _) _ _ (b:=w.heap.size+1) zm),(zl.alloc zj _)⟩
 subst hR;rintro W ⟨qx,qr,ae⟩;have Hx:=af qx;clear qx;have Hr:=af qr;clear qr;obtain⟨x0,x1,x2⟩:=Hx.out.c3;obtain⟨r0,ah,r1,ai⟩:=Hr.out.g2;replace Hb:=ak Hb ae;clear ae;have HT:=af (hT.below Hb.out);go_wp2_with fail;refine(alQ s l k Z HZ.out _ hl hk HT.out).mono ?_;rintro e w1 ⟨rfl,ae⟩;clear x0 x1 x2 r0 ah r1 ai;replace Hx:=kB Hx ae;replace Hr:=kB Hr ae;obtain⟨x0,x1,x2⟩:=Hx.out.c3;obtain⟨r0,ah,r1,ai⟩:=Hr.out.g2;replace Hb:=ak Hb ae;clear ae;go_wp2;refine bodyPost_ret (v:=bM Z) (by simp[results,Tryz.results112,go_sem,r0,r1]) rfl ⟨rfl,?_⟩;(repeat first|exact Hb.out| (refine Below.setCell ?_ (by have:=Hb.out.size;first| (dsimp only;omega) | (show _<=_;omega) | (simp<;>omega)) _) | (refine Below.alloc ?_ zt _) |refine Below.drew ?_)
def qw (A B:Dyadic):Int:=if A=0 then dE B else if B=0 then dE A else min (dE A) (dE B)
theorem uB (A:Dyadic):A=Dyadic.ofIntWithPrec (dN A) (-(dE A)):=by have:=bC A;unfold ar canon at this;simp only[dI]at this;exact this.symm
theorem Xb (A:Dyadic)(g:Int)(h:A=0\/g<=dE A):A=Dyadic.ofIntWithPrec (kI (dN A) (dE A-g)) (-g):=by
 rcases h with h|h
 . subst h;have:kI (dN 0) (dE 0-g)=0:=by unfold kI;rw[JU];split<;>simp
   rw[this,uC]
 . unfold kI;rw[if_pos zo];have:=mG (dN A) (dE A-g).toNat (-(dE A));rw[show-(dE A)+((dE A-g).toNat:Int)= -g by omega]at this;rw[this];exact uB A
theorem ah7 (A B:Dyadic):(A=0\/qw A B<=dE A)/\(B=0\/qw A B<=dE B):=by
 unfold qw;split
 . exact⟨.inl ‹_›,.inr zo⟩
 . split
   . exact⟨.inr zo,.inl ‹_›⟩
   . exact⟨.inr zo,.inr zo⟩
theorem WQ {A:Dyadic}:A=0\/((nt (dN A).natAbs)≠[]/\A≠0):=by
 by_cases h:A=0
 . exact .inl h
 . refine .inr ⟨?_,h⟩;intro h2;apply h;have:(dN A).natAbs=0:=by rw[<-iG (dN A).natAbs,h2];rfl
   rw[uB A,show dN A=0 by omega,uC]
theorem Ok.parts {x:Raw}(h:Ok x):(nt (dN (ar x)).natAbs).length<=1073741824/\ -4294967296<=dE (ar x)/\dE (ar x)<=4294967296:=by obtain⟨B,hB,hs⟩:∃B,B<=4294967296/\Sm B (ar x):=⟨4294967296,Nat.le_refl _,h.sm⟩;obtain⟨h1,h2,h3⟩:=hs.parts;exact⟨jf h1 zo,by clear h1;omega,by clear h1;omega⟩
theorem VW (s:Bool)(l:List UInt8)(e:Int)(t:Bool)(m:List UInt8)(f:Int)(A B:Dyadic)(hA:ar (s,l,e)=A)(hB:ar (t,m,f)=B)(g X Y:Int)(hg:qw A B=g)(hX:kI (dN A) (dE A-g)=X)(hY:kI (dN B) (dE B-g)=Y)
 (w:World) (hx:Ok (s,l,e)) (hy:Ok (t,m,f)) (hT:au w):
 Calls Tryz.prog 66 #[.agg #[.bool s,.string (bs l),.int .i64 e],.agg #[.bool t,.string (bs m),.int .i64 f]] w λex w'=>ex=.returned (.agg #[.int .i64 g,.bool (aj X),.string (bs (nt X.natAbs)),.bool (aj Y),.string (bs (nt Y.natAbs))])/\Bw w w':=by
 have pA:=hx.parts;rw[hA]at pA;have pB:=hy.parts;rw[hB]at pB;obtain⟨HA,HB⟩:=aJ hA hB;clear hA hB;obtain⟨a,ha⟩:=az (nt (dN A).natAbs);obtain⟨p,hp⟩:=az (aj (dN A));obtain⟨i,hi⟩:=az (dE A);obtain⟨b,hb⟩:=az (nt (dN B).natAbs);obtain⟨q,hq⟩:=az (aj (dN B));obtain⟨j,hj⟩:=az (dE B);have rN:kI (iv p a) (i-g)=X:=by rw[<-hp,<-ha,dI,<-hi];exact hX
 have Tg:kI (iv q b) (j-g)=Y:=by rw[<-hq,<-hb,dI,<-hj];exact hY
 have Pn:Hid (∀W,au W->Calls Tryz.prog 111 #[.agg #[.bool s,.string (bs l),.int .i64 e]] W λex w'=>ex=.returned (.agg #[.bool p,.string (bs a),.int .i64 i])/\Bw W w'):=by intro W hW;rw[<-hp,<-ha,<-hi];exact oH s l e A HA.out W hx hW
 have Po:Hid (∀W,au W->Calls Tryz.prog 111 #[.agg #[.bool t,.string (bs m),.int .i64 f]] W λex w'=>ex=.returned (.agg #[.bool q,.string (bs b),.int .i64 j])/\Bw W w'):=by intro W hW;rw[<-hq,<-hb,<-hj];exact oH t m f B HB.out W hy hW
 have hlv:(A=0/\g=j)\/(A≠0/\B=0/\g=i)\/(A≠0/\B≠0/\g=min i j):=by
  rw[<-hg];unfold qw;by_cases h1:A=0
  . simp[h1,hj]
  . by_cases h2:B=0<;>simp[h1,h2,hi,hj]
 rw[ha,hi]at pA;rw[hb,hj]at pB;have zA:A=0->(p=false/\a=[]/\i=0):=by rintro rfl;exact⟨hp.symm,ha.symm,hi.symm⟩
 have zB:B=0->(q=false/\b=[]/\j=0):=by rintro rfl;exact⟨hq.symm,hb.symm,hj.symm⟩
 have nA:A≠0->a≠[]:=by intro h;rw[<-ha];rcases WQ (A:=A)with h2|h2;exact absurd h2 h;exact h2.1
 have nB:B≠0->b≠[]:=by intro h;rw[<-hb];rcases WQ (A:=B)with h2|h2;exact absurd h2 h;exact h2.1
 have Ub: -549755813888<=i-g/\i-g<=549755813888:=by rcases hlv with⟨_,h⟩ |⟨_,_,h⟩ |⟨_,_,h⟩<;>omega
 have Uc: -549755813888<=j-g/\j-g<=549755813888:=by rcases hlv with⟨_,h⟩ |⟨_,_,h⟩ |⟨_,_,h⟩<;>omega
 obtain⟨HX,HY⟩:=aJ rN Tg;have La:Hid (a.length<=34359738368):=by show _<=_;omega
 have Lb:Hid (b.length<=34359738368):=by show _<=_;omega
 obtain⟨Ir,Iu⟩:=aJ Ub Uc;clear rN Tg hX hY hg ha hp hi hb hq hj Ub Uc HA HB hx hy;go_enter Tryz.func66,Tryz.ntmps66;have Hb:Hid (Bw w w):=Below.refl _ _;go_wp2_with fail;obtain⟨R,hR⟩:∃R:World->Prop,(λW=>ag W (w.heap.size) 39 [.bool s,.string (bs l),.int .i64 e]/\ag W (w.heap.size+1) 39 [.bool t,.string (bs m),.int .i64 f]/\ag W (w.heap.size+1+1) 100 [.int .i64 0,.bool false,.string (bs []),.bool false,.string (bs [])]/\Bw w W)=R:=⟨_,rfl⟩;first|refine bB R ?hR ?_|refine bz R ?hR ?_
 case hR=>subst hR;exact⟨(((ag.newAt w _ _ (b:=w.heap.size) rfl).alloc _).alloc _),((ag.newAt (w.alloc _) _ _ (b:=w.heap.size+1) zm).alloc _),(ag.newAt ((w.alloc _).alloc _) _ _ (b:=w.heap.size+1+1) zm),((zl.alloc zj _).alloc zj _)⟩
 subst hR;rintro W ⟨qx,qy,qr,ae⟩;have Hx:=af qx;clear qx;have Hy:=af qy;clear qy;have Hr:=af qr;clear qr;obtain⟨x0,cu,x1,cw,x2,cK⟩:=Hx.out.g3;obtain⟨y0,bN,y1,bO,y2,cg⟩:=Hy.out.g3;obtain⟨r0,ah,r1,ai,r2,aB,r3,aY,r4,bo⟩:=Hr.out.g5;replace Hb:=ak Hb ae;clear ae;have HT:=af (hT.below Hb.out);refine cf (λw'=>w'.cell? ⟨w.heap.size,0,none⟩=some (.bool s)/\w'.cell? ⟨w.heap.size,1,none⟩=some (.string (bs l))/\w'.cell? ⟨w.heap.size,2,none⟩=some (.int .i64 e)/\w'.cell? ⟨w.heap.size+1,0,none⟩=some (.bool t)/\w'.cell? ⟨w.heap.size+1,1,none⟩=some (.string (bs m))/\w'.cell? ⟨w.heap.size+1,2,none⟩=some (.int .i64 f)) (λi=>Nat.blt i 4) [(0,true),(2,true),(1,false),(3,false),(4,false),(5,false)] zk zk rfl zk zc ⟨x0,x1,x2,y0,y1,y2⟩ ?_;iterate 2 (refine pT rfl rfl ?_ (by intro w' ⟨q0,q1,q2,q3,q4,q5⟩;go_simp;try with_reducible rfl);try simp only[UU])
 refine aF rfl rfl (λK hK=>?_);go_simp;with_reducible refine(Pn.out _ (by first|exact HT.out|exact au.drew HT.out|exact au.alloc HT.out _|exact au.drew (au.alloc HT.out _) |exact au.alloc (au.drew HT.out) _)).mono ?_
 rintro e w1 ⟨rfl,hq⟩;have ae:Bw W w1:=by first|exact hq|exact aK hq
 clear x0 cu x1 cw x2 cK y0 bN y1 bO y2 cg r0 ah r1 ai r2 aB r3 aY r4 bo;replace Hx:=kB Hx ae;replace Hy:=kB Hy ae;replace Hr:=kB Hr ae;obtain⟨x0,cu,x1,cw,x2,cK⟩:=Hx.out.g3;obtain⟨y0,bN,y1,bO,y2,cg⟩:=Hy.out.g3;obtain⟨r0,ah,r1,ai,r2,aB,r3,aY,r4,bo⟩:=Hr.out.g5;replace Hb:=ak Hb ae;clear ae;refine hK _ _ (λ_=>⟨x0,x1,x2,y0,y1,y2⟩) ?_;clear hK K;try simp only[UU]
 refine aF rfl rfl (λK hK=>?_);go_simp;with_reducible refine(Po.out _ (by first|exact(hT.below Hb.out) |exact au.drew (hT.below Hb.out) |exact au.alloc (hT.below Hb.out) _|exact au.drew (au.alloc (hT.below Hb.out) _) |exact au.alloc (au.drew (hT.below Hb.out)) _)).mono ?_
 rintro e w2 ⟨rfl,hq⟩;have ae:Bw w1 w2:=by first|exact hq|exact aK hq
 clear x0 cu x1 cw x2 cK y0 bN y1 bO y2 cg r0 ah r1 ai r2 aB r3 aY r4 bo;replace Hx:=kB Hx ae;replace Hy:=kB Hy ae;replace Hr:=kB Hr ae;obtain⟨x0,cu,x1,cw,x2,cK⟩:=Hx.out.g3;obtain⟨y0,bN,y1,bO,y2,cg⟩:=Hy.out.g3;obtain⟨r0,ah,r1,ai,r2,aB,r3,aY,r4,bo⟩:=Hr.out.g5;replace Hb:=ak Hb ae;clear ae;refine hK _ _ (λ_=>⟨x0,x1,x2,y0,y1,y2⟩) ?_;clear hK K;try simp only[UU]
 refine aF rfl rfl (λK hK=>?_);go_simp;refine hK _ _ (λh=>absurd h zd) ?_;clear hK K;try simp only[UU]
 clear x0 cu x1 cw x2 cK y0 bN y1 bO y2 cg r0 ah r1 ai r2 aB r3 aY r4 bo;refine cj (bf w2 (w.heap.size) 0 [.bool p,.string (bs a),.int .i64 i]) bI ?_;intro w3 hs;replace Hx:=cp Hx hs;replace Hy:=kS Hy hs zo;replace Hr:=kS Hr hs zo;obtain⟨x0,cu,x1,cw,x2,cK⟩:=Hx.out.g3;obtain⟨y0,bN,y1,bO,y2,cg⟩:=Hy.out.g3;obtain⟨r0,ah,r1,ai,r2,aB,r3,aY,r4,bo⟩:=Hr.out.g5;replace Hb:=bS Hb hs ZS;clear hs;refine aF rfl rfl (λK hK=>?_);go_simp;refine hK _ _ (λh=>absurd h zd) ?_;clear hK K;try simp only[UU]
 clear x0 cu x1 cw x2 cK y0 bN y1 bO y2 cg r0 ah r1 ai r2 aB r3 aY r4 bo;refine cj (bf w3 (w.heap.size+1) 0 [.bool q,.string (bs b),.int .i64 j]) bI ?_;intro w4 hs;replace Hx:=kS Hx hs zo;replace Hy:=cp Hy hs;replace Hr:=kS Hr hs zo;obtain⟨x0,cu,x1,cw,x2,cK⟩:=Hx.out.g3;obtain⟨y0,bN,y1,bO,y2,cg⟩:=Hy.out.g3;obtain⟨r0,ah,r1,ai,r2,aB,r3,aY,r4,bo⟩:=Hr.out.g5;replace Hb:=bS Hb hs ZS;clear hs;simp only[aN];have zR:=Hr;clear x0 x1 x2 cu cw cK y0 y1 y2 bN bO cg r0 r1 r2 r3 r4 ah ai aB aY bo HT Pn Po;rcases hlv with⟨h1,h2⟩ |⟨h1,h3,h2⟩ |⟨h1,h3,h2⟩
 . obtain⟨rfl,rfl,rfl⟩:=zA h1;subst h2;have z1:(bs []).toList=[]:=iY _;clear zA zB nA nB pA pB;obtain⟨x0,cu,x1,cw,x2,cK⟩:=Hx.out.g3;obtain⟨y0,bN,y1,bO,y2,cg⟩:=Hy.out.g3;obtain⟨r0,ah,r1,ai,r2,aB,r3,aY,r4,bo⟩:=Hr.out.g5;have Wt:=Hx.out.lt;have Wu:=Hy.out.lt;have Fl:=Hr.out.lt;go_wp2_with fail;obtain⟨R,hR⟩:∃R:World->Prop,(λW5=>ag W5 (w4.heap.size) 100 [.int .i64 g,.bool false,.string (bs []),.bool false,.string (bs [])]/\Bw w4 W5)=R:=⟨_,rfl⟩;first|refine bB R ?hR ?_|refine bz R ?hR ?_
   case hR=>subst hR;exact⟨(ag.newAt w4 _ _ (b:=w4.heap.size) rfl),zl⟩
   subst hR;rintro W5 ⟨qn,ae⟩;have Hn:=af qn;clear qn x0 cu x1 cw x2 cK;replace Hx:=kB Hx ae;obtain⟨x0,cu,x1,cw,x2,cK⟩:=Hx.out.g3;clear y0 bN y1 bO y2 cg;replace Hy:=kB Hy ae;obtain⟨y0,bN,y1,bO,y2,cg⟩:=Hy.out.g3;clear r0 ah r1 ai r2 aB r3 aY r4 bo;replace Hr:=kB Hr ae;obtain⟨r0,ah,r1,ai,r2,aB,r3,aY,r4,bo⟩:=Hr.out.g5;obtain⟨n0,eP,n1,eQ,n2,eT,n3,fp,n4,fq⟩:=Hn.out.g5;replace Hb:=ak Hb ae;clear ae;have hns:w.heap.size+1+1<w4.heap.size:=zR.out.lt;refine cf (λw'=>w'.cell? ⟨w.heap.size,0,none⟩=some (.bool false)/\w'.cell? ⟨w.heap.size,1,none⟩=some (.string (bs []))/\w'.cell? ⟨w.heap.size,2,none⟩=some (.int .i64 0)/\w'.cell? ⟨w.heap.size+1,0,none⟩=some (.bool q)/\w'.cell? ⟨w.heap.size+1,1,none⟩=some (.string (bs b))/\w'.cell? ⟨w.heap.size+1,2,none⟩=some (.int .i64 g)/\w'.cell? ⟨w4.heap.size,0,none⟩=some (.int .i64 g)) (λi=>Nat.blt i 11) [(0,true),(1,true),(2,true),(4,true),(5,true),(6,true),(3,false),(8,true),(7,false),(9,false),(10,true),(11,false)] zk zk rfl zk zc ⟨x0,x1,x2,y0,y1,y2,n0⟩ ?_;iterate 6 (refine pT rfl rfl ?_ (by intro w' ⟨q0,q1,q2,q3,q4,q5,q6⟩;go_simp;try with_reducible rfl);try simp only[UU])
   refine aF rfl rfl (λK hK=>?_);go_simp;with_reducible refine(yw false [] 0 g X HX.out _ La.out Ir.out (by first|exact(hT.below Hb.out) |exact au.drew (hT.below Hb.out) |exact au.alloc (hT.below Hb.out) _|exact au.drew (au.alloc (hT.below Hb.out) _) |exact au.alloc (au.drew (hT.below Hb.out)) _)).mono ?_
   rintro e w6 ⟨rfl,hq⟩;have ae:Bw W5 w6:=by first|exact hq|exact aK hq
   clear x0 cu x1 cw x2 cK y0 bN y1 bO y2 cg r0 ah r1 ai r2 aB r3 aY r4 bo n0 eP n1 eQ n2 eT n3 fp n4 fq;replace Hx:=kB Hx ae;replace Hy:=kB Hy ae;replace Hr:=kB Hr ae;replace Hn:=kB Hn ae;obtain⟨x0,cu,x1,cw,x2,cK⟩:=Hx.out.g3;obtain⟨y0,bN,y1,bO,y2,cg⟩:=Hy.out.g3;obtain⟨r0,ah,r1,ai,r2,aB,r3,aY,r4,bo⟩:=Hr.out.g5;obtain⟨n0,eP,n1,eQ,n2,eT,n3,fp,n4,fq⟩:=Hn.out.g5;replace Hb:=ak Hb ae;clear ae;refine hK _ _ (λ_=>⟨x0,x1,x2,y0,y1,y2,n0⟩) ?_;clear hK K;try simp only[UU]
   refine pT rfl rfl ?_;try simp only[UU]
   refine aF rfl rfl (λK hK=>?_);go_simp;with_reducible refine(yw q b g g Y HY.out _ Lb.out Iu.out (by first|exact(hT.below Hb.out) |exact au.drew (hT.below Hb.out) |exact au.alloc (hT.below Hb.out) _|exact au.drew (au.alloc (hT.below Hb.out) _) |exact au.alloc (au.drew (hT.below Hb.out)) _)).mono ?_
   rintro e w7 ⟨rfl,hq⟩;have ae:Bw w6 w7:=by first|exact hq|exact aK hq
   clear x0 cu x1 cw x2 cK y0 bN y1 bO y2 cg r0 ah r1 ai r2 aB r3 aY r4 bo n0 eP n1 eQ n2 eT n3 fp n4 fq;replace Hx:=kB Hx ae;replace Hy:=kB Hy ae;replace Hr:=kB Hr ae;replace Hn:=kB Hn ae;obtain⟨x0,cu,x1,cw,x2,cK⟩:=Hx.out.g3;obtain⟨y0,bN,y1,bO,y2,cg⟩:=Hy.out.g3;obtain⟨r0,ah,r1,ai,r2,aB,r3,aY,r4,bo⟩:=Hr.out.g5;obtain⟨n0,eP,n1,eQ,n2,eT,n3,fp,n4,fq⟩:=Hn.out.g5;replace Hb:=ak Hb ae;clear ae;refine hK _ _ (λ_=>⟨x0,x1,x2,y0,y1,y2,n0⟩) ?_;clear hK K;try simp only[UU]
   refine aF rfl rfl (λK hK=>?_);go_simp;refine hK _ _ (λ_=>⟨(aC zf (aC zf x0)),(aC zf (aC zf x1)),(aC zf (aC zf x2)),(aC zf (aC zf y0)),(aC zf (aC zf y1)),(aC zf (aC zf y2)),(aC zf (aC zf n0))⟩) ?_;clear hK K;try simp only[UU]
   clear x0 cu x1 cw x2 cK y0 bN y1 bO y2 cg r0 ah r1 ai r2 aB r3 aY r4 bo n0 eP n1 eQ n2 eT n3 fp n4 fq;refine cj (bf w7 (w4.heap.size) 1 [.bool (aj X),.string (bs (nt X.natAbs))]) bI ?_;intro w8 hs;replace Hx:=kS Hx hs zo;replace Hy:=kS Hy hs zo;replace Hr:=kS Hr hs zo;replace Hn:Hid (ag w8 (w4.heap.size) 100 [.int .i64 g,.bool (aj X),.string (bs (nt X.natAbs)),.bool false,.string (bs [])]):=vY Hn hs;obtain⟨x0,cu,x1,cw,x2,cK⟩:=Hx.out.g3;obtain⟨y0,bN,y1,bO,y2,cg⟩:=Hy.out.g3;obtain⟨r0,ah,r1,ai,r2,aB,r3,aY,r4,bo⟩:=Hr.out.g5;obtain⟨n0,eP,n1,eQ,n2,eT,n3,fp,n4,fq⟩:=Hn.out.g5;replace Hb:=bS Hb hs ZS;clear hs;refine pT rfl rfl ?_;try simp only[UU]
   refine aF rfl rfl (λK hK=>?_);go_simp;refine hK _ _ (λh=>absurd h zd) ?_;clear hK K;try simp only[UU]
   clear x0 cu x1 cw x2 cK y0 bN y1 bO y2 cg r0 ah r1 ai r2 aB r3 aY r4 bo n0 eP n1 eQ n2 eT n3 fp n4 fq;refine cj (bf w8 (w4.heap.size) 3 [.bool (aj Y),.string (bs (nt Y.natAbs))]) bI ?_;intro w9 hs;replace Hx:=kS Hx hs zo;replace Hy:=kS Hy hs zo;replace Hr:=kS Hr hs zo;replace Hn:Hid (ag w9 (w4.heap.size) 100 [.int .i64 g,.bool (aj X),.string (bs (nt X.natAbs)),.bool (aj Y),.string (bs (nt Y.natAbs))]):=vY Hn hs;obtain⟨x0,cu,x1,cw,x2,cK⟩:=Hx.out.g3;obtain⟨y0,bN,y1,bO,y2,cg⟩:=Hy.out.g3;obtain⟨r0,ah,r1,ai,r2,aB,r3,aY,r4,bo⟩:=Hr.out.g5;obtain⟨n0,eP,n1,eQ,n2,eT,n3,fp,n4,fq⟩:=Hn.out.g5;replace Hb:=bS Hb hs ZS;clear hs;simp only[aN];go_wp2;refine bodyPost_ret (v:=.agg #[.int .i64 g,.bool (aj X),.string (bs (nt X.natAbs)),.bool (aj Y),.string (bs (nt Y.natAbs))]) (by simp[results,Tryz.results66,go_sem,r0,r1,r2,r3,r4]) rfl ⟨rfl,?_⟩;(repeat first|exact Hb.out| (refine Below.setCell ?_ (by have:=Hb.out.size;first| (dsimp only;omega) | (show _<=_;omega) | (simp<;>omega)) _) | (refine Below.alloc ?_ zt _) |refine Below.drew ?_)
 . obtain⟨rfl,rfl,rfl⟩:=zB h3;subst h2;have z1:(bs []).toList=[]:=iY _;have z2:¬(bs a).toList=[]:=by rw[iY];exact nA h1
   clear zA zB nA nB pA pB;obtain⟨x0,cu,x1,cw,x2,cK⟩:=Hx.out.g3;obtain⟨y0,bN,y1,bO,y2,cg⟩:=Hy.out.g3;obtain⟨r0,ah,r1,ai,r2,aB,r3,aY,r4,bo⟩:=Hr.out.g5;have Wt:=Hx.out.lt;have Wu:=Hy.out.lt;have Fl:=Hr.out.lt;go_wp2_with fail;obtain⟨R,hR⟩:∃R:World->Prop,(λW5=>ag W5 (w4.heap.size) 100 [.int .i64 g,.bool false,.string (bs []),.bool false,.string (bs [])]/\Bw w4 W5)=R:=⟨_,rfl⟩;first|refine bB R ?hR ?_|refine bz R ?hR ?_
   case hR=>subst hR;exact⟨(ag.newAt w4 _ _ (b:=w4.heap.size) rfl),zl⟩
   subst hR;rintro W5 ⟨qn,ae⟩;have Hn:=af qn;clear qn x0 cu x1 cw x2 cK;replace Hx:=kB Hx ae;obtain⟨x0,cu,x1,cw,x2,cK⟩:=Hx.out.g3;clear y0 bN y1 bO y2 cg;replace Hy:=kB Hy ae;obtain⟨y0,bN,y1,bO,y2,cg⟩:=Hy.out.g3;clear r0 ah r1 ai r2 aB r3 aY r4 bo;replace Hr:=kB Hr ae;obtain⟨r0,ah,r1,ai,r2,aB,r3,aY,r4,bo⟩:=Hr.out.g5;obtain⟨n0,eP,n1,eQ,n2,eT,n3,fp,n4,fq⟩:=Hn.out.g5;replace Hb:=ak Hb ae;clear ae;have hns:w.heap.size+1+1<w4.heap.size:=zR.out.lt;refine cf (λw'=>w'.cell? ⟨w.heap.size,0,none⟩=some (.bool p)/\w'.cell? ⟨w.heap.size,1,none⟩=some (.string (bs a))/\w'.cell? ⟨w.heap.size,2,none⟩=some (.int .i64 g)/\w'.cell? ⟨w.heap.size+1,0,none⟩=some (.bool false)/\w'.cell? ⟨w.heap.size+1,1,none⟩=some (.string (bs []))/\w'.cell? ⟨w.heap.size+1,2,none⟩=some (.int .i64 0)/\w'.cell? ⟨w4.heap.size,0,none⟩=some (.int .i64 g)) (λi=>Nat.blt i 11) [(0,true),(1,true),(2,true),(4,true),(5,true),(6,true),(3,false),(8,true),(7,false),(9,false),(10,true),(11,false)] zk zk rfl zk zc ⟨x0,x1,x2,y0,y1,y2,n0⟩ ?_;iterate 6 (refine pT rfl rfl ?_ (by intro w' ⟨q0,q1,q2,q3,q4,q5,q6⟩;go_simp;try with_reducible rfl);try simp only[UU])
   refine aF rfl rfl (λK hK=>?_);go_simp;with_reducible refine(yw p a g g X HX.out _ La.out Ir.out (by first|exact(hT.below Hb.out) |exact au.drew (hT.below Hb.out) |exact au.alloc (hT.below Hb.out) _|exact au.drew (au.alloc (hT.below Hb.out) _) |exact au.alloc (au.drew (hT.below Hb.out)) _)).mono ?_
   rintro e w6 ⟨rfl,hq⟩;have ae:Bw W5 w6:=by first|exact hq|exact aK hq
   clear x0 cu x1 cw x2 cK y0 bN y1 bO y2 cg r0 ah r1 ai r2 aB r3 aY r4 bo n0 eP n1 eQ n2 eT n3 fp n4 fq;replace Hx:=kB Hx ae;replace Hy:=kB Hy ae;replace Hr:=kB Hr ae;replace Hn:=kB Hn ae;obtain⟨x0,cu,x1,cw,x2,cK⟩:=Hx.out.g3;obtain⟨y0,bN,y1,bO,y2,cg⟩:=Hy.out.g3;obtain⟨r0,ah,r1,ai,r2,aB,r3,aY,r4,bo⟩:=Hr.out.g5;obtain⟨n0,eP,n1,eQ,n2,eT,n3,fp,n4,fq⟩:=Hn.out.g5;replace Hb:=ak Hb ae;clear ae;refine hK _ _ (λ_=>⟨x0,x1,x2,y0,y1,y2,n0⟩) ?_;clear hK K;try simp only[UU]
   refine pT rfl rfl ?_;try simp only[UU]
   refine aF rfl rfl (λK hK=>?_);go_simp;with_reducible refine(yw false [] 0 g Y HY.out _ Lb.out Iu.out (by first|exact(hT.below Hb.out) |exact au.drew (hT.below Hb.out) |exact au.alloc (hT.below Hb.out) _|exact au.drew (au.alloc (hT.below Hb.out) _) |exact au.alloc (au.drew (hT.below Hb.out)) _)).mono ?_
   rintro e w7 ⟨rfl,hq⟩;have ae:Bw w6 w7:=by first|exact hq|exact aK hq
   clear x0 cu x1 cw x2 cK y0 bN y1 bO y2 cg r0 ah r1 ai r2 aB r3 aY r4 bo n0 eP n1 eQ n2 eT n3 fp n4 fq;replace Hx:=kB Hx ae;replace Hy:=kB Hy ae;replace Hr:=kB Hr ae;replace Hn:=kB Hn ae;obtain⟨x0,cu,x1,cw,x2,cK⟩:=Hx.out.g3;obtain⟨y0,bN,y1,bO,y2,cg⟩:=Hy.out.g3;obtain⟨r0,ah,r1,ai,r2,aB,r3,aY,r4,bo⟩:=Hr.out.g5;obtain⟨n0,eP,n1,eQ,n2,eT,n3,fp,n4,fq⟩:=Hn.out.g5;replace Hb:=ak Hb ae;clear ae;refine hK _ _ (λ_=>⟨x0,x1,x2,y0,y1,y2,n0⟩) ?_;clear hK K;try simp only[UU]
   refine aF rfl rfl (λK hK=>?_);go_simp;refine hK _ _ (λ_=>⟨(aC zf (aC zf x0)),(aC zf (aC zf x1)),(aC zf (aC zf x2)),(aC zf (aC zf y0)),(aC zf (aC zf y1)),(aC zf (aC zf y2)),(aC zf (aC zf n0))⟩) ?_;clear hK K;try simp only[UU]
   clear x0 cu x1 cw x2 cK y0 bN y1 bO y2 cg r0 ah r1 ai r2 aB r3 aY r4 bo n0 eP n1 eQ n2 eT n3 fp n4 fq;refine cj (bf w7 (w4.heap.size) 1 [.bool (aj X),.string (bs (nt X.natAbs))]) bI ?_;intro w8 hs;replace Hx:=kS Hx hs zo;replace Hy:=kS Hy hs zo;replace Hr:=kS Hr hs zo;replace Hn:Hid (ag w8 (w4.heap.size) 100 [.int .i64 g,.bool (aj X),.string (bs (nt X.natAbs)),.bool false,.string (bs [])]):=vY Hn hs;obtain⟨x0,cu,x1,cw,x2,cK⟩:=Hx.out.g3;obtain⟨y0,bN,y1,bO,y2,cg⟩:=Hy.out.g3;obtain⟨r0,ah,r1,ai,r2,aB,r3,aY,r4,bo⟩:=Hr.out.g5;obtain⟨n0,eP,n1,eQ,n2,eT,n3,fp,n4,fq⟩:=Hn.out.g5;replace Hb:=bS Hb hs ZS;clear hs;refine pT rfl rfl ?_;try simp only[UU]
   refine aF rfl rfl (λK hK=>?_);go_simp;refine hK _ _ (λh=>absurd h zd) ?_;clear hK K;try simp only[UU]
   clear x0 cu x1 cw x2 cK y0 bN y1 bO y2 cg r0 ah r1 ai r2 aB r3 aY r4 bo n0 eP n1 eQ n2 eT n3 fp n4 fq;refine cj (bf w8 (w4.heap.size) 3 [.bool (aj Y),.string (bs (nt Y.natAbs))]) bI ?_;intro w9 hs;replace Hx:=kS Hx hs zo;replace Hy:=kS Hy hs zo;replace Hr:=kS Hr hs zo;replace Hn:Hid (ag w9 (w4.heap.size) 100 [.int .i64 g,.bool (aj X),.string (bs (nt X.natAbs)),.bool (aj Y),.string (bs (nt Y.natAbs))]):=vY Hn hs;obtain⟨x0,cu,x1,cw,x2,cK⟩:=Hx.out.g3;obtain⟨y0,bN,y1,bO,y2,cg⟩:=Hy.out.g3;obtain⟨r0,ah,r1,ai,r2,aB,r3,aY,r4,bo⟩:=Hr.out.g5;obtain⟨n0,eP,n1,eQ,n2,eT,n3,fp,n4,fq⟩:=Hn.out.g5;replace Hb:=bS Hb hs ZS;clear hs;simp only[aN];go_wp2;refine bodyPost_ret (v:=.agg #[.int .i64 g,.bool (aj X),.string (bs (nt X.natAbs)),.bool (aj Y),.string (bs (nt Y.natAbs))]) (by simp[results,Tryz.results66,go_sem,r0,r1,r2,r3,r4]) rfl ⟨rfl,?_⟩;(repeat first|exact Hb.out| (refine Below.setCell ?_ (by have:=Hb.out.size;first| (dsimp only;omega) | (show _<=_;omega) | (simp<;>omega)) _) | (refine Below.alloc ?_ zt _) |refine Below.drew ?_)
 . have z1:¬(bs b).toList=[]:=by rw[iY];exact nB h3
   have z2:¬(bs a).toList=[]:=by rw[iY];exact nA h1
   have z3:min i j=g:=h2.symm;clear zA zB nA nB pA pB h2;obtain⟨x0,cu,x1,cw,x2,cK⟩:=Hx.out.g3;obtain⟨y0,bN,y1,bO,y2,cg⟩:=Hy.out.g3;obtain⟨r0,ah,r1,ai,r2,aB,r3,aY,r4,bo⟩:=Hr.out.g5;have Wt:=Hx.out.lt;have Wu:=Hy.out.lt;have Fl:=Hr.out.lt;go_wp2_with fail;obtain⟨R,hR⟩:∃R:World->Prop,(λW5=>ag W5 (w4.heap.size) 100 [.int .i64 g,.bool false,.string (bs []),.bool false,.string (bs [])]/\Bw w4 W5)=R:=⟨_,rfl⟩;first|refine bB R ?hR ?_|refine bz R ?hR ?_
   case hR=>subst hR;exact⟨(ag.newAt w4 _ _ (b:=w4.heap.size) rfl),zl⟩
   subst hR;rintro W5 ⟨qn,ae⟩;have Hn:=af qn;clear qn x0 cu x1 cw x2 cK;replace Hx:=kB Hx ae;obtain⟨x0,cu,x1,cw,x2,cK⟩:=Hx.out.g3;clear y0 bN y1 bO y2 cg;replace Hy:=kB Hy ae;obtain⟨y0,bN,y1,bO,y2,cg⟩:=Hy.out.g3;clear r0 ah r1 ai r2 aB r3 aY r4 bo;replace Hr:=kB Hr ae;obtain⟨r0,ah,r1,ai,r2,aB,r3,aY,r4,bo⟩:=Hr.out.g5;obtain⟨n0,eP,n1,eQ,n2,eT,n3,fp,n4,fq⟩:=Hn.out.g5;replace Hb:=ak Hb ae;clear ae;have hns:w.heap.size+1+1<w4.heap.size:=zR.out.lt;refine cf (λw'=>w'.cell? ⟨w.heap.size,0,none⟩=some (.bool p)/\w'.cell? ⟨w.heap.size,1,none⟩=some (.string (bs a))/\w'.cell? ⟨w.heap.size,2,none⟩=some (.int .i64 i)/\w'.cell? ⟨w.heap.size+1,0,none⟩=some (.bool q)/\w'.cell? ⟨w.heap.size+1,1,none⟩=some (.string (bs b))/\w'.cell? ⟨w.heap.size+1,2,none⟩=some (.int .i64 j)/\w'.cell? ⟨w4.heap.size,0,none⟩=some (.int .i64 g)) (λi=>Nat.blt i 11) [(0,true),(1,true),(2,true),(4,true),(5,true),(6,true),(3,false),(8,true),(7,false),(9,false),(10,true),(11,false)] zk zk rfl zk zc ⟨x0,x1,x2,y0,y1,y2,n0⟩ ?_;iterate 6 (refine pT rfl rfl ?_ (by intro w' ⟨q0,q1,q2,q3,q4,q5,q6⟩;go_simp;try with_reducible rfl);try simp only[UU])
   refine aF rfl rfl (λK hK=>?_);go_simp;with_reducible refine(yw p a i g X HX.out _ La.out Ir.out (by first|exact(hT.below Hb.out) |exact au.drew (hT.below Hb.out) |exact au.alloc (hT.below Hb.out) _|exact au.drew (au.alloc (hT.below Hb.out) _) |exact au.alloc (au.drew (hT.below Hb.out)) _)).mono ?_
   rintro e w6 ⟨rfl,hq⟩;have ae:Bw W5 w6:=by first|exact hq|exact aK hq
   clear x0 cu x1 cw x2 cK y0 bN y1 bO y2 cg r0 ah r1 ai r2 aB r3 aY r4 bo n0 eP n1 eQ n2 eT n3 fp n4 fq;replace Hx:=kB Hx ae;replace Hy:=kB Hy ae;replace Hr:=kB Hr ae;replace Hn:=kB Hn ae;obtain⟨x0,cu,x1,cw,x2,cK⟩:=Hx.out.g3;obtain⟨y0,bN,y1,bO,y2,cg⟩:=Hy.out.g3;obtain⟨r0,ah,r1,ai,r2,aB,r3,aY,r4,bo⟩:=Hr.out.g5;obtain⟨n0,eP,n1,eQ,n2,eT,n3,fp,n4,fq⟩:=Hn.out.g5;replace Hb:=ak Hb ae;clear ae;refine hK _ _ (λ_=>⟨x0,x1,x2,y0,y1,y2,n0⟩) ?_;clear hK K;try simp only[UU]
   refine pT rfl rfl ?_;try simp only[UU]
   refine aF rfl rfl (λK hK=>?_);go_simp;with_reducible refine(yw q b j g Y HY.out _ Lb.out Iu.out (by first|exact(hT.below Hb.out) |exact au.drew (hT.below Hb.out) |exact au.alloc (hT.below Hb.out) _|exact au.drew (au.alloc (hT.below Hb.out) _) |exact au.alloc (au.drew (hT.below Hb.out)) _)).mono ?_
   rintro e w7 ⟨rfl,hq⟩;have ae:Bw w6 w7:=by first|exact hq|exact aK hq
   clear x0 cu x1 cw x2 cK y0 bN y1 bO y2 cg r0 ah r1 ai r2 aB r3 aY r4 bo n0 eP n1 eQ n2 eT n3 fp n4 fq;replace Hx:=kB Hx ae;replace Hy:=kB Hy ae;replace Hr:=kB Hr ae;replace Hn:=kB Hn ae;obtain⟨x0,cu,x1,cw,x2,cK⟩:=Hx.out.g3;obtain⟨y0,bN,y1,bO,y2,cg⟩:=Hy.out.g3;obtain⟨r0,ah,r1,ai,r2,aB,r3,aY,r4,bo⟩:=Hr.out.g5;obtain⟨n0,eP,n1,eQ,n2,eT,n3,fp,n4,fq⟩:=Hn.out.g5;replace Hb:=ak Hb ae;clear ae;refine hK _ _ (λ_=>⟨x0,x1,x2,y0,y1,y2,n0⟩) ?_;clear hK K;try simp only[UU]
   refine aF rfl rfl (λK hK=>?_);go_simp;refine hK _ _ (λ_=>⟨(aC zf (aC zf x0)),(aC zf (aC zf x1)),(aC zf (aC zf x2)),(aC zf (aC zf y0)),(aC zf (aC zf y1)),(aC zf (aC zf y2)),(aC zf (aC zf n0))⟩) ?_;clear hK K;try simp only[UU]
   clear x0 cu x1 cw x2 cK y0 bN y1 bO y2 cg r0 ah r1 ai r2 aB r3 aY r4 bo n0 eP n1 eQ n2 eT n3 fp n4 fq;refine cj (bf w7 (w4.heap.size) 1 [.bool (aj X),.string (bs (nt X.natAbs))]) bI ?_;intro w8 hs;replace Hx:=kS Hx hs zo;replace Hy:=kS Hy hs zo;replace Hr:=kS Hr hs zo;replace Hn:Hid (ag w8 (w4.heap.size) 100 [.int .i64 g,.bool (aj X),.string (bs (nt X.natAbs)),.bool false,.string (bs [])]):=vY Hn hs;obtain⟨x0,cu,x1,cw,x2,cK⟩:=Hx.out.g3;obtain⟨y0,bN,y1,bO,y2,cg⟩:=Hy.out.g3;obtain⟨r0,ah,r1,ai,r2,aB,r3,aY,r4,bo⟩:=Hr.out.g5;obtain⟨n0,eP,n1,eQ,n2,eT,n3,fp,n4,fq⟩:=Hn.out.g5;replace Hb:=bS Hb hs ZS;clear hs;refine pT rfl rfl ?_;try simp only[UU]
   refine aF rfl rfl (λK hK=>?_);go_simp;refine hK _ _ (λh=>absurd h zd) ?_;clear hK K;try simp only[UU]
   clear x0 cu x1 cw x2 cK y0 bN y1 bO y2 cg r0 ah r1 ai r2 aB r3 aY r4 bo n0 eP n1 eQ n2 eT n3 fp n4 fq;refine cj (bf w8 (w4.heap.size) 3 [.bool (aj Y),.string (bs (nt Y.natAbs))]) bI ?_;intro w9 hs;replace Hx:=kS Hx hs zo;replace Hy:=kS Hy hs zo;replace Hr:=kS Hr hs zo;replace Hn:Hid (ag w9 (w4.heap.size) 100 [.int .i64 g,.bool (aj X),.string (bs (nt X.natAbs)),.bool (aj Y),.string (bs (nt Y.natAbs))]):=vY Hn hs;obtain⟨x0,cu,x1,cw,x2,cK⟩:=Hx.out.g3;obtain⟨y0,bN,y1,bO,y2,cg⟩:=Hy.out.g3;obtain⟨r0,ah,r1,ai,r2,aB,r3,aY,r4,bo⟩:=Hr.out.g5;obtain⟨n0,eP,n1,eQ,n2,eT,n3,fp,n4,fq⟩:=Hn.out.g5;replace Hb:=bS Hb hs ZS;clear hs;simp only[aN];go_wp2;refine bodyPost_ret (v:=.agg #[.int .i64 g,.bool (aj X),.string (bs (nt X.natAbs)),.bool (aj Y),.string (bs (nt Y.natAbs))]) (by simp[results,Tryz.results66,go_sem,r0,r1,r2,r3,r4]) rfl ⟨rfl,?_⟩;(repeat first|exact Hb.out| (refine Below.setCell ?_ (by have:=Hb.out.size;first| (dsimp only;omega) | (show _<=_;omega) | (simp<;>omega)) _) | (refine Below.alloc ?_ zt _) |refine Below.drew ?_)
theorem Qx (X Y:Int)(n:Nat)(hX:(nt X.natAbs).length<=n)(hY:(nt Y.natAbs).length<=n):(nt (X+Y).natAbs).length<=n+1:=by have h1:=iF (nt X.natAbs);have h2:=iF (nt Y.natAbs);rw[iG]at h1 h2;have h3:=Nat.lt_of_lt_of_le h1 (Nat.pow_le_pow_right (show 0<256 by decide) hX);have h4:=Nat.lt_of_lt_of_le h2 (Nat.pow_le_pow_right (show 0<256 by decide) hY);refine lL ?_;rw[Nat.pow_succ];omega
theorem aiI (X Y:Int)(m n:Nat)(hX:(nt X.natAbs).length<=m)(hY:(nt Y.natAbs).length<=n):(nt (X*Y).natAbs).length<=m+n:=by have h1:=iF (nt X.natAbs);have h2:=iF (nt Y.natAbs);rw[iG]at h1 h2;have h3:=Nat.lt_of_lt_of_le h1 (Nat.pow_le_pow_right (show 0<256 by decide) hX);have h4:=Nat.lt_of_lt_of_le h2 (Nat.pow_le_pow_right (show 0<256 by decide) hY);refine lL ?_;rw[Int.natAbs_mul,Nat.pow_add];exact Nat.mul_lt_mul'' h3 h4
theorem XE (v k:Int)(a b:Nat)(hv:v.natAbs<2^a)(hk:k<=b):(kI v k).natAbs<2^(a+b):=by
 have h0:v.natAbs<2^(a+b):=Nat.lt_of_lt_of_le hv (Nat.pow_le_pow_right zd zo);unfold kI;split
 . rw[Int.natAbs_mul,Int.natAbs_pow,Nat.pow_add];refine Nat.lt_of_le_of_lt (Nat.mul_le_mul_left _ (Nat.pow_le_pow_right zd (show k.toNat<=b by omega))) ?_;exact Nat.mul_lt_mul_of_pos_right hv (Nat.pow_pos zd)
 . have hp:(0:Int)<2^(-k).toNat:=by
    have:((2^(-k).toNat:Nat):Int)>0:=by have:=Nat.pow_pos (n:=(-k).toNat) (show 0<2 by decide);omega
    simpa[Int.natCast_pow]using this
   generalize (2:Int)^(-k).toNat=p at*;have:(v/p).natAbs<=v.natAbs:=by
    rcases Int.le_total 0 v with h|h
    . have h1:=Int.ediv_nonneg h (by omega:(0:Int)<=p);have h2:=Int.ediv_le_self p h;omega
    . have h1:v<=v/p:=by rw[Int.le_ediv_iff_mul_le hp];have:=Int.mul_le_mul_of_nonpos_left h (show(1:Int)<=p by omega);omega
      have h2:v/p<=0:=by have:=Int.ediv_le_ediv hp h;simpa using this
      omega
   omega
theorem Wm {x y:Raw}(hx:Ok x)(hy:Ok y)(A B:Dyadic)(hA:ar x=A)(hB:ar y=B):∃g X Y,qw A B=g/\kI (dN A) (dE A-g)=X/\kI (dN B) (dE B-g)=Y/\A=Dyadic.ofIntWithPrec X (-g)/\B=Dyadic.ofIntWithPrec Y (-g)/\
 (nt X.natAbs).length<=17179869183/\(nt Y.natAbs).length<=17179869183/\ -1099511627776<=g/\g<=1099511627776:=by
 subst hA hB;obtain⟨M,hM,sx,sy⟩:∃M,M<=4294967296/\Sm M (ar x)/\Sm M (ar y):=⟨4294967296,Nat.le_refl _,hx.sm,hy.sm⟩;obtain⟨a1,a2,a3⟩:=sx.parts;obtain⟨b1,b2,b3⟩:=sy.parts;generalize ar x=A at*;generalize ar y=B at*;obtain⟨h1,h2⟩:=ah7 A B;have hg: -(M:Int)<=qw A B/\qw A B<=M:=by
  clear a1 b1;unfold qw;split
  . omega
  . split<;>omega
 refine⟨qw A B,_,_,rfl,rfl,rfl,Xb A _ h1,Xb B _ h2,?_,?_,?_,?_⟩
 . exact jf (XE _ _ _ (2*M) a1 (by clear a1 b1;omega)) zo
 . exact jf (XE _ _ _ (2*M) b1 (by clear a1 b1;omega)) zo
 . clear a1 b1;omega
 . clear a1 b1;omega
def bJ (x:Raw):List Value:=[.bool x.1,.string (bs x.2.1),.int .i64 x.2.2]
def jv :List Raw->Dyadic
 |[]=>0
 |x::xs=>ar x+jv xs
theorem aeW (xs ys:List Raw):jv (xs++ys)=jv xs+jv ys:=by
 induction xs with
 |nil=>simp only[List.nil_append,jv];grind
 |cons x xs ih=>simp only[List.cons_append,jv,ih];grind
theorem aeY (xs:List Raw)(k:Nat)(hk:k<xs.length):jv (xs.take (k+1))=jv (xs.take k)+ar xs[k]:=by rw[List.take_succ_eq_append_getElem hk,aeW];simp only[jv];grind
def iu :List Raw->Dyadic
 |[]=>1
 |x::xs=>ar x*iu xs
theorem aeT (xs ys:List Raw):iu (xs++ys)=iu xs*iu ys:=by
 induction xs with
 |nil=>simp only[List.nil_append,iu];grind
 |cons x xs ih=>simp only[List.cons_append,iu,ih];grind
theorem aeV (xs:List Raw)(k:Nat)(hk:k<xs.length):iu (xs.take (k+1))=iu (xs.take k) *ar xs[k]:=by rw[List.take_succ_eq_append_getElem hk,aeT];simp only[iu];grind
theorem alJ (X Y N:Int)(hN:X+Y=N)(b cap:Nat)(ty:TypeId)(w:World)(hl:(nt X.natAbs).length<=34359738368)(hm:(nt Y.natAbs).length<=34359738368)
 (ha:ag w b ty [.bool (aj X),.string (bs (nt X.natAbs)),.bool (aj Y),.string (bs (nt Y.natAbs))]):
 Calls Tryz.prog 68 #[.slice (some ⟨b,0,none⟩) 2 cap] w λe w'=>e=.returned (bM N)/\Bw w w':=by
 have:=Yv (aj X) (nt X.natAbs) (aj Y) (nt Y.natAbs) b cap ty w hl hm ha;rw[dI,dI,hN]at this;exact this
theorem Yy (s:Bool)(l:List UInt8)(t:Bool)(m:List UInt8)(N:Int)(hN:iv s l*iv t m=N)(b cap:Nat)(ty:TypeId)(w:World)(hl:l.length<=17179869184)(hm:m.length<=17179869184)
 (ha:ag w b ty [.bool s,.string (bs l),.bool t,.string (bs m)]):
 Calls Tryz.prog 88 #[.slice (some ⟨b,0,none⟩) 2 cap] w λe w'=>e=.returned (bM N)/\Bw w w':=by
 have:=alO [(s,l),(t,m)] (some ⟨b,0,none⟩) cap w (by simp[mA];omega) zm (At.aqF ha);have e:fN [(s,l),(t,m)]=N:=by rw[<-hN];simp[fN]
 rw[e]at this;exact this
theorem aek (xs:List Raw)(a:Option Addr)(cap:Nat)(w:World)(hl:∀x∈xs,Ok x)(hS:∀k,Ok (canon (jv (xs.take k))))(hx:xs.length<=1048576)
 (ha:At w a (xs.flatMap bJ)) (hT:au w):
 Calls Tryz.prog 26 #[.slice a xs.length cap] w λe w'=>e=.returned (bQ (jv xs))/\Bw w w':=by
 have Hl:=af hl;clear hl;have HS:=af hS;clear hS;have Ha:=af ha;clear ha;have bY:=af hT;clear hT;go_enter Tryz.func26,Tryz.ntmps26;have Hb:Hid (Bw w w):=Below.refl _ _;go_wp2_with fail;obtain⟨R,hR⟩:∃R:World->Prop,(λW=>ag W (w.heap.size) 39 [.bool false,.string (bs []),.int .i64 0]/\ag W (w.heap.size+1) 39 [.bool false,.string (bs []),.int .i64 0]/\Bw w W)=R:=⟨_,rfl⟩;first|refine bB R ?hR ?_|refine bz R ?hR ?_
 case hR=>subst hR;exact⟨((ag.newAt w _ _ (b:=w.heap.size) rfl).alloc _),(ag.newAt (w.alloc _) _ _ (b:=w.heap.size+1) zm),(zl.alloc zj _)⟩
 subst hR;rintro W ⟨qr,qs,ae⟩;have Hr:=af qr;clear qr;have Hs:=af qs;clear qs;obtain⟨r0,ah,r1,ai,r2,aB⟩:=Hr.out.g3;obtain⟨s0,aO,s1,aP,s2,aV⟩:=Hs.out.g3;replace Hb:=ak Hb ae;clear ae
 go_loopw[5,6,9] (λ_ _ i wr=>∃(k:Nat),k<=xs.length/\i=.int .i64 k/\ag wr w.heap.size 39 [.bool false,.string (bs []),.int .i64 0]/\
  ag wr (w.heap.size+1) 39 (bJ (canon (jv (xs.take k))))/\Bw w wr) (λ_ _ i _=>xs.length-(intOf i).toNat)
 case atStart=>exact⟨0,Nat.zero_le _,rfl,Hr.out,Hs.out,Hb.out⟩
 case round=>
  obtain⟨k,hk,rfl,qr,qs,hb⟩:=hrel;replace Hr:=af qr;replace Hs:=af qs;replace Hb:=af hb;clear qr qs hb r0 r1 r2 ah ai aB s0 s1 s2 aO aP aV;by_cases hlt:k<xs.length
  . obtain ⟨b,o,hab,hcs⟩:=(Ha.out.below Hb.out).elem (f:=bJ) (sz:=3) (fun _=>rfl) zd k hlt;have hc0:wr.cell? ⟨b,o+k*3,none⟩=some (.bool xs[k].1):=hcs 0 zd;have hc1:wr.cell? ⟨b,o+k*3+1,none⟩=some (.string (bs xs[k].2.1)):=hcs 1 zd;have hc2:wr.cell? ⟨b,o+k*3+2,none⟩=some (.int .i64 xs[k].2.2):=hcs 2 zd;have aX:=sk xs.length cap k (k:Int) hab hlt rfl;have bR:=af (aeY xs k hlt);have kO:Hid (Ok xs[k]):=Hl.out _ (List.getElem_mem hlt);have iW:=af (HS.out k);clear hcs hab;generalize xs[k]=x at*;obtain⟨t1,l1,e1⟩:=x;generalize hS:jv (xs.take k)=S at*;clear hS;obtain⟨g,X,Y,hg,hX,hY,eA,eB,lX,lY,hg1,hg2⟩:=Wm iW.out kO.out S (ar (t1,l1,e1)) (bC S) rfl;obtain⟨N,hN⟩:=az (X+Y);obtain⟨D,hD⟩:=az (S+ar (t1,l1,e1));have HD:Hid (ar (aj N,nt N.natAbs,g)=D):=by
     show _=_
     rw[xL,<-hD,<-hN,<-uA,<-eA,<-eB]
    have IA:Hid ((nt N.natAbs).length<=34359738368):=by show _<=_;rw[<-hN];exact Nat.le_trans (Qx X Y _ lX lY) zd
    rw[hD]at bR;have xk:Hid (∀W,au W->Calls Tryz.prog 66 #[bQ S,.agg #[.bool t1,.string (bs l1),.int .i64 e1]] W λex w'=>ex=.returned (.agg #[.int .i64 g,.bool (aj X),.string (bs (nt X.natAbs)),.bool (aj Y),.string (bs (nt Y.natAbs))])/\Bw W w'):=λW hW=>
     VW _ _ _ t1 l1 e1 S (ar (t1,l1,e1)) (bC S) rfl g X Y hg hX hY W iW.out kO.out hW
    have LX:Hid ((nt X.natAbs).length<=34359738368):=by show _<=_;omega
    have LY:Hid ((nt Y.natAbs).length<=34359738368):=by show _<=_;omega
    have Hg:Hid (-1099511627776<=g/\g<=1099511627776):=⟨hg1,hg2⟩;have HN:=af hN;clear eA eB hg hX hY lX lY hN hD hg1 hg2 iW kO;unfold bJ canon at Hs;simp only at Hs;obtain⟨r0,ah,r1,ai,r2,aB⟩:=Hr.out.g3;obtain⟨s0,aO,s1,aP,s2,aV⟩:=Hs.out.g3;have Fh:=Hr.out.lt;have MH:=Hs.out.lt;go_wp2_with fail;obtain⟨R,hR⟩:∃R:World->Prop,(λW1=>ag W1 (wr.heap.size) 39 [.bool t1,.string (bs l1),.int .i64 e1]/\Bw wr W1)=R:=⟨_,rfl⟩;first|refine bB R ?hR ?_|refine bz R ?hR ?_
    case hR=>subst hR;exact⟨(ag.newAt wr _ _ (b:=wr.heap.size) rfl),zl⟩
    subst hR;rintro W1 ⟨qc,ae⟩;have Hc:=af qc;clear qc r0 ah r1 ai r2 aB;replace Hr:=kB Hr ae;obtain⟨r0,ah,r1,ai,r2,aB⟩:=Hr.out.g3;clear s0 aO s1 aP s2 aV;replace Hs:=kB Hs ae;obtain⟨s0,aO,s1,aP,s2,aV⟩:=Hs.out.g3;obtain⟨c0,c1,c2⟩:=Hc.out.c3;replace Hb:=ak Hb ae;clear ae;have HT:=af (bY.out.below Hb.out);go_wp2_with fail;refine(xk.out _ HT.out).mono ?_;rintro e w1 ⟨rfl,ae⟩;clear r0 ah r1 ai r2 aB s0 aO s1 aP s2 aV c0 c1 c2;replace Hr:=kB Hr ae;replace Hs:=kB Hs ae;replace Hc:=kB Hc ae;obtain⟨r0,ah,r1,ai,r2,aB⟩:=Hr.out.g3;obtain⟨s0,aO,s1,aP,s2,aV⟩:=Hs.out.g3;obtain⟨c0,c1,c2⟩:=Hc.out.c3;replace Hb:=ak Hb ae;clear ae;have nO:=Hr.out.lt;have apv:=Hs.out.lt;have ah8:=Hc.out.lt;go_wp2_with fail;obtain⟨R,hR⟩:∃R:World->Prop,(λW2=>ag W2 (w1.heap.size) 100 [.int .i64 g,.bool (aj X),.string (bs (nt X.natAbs)),.bool (aj Y),.string (bs (nt Y.natAbs))]/\Bw w1 W2)=R:=⟨_,rfl⟩;first|refine bB R ?hR ?_|refine bz R ?hR ?_
    case hR=>subst hR;exact⟨(ag.newAt w1 _ _ (b:=w1.heap.size) rfl),zl⟩
    subst hR;rintro W2 ⟨qp,ae⟩;have Hp:=af qp;clear qp r0 ah r1 ai r2 aB;replace Hr:=kB Hr ae;obtain⟨r0,ah,r1,ai,r2,aB⟩:=Hr.out.g3;clear s0 aO s1 aP s2 aV;replace Hs:=kB Hs ae;obtain⟨s0,aO,s1,aP,s2,aV⟩:=Hs.out.g3;clear c0 c1 c2;replace Hc:=kB Hc ae;obtain⟨c0,c1,c2⟩:=Hc.out.c3;obtain⟨p0,p1,p2,p3,p4⟩:=Hp.out.c5;replace Hb:=ak Hb ae;clear ae;refine cf (λw'=>w'.cell? ⟨w1.heap.size,0,none⟩=some (.int .i64 g)/\w'.cell? ⟨w1.heap.size,1,none⟩=some (.bool (aj X))/\w'.cell? ⟨w1.heap.size,2,none⟩=some (.string (bs (nt X.natAbs)))/\w'.cell? ⟨w1.heap.size,3,none⟩=some (.bool (aj Y))/\w'.cell? ⟨w1.heap.size,4,none⟩=some (.string (bs (nt Y.natAbs)))) (λi=>Nat.blt i 9) [(0,true),(1,true),(2,true),(3,true),(6,true),(7,true),(4,false),(5,false),(8,false),(9,false)] zk zk rfl zk zc ⟨p0,p1,p2,p3,p4⟩ ?_;iterate 6 (refine pT rfl rfl ?_ (by intro w' ⟨q0,q1,q2,q3,q4⟩;go_simp;try with_reducible rfl);try simp only[UU])
    refine aF rfl rfl (λK hK=>?_);go_simp;refine hK _ _ (λ_=>⟨aH p0,aH p1,aH p2,aH p3,aH p4⟩) ?_;clear hK K;try simp only[UU]
    refine cj (λW3=>ag W3 (W2.heap.size) 32 [.bool (aj X),.string (bs (nt X.natAbs)),.bool (aj Y),.string (bs (nt Y.natAbs))]/\Bw W2 W3) (by first|exact fy|exact fA) ?_;rintro W3 ⟨qv,ae⟩;clear r0 ah r1 ai r2 aB s0 aO s1 aP s2 aV c0 c1 c2 p0 p1 p2 p3 p4;have Fi:=Hr.out.lt;have aig:=Hs.out.lt;have Wo:=Hc.out.lt;have aie:=Hp.out.lt;replace Hr:=kB Hr ae;replace Hs:=kB Hs ae;replace Hc:=kB Hc ae;replace Hp:=kB Hp ae;have Hv:=af qv;clear qv;obtain⟨r0,ah,r1,ai,r2,aB⟩:=Hr.out.g3;obtain⟨s0,aO,s1,aP,s2,aV⟩:=Hs.out.g3;obtain⟨c0,c1,c2⟩:=Hc.out.c3;obtain⟨p0,p1,p2,p3,p4⟩:=Hp.out.c5;obtain⟨v0,v1,v2,v3⟩:=Hv.out.c4;replace Hb:=ak Hb ae;clear ae;refine aF rfl rfl (λK hK=>?_);go_simp;with_reducible refine(alJ X Y N HN.out W2.heap.size 2 32 _ LX.out LY.out Hv.out).mono ?_
    rintro e w3 ⟨rfl,hq⟩;have ae:Bw W3 w3:=by first|exact hq|exact aK hq
    clear r0 ah r1 ai r2 aB s0 aO s1 aP s2 aV c0 c1 c2 p0 p1 p2 p3 p4 v0 v1 v2 v3;replace Hr:=kB Hr ae;replace Hs:=kB Hs ae;replace Hc:=kB Hc ae;replace Hp:=kB Hp ae;replace Hv:=kB Hv ae;obtain⟨r0,ah,r1,ai,r2,aB⟩:=Hr.out.g3;obtain⟨s0,aO,s1,aP,s2,aV⟩:=Hs.out.g3;obtain⟨c0,c1,c2⟩:=Hc.out.c3;obtain⟨p0,p1,p2,p3,p4⟩:=Hp.out.c5;obtain⟨v0,v1,v2,v3⟩:=Hv.out.c4;replace Hb:=ak Hb ae;clear ae;refine hK _ _ (λ_=>⟨p0,p1,p2,p3,p4⟩) ?_;clear hK K;try simp only[UU]
    refine aF rfl rfl (λK hK=>?_);go_simp;with_reducible refine(qG (aj N) (nt N.natAbs) g D HD.out _ IA.out Hg.out (by first|exact(bY.out.below Hb.out) |exact au.drew (bY.out.below Hb.out) |exact au.alloc (bY.out.below Hb.out) _|exact au.drew (au.alloc (bY.out.below Hb.out) _) |exact au.alloc (au.drew (bY.out.below Hb.out)) _)).mono ?_
    rintro e w4 ⟨rfl,hq⟩;have ae:Bw w3 w4:=by first|exact hq|exact aK hq
    clear r0 ah r1 ai r2 aB s0 aO s1 aP s2 aV c0 c1 c2 p0 p1 p2 p3 p4 v0 v1 v2 v3;replace Hr:=kB Hr ae;replace Hs:=kB Hs ae;replace Hc:=kB Hc ae;replace Hp:=kB Hp ae;replace Hv:=kB Hv ae;obtain⟨r0,ah,r1,ai,r2,aB⟩:=Hr.out.g3;obtain⟨s0,aO,s1,aP,s2,aV⟩:=Hs.out.g3;obtain⟨c0,c1,c2⟩:=Hc.out.c3;obtain⟨p0,p1,p2,p3,p4⟩:=Hp.out.c5;obtain⟨v0,v1,v2,v3⟩:=Hv.out.c4;replace Hb:=ak Hb ae;clear ae;refine hK _ _ (λ_=>⟨p0,p1,p2,p3,p4⟩) ?_;clear hK K;try simp only[UU]
    refine aF rfl rfl (λK hK=>?_);go_simp;refine hK _ _ (λh=>absurd h zd) ?_;clear hK K;try simp only[UU]
    clear r0 ah r1 ai r2 aB s0 aO s1 aP s2 aV c0 c1 c2 p0 p1 p2 p3 p4 v0 v1 v2 v3;refine cj (bf w4 (w.heap.size+1) 0 [.bool (aj (dN D)),.string (bs (nt (dN D).natAbs)),.int .i64 (dE D)]) bI ?_;intro w5 hs;replace Hr:=kS Hr hs zo;replace Hs:=cp Hs hs;replace Hc:=kS Hc hs zo;replace Hp:=kS Hp hs zo;replace Hv:=kS Hv hs zo;obtain⟨r0,ah,r1,ai,r2,aB⟩:=Hr.out.g3;obtain⟨s0,aO,s1,aP,s2,aV⟩:=Hs.out.g3;obtain⟨c0,c1,c2⟩:=Hc.out.c3;obtain⟨p0,p1,p2,p3,p4⟩:=Hp.out.c5;obtain⟨v0,v1,v2,v3⟩:=Hv.out.c4;replace Hb:=bS Hb hs ZS;clear hs;simp only[aN];go_wp2;go_roundw;case rel=>refine⟨k+1,by omega,by go_num,Hr.out,?_,Hb.out⟩;rw[bR.out];exact Hs.out
    case measure=>simp[intOf];omega
  . obtain rfl:k=xs.length:=by omega
    rw[List.take_length]at Hs;unfold bJ canon at Hs;simp only at Hs;obtain⟨r0,ah,r1,ai,r2,aB⟩:=Hr.out.g3;obtain⟨s0,aO,s1,aP,s2,aV⟩:=Hs.out.g3;go_wp2;refine bodyPost_ret (v:=bQ (jv xs)) (by simp[results,Tryz.results26,go_sem,r0,r1,r2]) rfl ⟨rfl,?_⟩;(repeat first|exact Hb.out| (refine Below.setCell ?_ (by have:=Hb.out.size;first| (dsimp only;omega) | (show _<=_;omega) | (simp<;>omega)) _) | (refine Below.alloc ?_ zt _) |refine Below.drew ?_)
theorem Sm.one :Sm 1 1:=⟨2,by rfl,by decide⟩
theorem aeX {B:Nat}(xs:List Raw)(h:∀x∈xs,Sm B (ar x)):Sm (B+xs.length) (jv xs):=by
 induction xs with
 |nil=>exact Sm.zero _
 |cons x xs ih=>have h1:=h x zm;have h2:=ih (λy hy=>h y (by simp[hy]));exact(Sm.add (h1.mono (by omega:B<=B+xs.length)) h2)
theorem aeU {B:Nat}(xs:List Raw)(h:∀x∈xs,Sm B (ar x)):Sm (B*xs.length+1) (iu xs):=by
 induction xs with
 |nil=>exact Sm.one
 |cons x xs ih=>have h1:=h x zm;have h2:=ih (λy hy=>h y (by simp[hy]));have:=Sm.mul h1 h2;rw[show B* (x::xs).length+1=B+(B*xs.length+1)by rw[List.length_cons,Nat.mul_add];omega];exact this
def Fit (B:Nat)(x:Raw):Prop:=Ok x/\Sm B (ar x)
theorem Fit.mono {A B:Nat}{x:Raw}(h:Fit A x)(RX:A<=B):Fit B x:=⟨h.1,h.2.mono RX⟩
theorem Sm.fit {B:Nat}{d:Dyadic}(h:Sm B d)(hB:B<=268435456):Fit B (canon d):=⟨h.ok hB,by rw[bC];exact h⟩
theorem ael (xs:List Raw)(B:Nat)(S:Dyadic)(hS:jv xs=S)(a:Option Addr)(cap:Nat)(w:World)(hl:∀x∈xs,Fit B x)(hB:B+xs.length<=268435456)(hx:xs.length<=1048576)
 (ha:At w a (xs.flatMap bJ)) (hT:au w):
 Calls Tryz.prog 26 #[.slice a xs.length cap] w λe w'=>e=.returned (bQ S)/\Bw w w':=by
 subst hS;refine aek xs a cap w (λx h=>(hl x h).1) (λk=>?_) hx ha hT;refine Sm.ok (B:=B+xs.length) (Sm.mono (aeX (B:=B) _ (λx h=>(hl x (List.mem_of_mem_take h)).2)) ?_) hB;rw[List.length_take];omega
theorem aes (xs:List Raw)(a:Option Addr)(cap:Nat)(w:World)(hl:∀x∈xs,Ok x)(hS:∀k,Ok (canon (iu (xs.take k))))(hx:xs.length<=1048576)
 (ha:At w a (xs.flatMap bJ)) (hT:au w):
 Calls Tryz.prog 46 #[.slice a xs.length cap] w λe w'=>e=.returned (bQ (iu xs))/\Bw w w':=by
 have Hl:=af hl;clear hl;have HS:=af hS;clear hS;have Ha:=af ha;clear ha;have bY:=af hT;clear hT;obtain⟨I,hI⟩:∃I:Dyadic,1=I:=⟨_,rfl⟩;have HI:Hid (Dyadic.ofIntWithPrec 1 0=I):=by show _=_;rw[<-hI];rfl
 have Za:=af hI;clear hI;go_enter Tryz.func46,Tryz.ntmps46;have Hb:Hid (Bw w w):=Below.refl _ _;go_wp2_with fail;obtain⟨R,hR⟩:∃R:World->Prop,(λW=>ag W (w.heap.size) 39 [.bool false,.string (bs []),.int .i64 0]/\Bw w W)=R:=⟨_,rfl⟩;first|refine bB R ?hR ?_|refine bz R ?hR ?_
 case hR=>subst hR;exact⟨(ag.newAt w _ _ (b:=w.heap.size) rfl),zl⟩
 subst hR;rintro W ⟨qr,ae⟩;have Hr:=af qr;clear qr;obtain⟨r0,ah,r1,ai,r2,aB⟩:=Hr.out.g3;replace Hb:=ak Hb ae;clear ae;have HT:=af (bY.out.below Hb.out);go_wp2_with fail;refine(rI 1 I HI.out _ zo HT.out).mono ?_;rintro e w2 ⟨rfl,ae⟩;clear r0 ah r1 ai r2 aB;replace Hr:=kB Hr ae;obtain⟨r0,ah,r1,ai,r2,aB⟩:=Hr.out.g3;replace Hb:=ak Hb ae;clear ae;have nO:=Hr.out.lt;go_wp2_with fail;obtain⟨R,hR⟩:∃R:World->Prop,(λW2=>ag W2 (w2.heap.size) 39 [.bool (aj (dN I)),.string (bs (nt (dN I).natAbs)),.int .i64 (dE I)]/\Bw w2 W2)=R:=⟨_,rfl⟩;first|refine bB R ?hR ?_|refine bz R ?hR ?_
 case hR=>subst hR;exact⟨(ag.newAt w2 _ _ (b:=w2.heap.size) rfl),zl⟩
 subst hR;rintro W2 ⟨qs,ae⟩;have Hs:=af qs;clear qs r0 ah r1 ai r2 aB;replace Hr:=kB Hr ae;obtain⟨r0,ah,r1,ai,r2,aB⟩:=Hr.out.g3;obtain⟨s0,aO,s1,aP,s2,aV⟩:=Hs.out.g3;replace Hb:=ak Hb ae;clear ae
 go_loopw[5,9] (λ_ i wr=>∃(k:Nat),k<=xs.length/\i=.int .i64 k/\ag wr w.heap.size 39 [.bool false,.string (bs []),.int .i64 0]/\
  ag wr w2.heap.size 39 (bJ (canon (iu (xs.take k))))/\Bw w wr) (λ_ i _=>xs.length-(intOf i).toNat)
 case atStart=>
  refine⟨0,Nat.zero_le _,rfl,Hr.out,?_,Hb.out⟩;have e:iu (xs.take 0)=I:=by rw[<-Za.out];rfl
  rw[e];exact Hs.out
 case round=>
  obtain⟨k,hk,rfl,qr,qs,hb⟩:=hrel;replace Hr:=af qr;replace Hs:=af qs;replace Hb:=af hb;clear qr qs hb r0 r1 r2 ah ai aB s0 s1 s2 aO aP aV HT;by_cases hlt:k<xs.length
  . obtain ⟨b,o,hab,hcs⟩:=(Ha.out.below Hb.out).elem (f:=bJ) (sz:=3) (fun _=>rfl) zd k hlt;have hc0:wr.cell? ⟨b,o+k*3,none⟩=some (.bool xs[k].1):=hcs 0 zd;have hc1:wr.cell? ⟨b,o+k*3+1,none⟩=some (.string (bs xs[k].2.1)):=hcs 1 zd;have hc2:wr.cell? ⟨b,o+k*3+2,none⟩=some (.int .i64 xs[k].2.2):=hcs 2 zd;have aX:=sk xs.length cap k (k:Int) hab hlt rfl;have bR:=af (aeV xs k hlt);have kO:Hid (Ok xs[k]):=Hl.out _ (List.getElem_mem hlt);have iW:=af (HS.out k);clear hcs hab;generalize xs[k]=x at*;obtain⟨t1,l1,e1⟩:=x;generalize hS:iu (xs.take k)=S at*;clear hS;obtain⟨N,hN⟩:=az (dN S*iv t1 l1);obtain⟨D,hD⟩:=az (S*ar (t1,l1,e1));obtain⟨g,hg⟩:=az (dE S+e1);have HD:Hid (ar (aj N,nt N.natAbs,g)=D):=by
     show _=_
     rw[xL,<-hD,<-hN];conv=>rhs;rw[uB S]
     unfold ar;rw[qN];congr 1;simp only;omega
    have o1:=iW.out.exp;have o2:=kO.out.exp;have o3:=iW.out.len;have o4:=kO.out.len;have IA:Hid ((nt N.natAbs).length<=34359738368):=by
     show _<=_
     have h2:=BQ t1 l1 268435456 o4;rw[Int.natAbs_neg]at h2;rw[<-hN];exact Nat.le_trans (aiI (dN S) (iv t1 l1) _ _ o3 h2) zd
    rw[hD]at bR;have LX:Hid ((nt (dN S).natAbs).length<=17179869184):=by show _<=_;omega
    have LY:Hid (l1.length<=17179869184):=by show _<=_;omega
    have Hg:Hid (-1099511627776<=g/\g<=1099511627776):=by show _/\_;omega
    have hwg:IntKind.i64.wrap (dE S+e1)=g:=by rw[IntKind.wrap_i64];omega
    have HN:Hid (iv (aj (dN S)) (nt (dN S).natAbs) *iv t1 l1=N):=by show _=_;rw[dI];exact hN
    clear hg hN hD iW kO o1 o2 o3 o4;unfold bJ canon at Hs;simp only at Hs;have hrs:w.heap.size<w2.heap.size:=nO;obtain⟨r0,ah,r1,ai,r2,aB⟩:=Hr.out.g3;obtain⟨s0,aO,s1,aP,s2,aV⟩:=Hs.out.g3;have Fh:=Hr.out.lt;have MH:=Hs.out.lt;go_wp2_with fail;obtain⟨R,hR⟩:∃R:World->Prop,(λW1=>ag W1 (wr.heap.size) 39 [.bool t1,.string (bs l1),.int .i64 e1]/\Bw wr W1)=R:=⟨_,rfl⟩;first|refine bB R ?hR ?_|refine bz R ?hR ?_
    case hR=>subst hR;exact⟨(ag.newAt wr _ _ (b:=wr.heap.size) rfl),zl⟩
    subst hR;rintro W1 ⟨qc,ae⟩;have Hc:=af qc;clear qc r0 ah r1 ai r2 aB;replace Hr:=kB Hr ae;obtain⟨r0,ah,r1,ai,r2,aB⟩:=Hr.out.g3;clear s0 aO s1 aP s2 aV;replace Hs:=kB Hs ae;obtain⟨s0,aO,s1,aP,s2,aV⟩:=Hs.out.g3;obtain⟨c0,c1,c2⟩:=Hc.out.c3;replace Hb:=ak Hb ae;clear ae;refine cf (λw'=>w'.cell? ⟨wr.heap.size,0,none⟩=some (.bool t1)/\w'.cell? ⟨wr.heap.size,1,none⟩=some (.string (bs l1))/\w'.cell? ⟨wr.heap.size,2,none⟩=some (.int .i64 e1)/\w'.cell? ⟨w2.heap.size,0,none⟩=some (.bool (aj (dN S)))/\w'.cell? ⟨w2.heap.size,1,none⟩=some (.string (bs (nt (dN S).natAbs)))/\w'.cell? ⟨w2.heap.size,2,none⟩=some (.int .i64 (dE S))) (λi=>Nat.blt i 12) [(0,true),(1,true),(2,true),(3,true),(6,true),(7,true),(8,true),(9,true),(10,true),(4,false),(5,false),(11,false),(12,false)] zk zk rfl zk zc ⟨c0,c1,c2,s0,s1,s2⟩ ?_;iterate 9 (refine pT rfl rfl ?_ (by intro w' ⟨q0,q1,q2,q3,q4,q5⟩;go_simp;try with_reducible rfl);try simp only[UU])
    refine aF rfl rfl (λK hK=>?_);go_simp;refine hK _ _ (λ_=>⟨aH c0,aH c1,aH c2,aH s0,aH s1,aH s2⟩) ?_;clear hK K;try simp only[UU]
    refine cj (λW3=>ag W3 (W1.heap.size) 32 [.bool (aj (dN S)),.string (bs (nt (dN S).natAbs)),.bool t1,.string (bs l1)]/\Bw W1 W3) (by first|exact fy|exact fA) ?_;rintro W3 ⟨qv,ae⟩;clear r0 ah r1 ai r2 aB s0 aO s1 aP s2 aV c0 c1 c2;have Fi:=Hr.out.lt;have aig:=Hs.out.lt;have Wo:=Hc.out.lt;replace Hr:=kB Hr ae;replace Hs:=kB Hs ae;replace Hc:=kB Hc ae;have Hv:=af qv;clear qv;obtain⟨r0,ah,r1,ai,r2,aB⟩:=Hr.out.g3;obtain⟨s0,aO,s1,aP,s2,aV⟩:=Hs.out.g3;obtain⟨c0,c1,c2⟩:=Hc.out.c3;obtain⟨v0,v1,v2,v3⟩:=Hv.out.c4;replace Hb:=ak Hb ae;clear ae;refine aF rfl rfl (λK hK=>?_);go_simp;with_reducible refine(Yy (aj (dN S)) (nt (dN S).natAbs) t1 l1 N HN.out W1.heap.size 2 32 _ LX.out LY.out Hv.out).mono ?_
    rintro e w3 ⟨rfl,hq⟩;have ae:Bw W3 w3:=by first|exact hq|exact aK hq
    clear r0 ah r1 ai r2 aB s0 aO s1 aP s2 aV c0 c1 c2 v0 v1 v2 v3;replace Hr:=kB Hr ae;replace Hs:=kB Hs ae;replace Hc:=kB Hc ae;replace Hv:=kB Hv ae;obtain⟨r0,ah,r1,ai,r2,aB⟩:=Hr.out.g3;obtain⟨s0,aO,s1,aP,s2,aV⟩:=Hs.out.g3;obtain⟨c0,c1,c2⟩:=Hc.out.c3;obtain⟨v0,v1,v2,v3⟩:=Hv.out.c4;replace Hb:=ak Hb ae;clear ae;refine hK _ _ (λ_=>⟨c0,c1,c2,s0,s1,s2⟩) ?_;clear hK K;try simp only[UU]
    refine aF rfl rfl (λK hK=>?_);go_simp;with_reducible refine(qG (aj N) (nt N.natAbs) g D HD.out _ IA.out Hg.out (by first|exact(bY.out.below Hb.out) |exact au.drew (bY.out.below Hb.out) |exact au.alloc (bY.out.below Hb.out) _|exact au.drew (au.alloc (bY.out.below Hb.out) _) |exact au.alloc (au.drew (bY.out.below Hb.out)) _)).mono ?_
    rintro e w4 ⟨rfl,hq⟩;have ae:Bw w3 w4:=by first|exact hq|exact aK hq
    clear r0 ah r1 ai r2 aB s0 aO s1 aP s2 aV c0 c1 c2 v0 v1 v2 v3;replace Hr:=kB Hr ae;replace Hs:=kB Hs ae;replace Hc:=kB Hc ae;replace Hv:=kB Hv ae;obtain⟨r0,ah,r1,ai,r2,aB⟩:=Hr.out.g3;obtain⟨s0,aO,s1,aP,s2,aV⟩:=Hs.out.g3;obtain⟨c0,c1,c2⟩:=Hc.out.c3;obtain⟨v0,v1,v2,v3⟩:=Hv.out.c4;replace Hb:=ak Hb ae;clear ae;refine hK _ _ (λ_=>⟨c0,c1,c2,s0,s1,s2⟩) ?_;clear hK K;try simp only[UU]
    refine aF rfl rfl (λK hK=>?_);go_simp;refine hK _ _ (λh=>absurd h zd) ?_;clear hK K;try simp only[UU]
    clear r0 ah r1 ai r2 aB s0 aO s1 aP s2 aV c0 c1 c2 v0 v1 v2 v3;refine cj (bf w4 (w2.heap.size) 0 [.bool (aj (dN D)),.string (bs (nt (dN D).natAbs)),.int .i64 (dE D)]) bI ?_;intro w5 hs;replace Hr:=kS Hr hs zo;replace Hs:=cp Hs hs;replace Hc:=kS Hc hs zo;replace Hv:=kS Hv hs zo;obtain⟨r0,ah,r1,ai,r2,aB⟩:=Hr.out.g3;obtain⟨s0,aO,s1,aP,s2,aV⟩:=Hs.out.g3;obtain⟨c0,c1,c2⟩:=Hc.out.c3;obtain⟨v0,v1,v2,v3⟩:=Hv.out.c4;replace Hb:=bS Hb hs ZS;clear hs;simp only[aN];go_wp2;go_roundw;case rel=>refine⟨k+1,by omega,by go_num,Hr.out,?_,Hb.out⟩;rw[bR.out];exact Hs.out
    case measure=>simp[intOf];omega
  . obtain rfl:k=xs.length:=by omega
    rw[List.take_length]at Hs;unfold bJ canon at Hs;simp only at Hs;obtain⟨r0,ah,r1,ai,r2,aB⟩:=Hr.out.g3;obtain⟨s0,aO,s1,aP,s2,aV⟩:=Hs.out.g3;go_wp2;refine bodyPost_ret (v:=bQ (iu xs)) (by simp[results,Tryz.results46,go_sem,r0,r1,r2]) rfl ⟨rfl,?_⟩;(repeat first|exact Hb.out| (refine Below.setCell ?_ (by have:=Hb.out.size;first| (dsimp only;omega) | (show _<=_;omega) | (simp<;>omega)) _) | (refine Below.alloc ?_ zt _) |refine Below.drew ?_)
theorem JS (xs:List Raw)(B:Nat)(S:Dyadic)(hS:iu xs=S)(a:Option Addr)(cap:Nat)(w:World)(hl:∀x∈xs,Fit B x)(hB:B*xs.length+1<=268435456)(hx:xs.length<=1048576)
 (ha:At w a (xs.flatMap bJ)) (hT:au w):
 Calls Tryz.prog 46 #[.slice a xs.length cap] w λe w'=>e=.returned (bQ S)/\Bw w w':=by
 subst hS;refine aes xs a cap w (λx h=>(hl x h).1) (λk=>?_) hx ha hT;refine Sm.ok (B:=B*xs.length+1) (Sm.mono (aeU (B:=B) _ (λx h=>(hl x (List.mem_of_mem_take h)).2)) ?_) hB;rw[List.length_take];have:B*min k xs.length<=B*xs.length:=Nat.mul_le_mul_left _ zo;omega
theorem vq (s:Bool)(l:List UInt8)(e:Int)(t:Bool)(m:List UInt8)(f:Int)(S:Dyadic)(B:Nat)(hS:ar (s,l,e)+ar (t,m,f)=S)(b cap:Nat)(ty:TypeId)(w:World)(hx:Fit B (s,l,e))(hy:Fit B (t,m,f))(hB:B+2<=268435456)
 (ha:ag w b ty [.bool s,.string (bs l),.int .i64 e,.bool t,.string (bs m),.int .i64 f]) (hT:au w):
 Calls Tryz.prog 26 #[.slice (some ⟨b,0,none⟩) 2 cap] w λe w'=>e=.returned (bQ S)/\Bw w w':=
 ael [(s,l,e),(t,m,f)] B S (by rw[<-hS];simp only[jv];grind) _ cap w (by intro x h;simp at h;rcases h with rfl|rfl;exact hx;exact hy) hB zm (At.aqF ha) hT
theorem tG (s:Bool)(l:List UInt8)(e:Int)(t:Bool)(m:List UInt8)(f:Int)(S:Dyadic)(B:Nat)(hS:ar (s,l,e) *ar (t,m,f)=S)(b cap:Nat)(ty:TypeId)(w:World)(hx:Fit B (s,l,e))(hy:Fit B (t,m,f))(hB:2*B+1<=268435456)
 (ha:ag w b ty [.bool s,.string (bs l),.int .i64 e,.bool t,.string (bs m),.int .i64 f]) (hT:au w):
 Calls Tryz.prog 46 #[.slice (some ⟨b,0,none⟩) 2 cap] w λe w'=>e=.returned (bQ S)/\Bw w w':=
 JS [(s,l,e),(t,m,f)] B S (by rw[<-hS];simp only[iu];grind) _ cap w (by intro x h;simp at h;rcases h with rfl|rfl;exact hx;exact hy) zi zm (At.aqF ha) hT
theorem Ak (s:Bool)(l:List UInt8)(e:Int)(t:Bool)(m:List UInt8)(f:Int)(S:Dyadic)(B:Nat)(hS:ar (s,l,e)-ar (t,m,f)=S)(w:World)(hx:Fit B (s,l,e))(hy:Fit B (t,m,f))(hB:B+2<=268435456)(hT:au w):
 Calls Tryz.prog 98 #[.agg #[.bool s,.string (bs l),.int .i64 e],.agg #[.bool t,.string (bs m),.int .i64 f]] w λe w'=>e=.returned (bQ S)/\Bw w w':=by
 obtain⟨D,hD⟩:=az (-ar (t,m,f));have Hn:Hid (Fit B (aj (dN D),nt (dN D).natAbs,dE D)):=by rw[<-hD];exact(hy.2.neg).fit zo
 have HS:Hid (ar (s,l,e)+ar (aj (dN D),nt (dN D).natAbs,dE D)=S):=by show _+ar (canon D)=_;rw[bC,<-hD,<-hS];grind
 obtain⟨Hyo,HD,mV,lf⟩:=dt hy.1 hD hx hy;clear hD hx hy hS;go_enter Tryz.func98,Tryz.ntmps98;have Hb:Hid (Bw w w):=Below.refl _ _;go_wp2_with fail;obtain⟨R,hR⟩:∃R:World->Prop,(λW=>ag W (w.heap.size) 39 [.bool s,.string (bs l),.int .i64 e]/\ag W (w.heap.size+1) 39 [.bool t,.string (bs m),.int .i64 f]/\ag W (w.heap.size+1+1) 39 [.bool false,.string (bs []),.int .i64 0]/\Bw w W)=R:=⟨_,rfl⟩;first|refine bB R ?hR ?_|refine bz R ?hR ?_
 case hR=>subst hR;exact⟨(((ag.newAt w _ _ (b:=w.heap.size) rfl).alloc _).alloc _),((ag.newAt (w.alloc _) _ _ (b:=w.heap.size+1) zm).alloc _),(ag.newAt ((w.alloc _).alloc _) _ _ (b:=w.heap.size+1+1) zm),((zl.alloc zj _).alloc zj _)⟩
 subst hR;rintro W ⟨qx,qy,qr,ae⟩;have Hx:=af qx;clear qx;have Hy:=af qy;clear qy;have Hr:=af qr;clear qr;obtain⟨x0,x1,x2⟩:=Hx.out.c3;obtain⟨y0,y1,y2⟩:=Hy.out.c3;obtain⟨r0,ah,r1,ai,r2,aB⟩:=Hr.out.g3;replace Hb:=ak Hb ae;clear ae;refine cf (λw'=>w'.cell? ⟨w.heap.size,0,none⟩=some (.bool s)/\w'.cell? ⟨w.heap.size,1,none⟩=some (.string (bs l))/\w'.cell? ⟨w.heap.size,2,none⟩=some (.int .i64 e)/\w'.cell? ⟨w.heap.size+1,0,none⟩=some (.bool t)/\w'.cell? ⟨w.heap.size+1,1,none⟩=some (.string (bs m))/\w'.cell? ⟨w.heap.size+1,2,none⟩=some (.int .i64 f)) (λi=>Nat.blt i 5) [(0,true),(1,true),(2,false),(3,false),(4,false),(5,false)] zk zk rfl zk zc ⟨x0,x1,x2,y0,y1,y2⟩ ?_;iterate 2 (refine pT rfl rfl ?_ (by intro w' ⟨q0,q1,q2,q3,q4,q5⟩;go_simp;try with_reducible rfl);try simp only[UU])
 refine aF rfl rfl (λK hK=>?_);go_simp;with_reducible refine(JV t m f D HD.out _ Hyo.out (by first|exact(hT.below Hb.out) |exact au.drew (hT.below Hb.out) |exact au.alloc (hT.below Hb.out) _|exact au.drew (au.alloc (hT.below Hb.out) _) |exact au.alloc (au.drew (hT.below Hb.out)) _)).mono ?_
 rintro e w1 ⟨rfl,hq⟩;have ae:Bw W w1:=by first|exact hq|exact aK hq
 clear x0 x1 x2 y0 y1 y2 r0 ah r1 ai r2 aB;replace Hx:=kB Hx ae;replace Hy:=kB Hy ae;replace Hr:=kB Hr ae;obtain⟨x0,x1,x2⟩:=Hx.out.c3;obtain⟨y0,y1,y2⟩:=Hy.out.c3;obtain⟨r0,ah,r1,ai,r2,aB⟩:=Hr.out.g3;replace Hb:=ak Hb ae;clear ae;refine hK _ _ (λ_=>⟨x0,x1,x2,y0,y1,y2⟩) ?_;clear hK K;try simp only[UU]
 refine aF rfl rfl (λK hK=>?_);go_simp;refine hK _ _ (λ_=>⟨aH x0,aH x1,aH x2,aH y0,aH y1,aH y2⟩) ?_;clear hK K;try simp only[UU]
 refine cj (λW1=>ag W1 (w1.heap.size) 39 [.bool s,.string (bs l),.int .i64 e,.bool (aj (dN D)),.string (bs (nt (dN D).natAbs)),.int .i64 (dE D)]/\Bw w1 W1) (by first|exact fy|exact fA) ?_;rintro W1 ⟨qv,ae⟩;clear x0 x1 x2 y0 y1 y2 r0 ah r1 ai r2 aB;have apI:=Hx.out.lt;have apK:=Hy.out.lt;have Fh:=Hr.out.lt;replace Hx:=kB Hx ae;replace Hy:=kB Hy ae;replace Hr:=kB Hr ae;have Hv:=af qv;clear qv;obtain⟨x0,x1,x2⟩:=Hx.out.c3;obtain⟨y0,y1,y2⟩:=Hy.out.c3;obtain⟨r0,ah,r1,ai,r2,aB⟩:=Hr.out.g3;obtain⟨v0,v1,v2,v3,v4,v5⟩:=Hv.out.c6;replace Hb:=ak Hb ae;clear ae;refine aF rfl rfl (λK hK=>?_);go_simp;with_reducible refine(vq s l e (aj (dN D)) (nt (dN D).natAbs) (dE D) S B HS.out w1.heap.size 2 39 _ mV.out Hn.out hB Hv.out (by first|exact(hT.below Hb.out) |exact au.drew (hT.below Hb.out) |exact au.alloc (hT.below Hb.out) _|exact au.drew (au.alloc (hT.below Hb.out) _) |exact au.alloc (au.drew (hT.below Hb.out)) _)).mono ?_
 rintro e w2 ⟨rfl,hq⟩;have ae:Bw W1 w2:=by first|exact hq|exact aK hq
 clear x0 x1 x2 y0 y1 y2 r0 ah r1 ai r2 aB v0 v1 v2 v3 v4 v5;replace Hx:=kB Hx ae;replace Hy:=kB Hy ae;replace Hr:=kB Hr ae;replace Hv:=kB Hv ae;obtain⟨x0,x1,x2⟩:=Hx.out.c3;obtain⟨y0,y1,y2⟩:=Hy.out.c3;obtain⟨r0,ah,r1,ai,r2,aB⟩:=Hr.out.g3;obtain⟨v0,v1,v2,v3,v4,v5⟩:=Hv.out.c6;replace Hb:=ak Hb ae;clear ae;refine hK _ _ (λ_=>⟨x0,x1,x2,y0,y1,y2⟩) ?_;clear hK K;try simp only[UU]
 refine aF rfl rfl (λK hK=>?_);go_simp;refine hK _ _ (λh=>absurd h zd) ?_;clear hK K;try simp only[UU]
 clear x0 x1 x2 y0 y1 y2 r0 ah r1 ai r2 aB v0 v1 v2 v3 v4 v5;refine cj (bf w2 (w.heap.size+1+1) 0 [.bool (aj (dN S)),.string (bs (nt (dN S).natAbs)),.int .i64 (dE S)]) bI ?_;intro w3 hs;replace Hx:=kS Hx hs zo;replace Hy:=kS Hy hs zo;replace Hr:=cp Hr hs;replace Hv:=kS Hv hs zo;obtain⟨x0,x1,x2⟩:=Hx.out.c3;obtain⟨y0,y1,y2⟩:=Hy.out.c3;obtain⟨r0,ah,r1,ai,r2,aB⟩:=Hr.out.g3;obtain⟨v0,v1,v2,v3,v4,v5⟩:=Hv.out.c6;replace Hb:=bS Hb hs ZS;clear hs;simp only[aN];go_wp2;refine bodyPost_ret (v:=bQ S) (by simp[results,Tryz.results98,go_sem,r0,r1,r2]) rfl ⟨rfl,?_⟩;(repeat first|exact Hb.out| (refine Below.setCell ?_ (by have:=Hb.out.size;first| (dsimp only;omega) | (show _<=_;omega) | (simp<;>omega)) _) | (refine Below.alloc ?_ zt _) |refine Below.drew ?_)
theorem Kb (n k:Int):aL (Dyadic.ofIntWithPrec n k)=dO n:=by have h:=XA (aj n) (nt n.natAbs) (-k);rw[xL,dI,Int.neg_neg]at h;exact h.symm
theorem oC (s:Bool)(l:List UInt8)(e:Int)(t:Bool)(m:List UInt8)(f:Int)(c:Int)(hc:aL (ar (s,l,e)-ar (t,m,f))=c)(w:World)(hx:Ok (s,l,e))(hy:Ok (t,m,f))(hT:au w):
 Calls Tryz.prog 25 #[.agg #[.bool s,.string (bs l),.int .i64 e],.agg #[.bool t,.string (bs m),.int .i64 f]] w λe w'=>e=.returned (.int .i64 c)/\Bw w w':=by
 obtain⟨g,X,Y,hg,hX,hY,eA,eB,lX,lY,hg1,hg2⟩:=Wm hx hy _ _ rfl rfl;have Li:dO (X-Y)=c:=by rw[<-hc,eA,eB,show ∀a b:Dyadic,a-b=a+ -b from λa b=>by grind,FJ,uA,Kb];rfl
 obtain⟨u,hu⟩:=az (aL (ar (s,l,e)));obtain⟨v,hv⟩:=az (aL (ar (t,m,f)));have hu2:dO X=u:=by rw[<-hu,eA,Kb]
 have hv2:dO Y=v:=by rw[<-hv,eB,Kb]
 have ru: -1<=u/\u<=1:=by rw[<-hu2];unfold dO;split<;>(try split)<;>omega
 have rv: -1<=v/\v<=1:=by rw[<-hv2];unfold dO;split<;>(try split)<;>omega
 have xk:Hid (∀W,au W->Calls Tryz.prog 66 #[.agg #[.bool s,.string (bs l),.int .i64 e],.agg #[.bool t,.string (bs m),.int .i64 f]] W λex w'=>ex=.returned (.agg #[.int .i64 g,.bool (aj X),.string (bs (nt X.natAbs)),.bool (aj Y),.string (bs (nt Y.natAbs))])/\Bw W w'):=λW hW=>
  VW s l e t m f _ _ rfl rfl g X Y hg hX hY W hx hy hW
 have rf:Hid (∀W,Calls Tryz.prog 67 #[bM X,bM Y] W λex w'=>ex=.returned (.int .i64 c)/\Bw W w'):=λW=>by
  have:=alL (aj X) (nt X.natAbs) (aj Y) (nt Y.natAbs) W zo zo (by rw[dI,dI,Int.sub_eq_add_neg];exact Nat.le_trans (Qx X (-Y) 17179869183 lX (by rw[Int.natAbs_neg];exact lY)) zd)
  rw[dI,dI,Li]at this;exact this
 have hcl:¬u=v->max (-1) (min 1 (u-v))=c:=by intro hne;rw[<-Li];rw[<-hu2,<-hv2]at hne⊢;unfold dO at*;split<;>split<;>(try split)<;>(try split)<;>(try split)<;>omega
 have hwr:IntKind.i64.wrap (u-v)=u-v:=by rw[IntKind.wrap_i64];omega
 obtain⟨Hu,Hv,mV,lf⟩:=dt hu hv hx hy;clear hu hv hu2 hv2 hx hy Li hc eA eB hX hY hg;go_enter Tryz.func25,Tryz.ntmps25;have Hb:Hid (Bw w w):=Below.refl _ _;go_wp2_with fail;obtain⟨R,hR⟩:∃R:World->Prop,(λW=>ag W (w.heap.size) 39 [.bool s,.string (bs l),.int .i64 e]/\ag W (w.heap.size+1) 39 [.bool t,.string (bs m),.int .i64 f]/\Bw w W)=R:=⟨_,rfl⟩;first|refine bB R ?hR ?_|refine bz R ?hR ?_
 case hR=>subst hR;exact⟨((ag.newAt w _ _ (b:=w.heap.size) rfl).alloc _),(ag.newAt (w.alloc _) _ _ (b:=w.heap.size+1) zm),(zl.alloc zj _)⟩
 subst hR;rintro W ⟨qx,qy,ae⟩;have Hx:=af qx;clear qx;have Hy:=af qy;clear qy;obtain⟨x0,x1,x2⟩:=Hx.out.c3;obtain⟨y0,y1,y2⟩:=Hy.out.c3;replace Hb:=ak Hb ae;clear ae;refine cf (λw'=>w'.cell? ⟨w.heap.size,0,none⟩=some (.bool s)/\w'.cell? ⟨w.heap.size,1,none⟩=some (.string (bs l))/\w'.cell? ⟨w.heap.size,2,none⟩=some (.int .i64 e)/\w'.cell? ⟨w.heap.size+1,0,none⟩=some (.bool t)/\w'.cell? ⟨w.heap.size+1,1,none⟩=some (.string (bs m))/\w'.cell? ⟨w.heap.size+1,2,none⟩=some (.int .i64 f)) (λi=>Nat.blt i 100000) [(0,true),(2,true),(1,false),(3,false),(4,true),(5,true)] zk zk rfl zk zc ⟨x0,x1,x2,y0,y1,y2⟩ ?_;iterate 2 (refine pT rfl rfl ?_ (by intro w' ⟨q0,q1,q2,q3,q4,q5⟩;go_simp;try with_reducible rfl);try simp only[UU])
 refine aF rfl rfl (λK hK=>?_);go_simp;with_reducible refine(lj s l e u Hu.out _ mV.out).mono ?_
 rintro e w1 ⟨rfl,hq⟩;have ae:Bw W w1:=by first|exact hq|exact aK hq
 clear x0 x1 x2 y0 y1 y2;replace Hx:=kB Hx ae;replace Hy:=kB Hy ae;obtain⟨x0,x1,x2⟩:=Hx.out.c3;obtain⟨y0,y1,y2⟩:=Hy.out.c3;replace Hb:=ak Hb ae;clear ae;refine hK _ _ (λ_=>⟨x0,x1,x2,y0,y1,y2⟩) ?_;clear hK K;try simp only[UU]
 refine aF rfl rfl (λK hK=>?_);go_simp;with_reducible refine(lj t m f v Hv.out _ lf.out).mono ?_
 rintro e w2 ⟨rfl,hq⟩;have ae:Bw w1 w2:=by first|exact hq|exact aK hq
 clear x0 x1 x2 y0 y1 y2;replace Hx:=kB Hx ae;replace Hy:=kB Hy ae;obtain⟨x0,x1,x2⟩:=Hx.out.c3;obtain⟨y0,y1,y2⟩:=Hy.out.c3;replace Hb:=ak Hb ae;clear ae;refine hK _ _ (λ_=>⟨x0,x1,x2,y0,y1,y2⟩) ?_;clear hK K;try simp only[UU]
 iterate 2 (refine pT rfl rfl ?_;try simp only[UU])
 simp only[aN];by_cases rY:u=v
 . subst rY;clear hcl;go_wp2_with fail;have HT:=af (hT.below Hb.out);go_wp2_with fail;refine(xk.out _ HT.out).mono ?_;rintro e w3 ⟨rfl,ae⟩;clear x0 x1 x2 y0 y1 y2;replace Hx:=kB Hx ae;replace Hy:=kB Hy ae;obtain⟨x0,x1,x2⟩:=Hx.out.c3;obtain⟨y0,y1,y2⟩:=Hy.out.c3;replace Hb:=ak Hb ae;clear ae;have aik:=Hx.out.lt;have apM:=Hy.out.lt;go_wp2_with fail;obtain⟨R,hR⟩:∃R:World->Prop,(λW4=>ag W4 (w3.heap.size) 100 [.int .i64 g,.bool (aj X),.string (bs (nt X.natAbs)),.bool (aj Y),.string (bs (nt Y.natAbs))]/\Bw w3 W4)=R:=⟨_,rfl⟩;first|refine bB R ?hR ?_|refine bz R ?hR ?_
   case hR=>subst hR;exact⟨(ag.newAt w3 _ _ (b:=w3.heap.size) rfl),zl⟩
   subst hR;rintro W4 ⟨qp,ae⟩;have Hp:=af qp;clear qp x0 x1 x2;replace Hx:=kB Hx ae;obtain⟨x0,x1,x2⟩:=Hx.out.c3;clear y0 y1 y2;replace Hy:=kB Hy ae;obtain⟨y0,y1,y2⟩:=Hy.out.c3;obtain⟨p0,p1,p2,p3,p4⟩:=Hp.out.c5;replace Hb:=ak Hb ae;clear ae;go_wp2_with fail;refine(rf.out _).mono ?_;rintro e w5 ⟨rfl,ae⟩;clear x0 x1 x2 y0 y1 y2 p0 p1 p2 p3 p4;replace Hx:=kB Hx ae;replace Hy:=kB Hy ae;replace Hp:=kB Hp ae;obtain⟨x0,x1,x2⟩:=Hx.out.c3;obtain⟨y0,y1,y2⟩:=Hy.out.c3;obtain⟨p0,p1,p2,p3,p4⟩:=Hp.out.c5;replace Hb:=ak Hb ae;clear ae;go_wp2;go_ret;exact⟨rfl,Hb.out⟩
 . have hcl:=hcl rY;have an8:(u !=v)=true:=by simp[rY]
   go_wp2;go_ret;exact⟨rfl,Hb.out⟩
theorem aej (s:Bool)(l:List UInt8)(e:Int)(D:Dyadic)(hD:(if aL (ar (s,l,e))<0 then-ar (s,l,e)else ar (s,l,e))=D)(w:World)(hx:Ok (s,l,e))(hT:au w):
 Calls Tryz.prog 145 #[.agg #[.bool s,.string (bs l),.int .i64 e]] w λex w'=>ex=.returned (bQ D)/\Bw w w':=by
 obtain⟨u,hu⟩:=az (aL (ar (s,l,e)));have mV:=af hx;clear hx;have Hu:=af hu;rw[hu]at hD;clear hu;by_cases h:u<0
 . rw[if_pos h]at hD;have HD:=af hD;clear hD;go_enter Tryz.func145,Tryz.ntmps145;have Hb:Hid (Bw w w):=Below.refl _ _;go_wp2_with fail;obtain⟨R,hR⟩:∃R:World->Prop,(λW=>ag W (w.heap.size) 39 [.bool s,.string (bs l),.int .i64 e]/\ag W (w.heap.size+1) 39 [.bool false,.string (bs []),.int .i64 0]/\Bw w W)=R:=⟨_,rfl⟩;first|refine bB R ?hR ?_|refine bz R ?hR ?_
   case hR=>subst hR;exact⟨((ag.newAt w _ _ (b:=w.heap.size) rfl).alloc _),(ag.newAt (w.alloc _) _ _ (b:=w.heap.size+1) zm),(zl.alloc zj _)⟩
   subst hR;rintro W ⟨qx,qr,ae⟩;have Hx:=af qx;clear qx;have Hr:=af qr;clear qr;obtain⟨x0,x1,x2⟩:=Hx.out.c3;obtain⟨r0,ah,r1,ai,r2,aB⟩:=Hr.out.g3;replace Hb:=ak Hb ae;clear ae;go_wp2_with fail;refine(lj s l e u Hu.out _ mV.out).mono ?_;rintro e w1 ⟨rfl,ae⟩;clear x0 x1 x2 r0 ah r1 ai r2 aB;replace Hx:=kB Hx ae;replace Hr:=kB Hr ae;obtain⟨x0,x1,x2⟩:=Hx.out.c3;obtain⟨r0,ah,r1,ai,r2,aB⟩:=Hr.out.g3;replace Hb:=ak Hb ae;clear ae;have HT:=af (hT.below Hb.out);go_wp2_with fail;refine(JV s l e D HD.out _ mV.out HT.out).mono ?_;rintro e w2 ⟨rfl,ae⟩;clear x0 x1 x2 r0 ah r1 ai r2 aB;replace Hx:=kB Hx ae;replace Hr:=kB Hr ae;obtain⟨x0,x1,x2⟩:=Hx.out.c3;obtain⟨r0,ah,r1,ai,r2,aB⟩:=Hr.out.g3;replace Hb:=ak Hb ae;clear ae;go_wp2;refine bodyPost_ret (v:=bQ D) (by simp[results,Tryz.results145,go_sem,r0,r1,r2]) rfl ⟨rfl,?_⟩;(repeat first|exact Hb.out| (refine Below.setCell ?_ (by have:=Hb.out.size;first| (dsimp only;omega) | (show _<=_;omega) | (simp<;>omega)) _) | (refine Below.alloc ?_ zt _) |refine Below.drew ?_)
 . rw[if_neg h]at hD;have HD:=af hD;clear hD;have h2:0<=u:=by omega
   go_enter Tryz.func145,Tryz.ntmps145;have Hb:Hid (Bw w w):=Below.refl _ _;go_wp2_with fail;obtain⟨R,hR⟩:∃R:World->Prop,(λW=>ag W (w.heap.size) 39 [.bool s,.string (bs l),.int .i64 e]/\ag W (w.heap.size+1) 39 [.bool false,.string (bs []),.int .i64 0]/\Bw w W)=R:=⟨_,rfl⟩;first|refine bB R ?hR ?_|refine bz R ?hR ?_
   case hR=>subst hR;exact⟨((ag.newAt w _ _ (b:=w.heap.size) rfl).alloc _),(ag.newAt (w.alloc _) _ _ (b:=w.heap.size+1) zm),(zl.alloc zj _)⟩
   subst hR;rintro W ⟨qx,qr,ae⟩;have Hx:=af qx;clear qx;have Hr:=af qr;clear qr;obtain⟨x0,x1,x2⟩:=Hx.out.c3;obtain⟨r0,ah,r1,ai,r2,aB⟩:=Hr.out.g3;replace Hb:=ak Hb ae;clear ae;go_wp2_with fail;refine(lj s l e u Hu.out _ mV.out).mono ?_;rintro e w1 ⟨rfl,ae⟩;clear x0 x1 x2 r0 ah r1 ai r2 aB;replace Hx:=kB Hx ae;replace Hr:=kB Hr ae;obtain⟨x0,x1,x2⟩:=Hx.out.c3;obtain⟨r0,ah,r1,ai,r2,aB⟩:=Hr.out.g3;replace Hb:=ak Hb ae;clear ae;have HT:=af (hT.below Hb.out);go_wp2_with fail;refine(oH s l e D HD.out _ mV.out HT.out).mono ?_;rintro e w2 ⟨rfl,ae⟩;clear x0 x1 x2 r0 ah r1 ai r2 aB;replace Hx:=kB Hx ae;replace Hr:=kB Hr ae;obtain⟨x0,x1,x2⟩:=Hx.out.c3;obtain⟨r0,ah,r1,ai,r2,aB⟩:=Hr.out.g3;replace Hb:=ak Hb ae;clear ae;go_wp2;refine bodyPost_ret (v:=bQ D) (by simp[results,Tryz.results145,go_sem,r0,r1,r2]) rfl ⟨rfl,?_⟩;(repeat first|exact Hb.out| (refine Below.setCell ?_ (by have:=Hb.out.size;first| (dsimp only;omega) | (show _<=_;omega) | (simp<;>omega)) _) | (refine Below.alloc ?_ zt _) |refine Below.drew ?_)
end Go.Proofs.YtoopepmmepmfnaaGreatDoor
namespace Go.Proofs.YtoopepmmepmfnaaGreatDoor
theorem ajt (n k:Int):Dyadic.ofIntWithPrec n k<0↔n<0:=by
 rw[<-Dyadic.toRat_lt_toRat_iff,Dyadic.toRat_ofIntWithPrec_eq_mul_two_pow,Dyadic.toRat_zero];have h2:(0:Rat)<2^(-k):=Rat.zpow_pos zd;constructor
 . intro h;by_cases h3:n<0
   . exact h3
   . exfalso
     have h4:(0:Rat)<=(n:Rat):=by exact_mod_cast Int.not_lt.1 h3
     have h5:=Rat.mul_nonneg h4 (Rat.le_of_lt h2);grind
 . intro h;have h4:(n:Rat)<0:=by exact_mod_cast h
   have:=Rat.mul_lt_mul_of_pos_right h4 h2;grind
theorem oF (X:Dyadic):aL X<0↔X<0:=by
 conv=>rhs;rw[uB X]
 rw[ajt];unfold aL dO;split
 . rename_i h;simp[h]
 . rename_i h
   split<;>simp<;>omega
theorem Rz (X:Dyadic):aL X=0↔X=0:=by
 constructor
 . intro h;have h1:dN X=0:=by
    unfold aL dO at h;by_cases h1:dN X<0
    . rw[if_pos h1]at h;cases h
    . rw[if_neg h1]at h;by_cases h2:dN X=0
      . exact h2
      . rw[if_neg h2]at h;cases h
   have h2:=uB X;rw[h1,uC]at h2;exact h2
 . rintro rfl;rfl
def mO (X:Dyadic):Dyadic:=Dyadic.ofIntWithPrec (aL X) 0
theorem Xz (X:Dyadic):mO X=if X<0 then-1 else if X=0 then 0 else 1:=by
 unfold mO;have h1:=oF X;have h2:=Rz X;have h3:aL X= -1\/aL X=0\/aL X=1:=by
  unfold aL dO;split
  . exact .inl rfl
  . split
    . exact .inr (.inl rfl)
    . exact .inr (.inr rfl)
 rcases h3 with h|h|h
 . rw[if_pos (h1.1 zo),h];rfl
 . rw[if_neg (λh4=>by have:=h1.2 h4;omega),if_pos (h2.1 h),h];rfl
 . rw[if_neg (λh4=>by have:=h1.2 h4;omega),if_neg (λh4=>by have:=h2.2 h4;omega),h];rfl
def Gm (n:Nat)(p:Nat->Nat->Dyadic)(x:Nat->Dyadic)(k:Nat):Dyadic:=mO (fW n p) *fW n (NN p k x)
def jE (e:Nat->Nat->Dyadic)(r c:Nat):Nat->Nat->Dyadic:=λa b=>e (if a<r then a else a+1) (if b<c then b else b+1)
def ym (n:Nat)(e:Nat->Nat->Dyadic)(y:Nat->Dyadic)(i:Nat):Nat->Dyadic
 |0=>0
 |k+1=>ym n e y i k+y k* (if(k+i)%2=1 then-dH (n-1) (jE e i k)else dH (n-1) (jE e i k))
theorem ahy (n:Nat)(hn:1<=n)(cE:n<=4)(e:Nat->Nat->Dyadic)(y:Nat->Dyadic)(i:Nat)(hi:i<n):ym n e y i n=dH n λa b=>if a=i then y b else e a b:=by
 have hc:(n=1/\i=0)\/(n=2/\i=0)\/(n=2/\i=1)\/(n=3/\i=0)\/(n=3/\i=1)\/(n=3/\i=2)\/(n=4/\i=0)\/(n=4/\i=1)\/(n=4/\i=2)\/(n=4/\i=3):=by omega
 rcases hc with⟨rfl,rfl⟩ |⟨rfl,rfl⟩ |⟨rfl,rfl⟩ |⟨rfl,rfl⟩ |⟨rfl,rfl⟩ |⟨rfl,rfl⟩ |⟨rfl,rfl⟩ |⟨rfl,rfl⟩ |⟨rfl,rfl⟩ |⟨rfl,rfl⟩<;>(simp[ym,dH,jE];try grind)
theorem aeZ (n:Nat)(p:Nat->Nat->Dyadic)(x:Nat->Dyadic)(i:Nat):fW n (NN p (i+1) x)=dH n λa b=>if a=i then x b-p 0 b else p (a+1) b-p 0 b:=by
 unfold fW NN;congr 1;funext a b
 by_cases h:a=i
 . rw[if_pos h,if_pos zo,if_neg zo]
 . rw[if_neg h,if_neg zo,if_neg zo]
end Go.Proofs.YtoopepmmepmfnaaGreatDoor
namespace Go.Proofs.YtoopepmmepmfnaaGreatDoor
open Go.RowKit
attribute [local go_sem ↓] Go.wp_at_zero Go.wp_at_succ
def fP (l:List UInt8)(v:Int):Bool:=(l.all λc=>decide (c.toNat<=127))&&decide ((l.length:Int)=v)
theorem Fx (l:List UInt8)(v:Int)(w:World)(hl:l.length<=9223372036854775807):
 Calls Tryz.prog 187 #[.string (bs l),.int .i64 v] w λe w'=>e=.returned (.bool (fP l v))/\Bw w w':=by
 obtain⟨n,hn⟩:=az l.length;have hsz:(bs l).size=n:=by rw[lV,hn]
 obtain⟨M,hM⟩:=az (fP l v);rw[hM];obtain⟨HM,Hn⟩:=aJ hM hn;rw[hn]at hl;clear hM hn;go_enter Tryz.func187,Tryz.ntmps187;have Hb:Hid (Bw w w):=Below.refl _ _;go_wp2_with fail;go_loopw[8] (λx wr=>∃k:Nat,k<=n/\x=.int .i64 (k:Int)/\((l.take k).all λc=>decide (c.toNat<=127))=true/\Bw w wr) (λx _=>n-(intOf x).toNat);case atStart=>exact⟨0,Nat.zero_le _,rfl,rfl,Hb.out⟩
 case round=>
  clear Hb;obtain⟨k,hk,rfl,hall,pb⟩:=hrel;obtain⟨sS,Hb⟩:=aJ hall pb;clear hall pb;by_cases hlt:k<n
  . have hk2:k<l.length:=by rw[Hn.out];exact hlt
    have ix:=yl l (k:Int) k hk2 rfl;obtain⟨c,hc⟩:∃c:Nat,(l[k]).toNat=c:=⟨_,rfl⟩;rw[hc]at ix;by_cases h1:127<c
    . have h2:(127:Int)<(c:Int):=by omega
      have Bo:M=false:=by
       rw[<-HM.out];unfold fP;have:(l.all λc=>decide (c.toNat<=127))=false:=by rw[List.all_eq_false];exact⟨l[k],List.getElem_mem hk2,by simp;omega⟩
       rw[this];rfl
      subst Bo;go_wp2;refine bodyPost_ret (v:=.bool false) (by simp[results,Tryz.results187,go_sem]) rfl ⟨rfl,?_⟩;(repeat first|exact Hb.out| (refine Below.setCell ?_ (by have:=Hb.out.size;first| (dsimp only;omega) | (show _<=_;omega) | (simp<;>omega)) _) | (refine Below.alloc ?_ zt _) |refine Below.drew ?_)
    . have h2:¬(127:Int)<(c:Int):=by omega
      have bR:Hid (((l.take (k+1)).all λc=>decide (c.toNat<=127))=true):=by
       show _=_
       rw[List.take_succ_eq_append_getElem hk2,List.all_append,sS.out];simp;omega
      clear hc;go_wp2;go_roundw;case rel=>exact⟨k+1,by omega,by go_num,bR.out,Hb.out⟩
      case measure=>simp[intOf];omega
  . obtain rfl:k=n:=by omega
    have hme:M=decide ((k:Int)=v):=by rw[<-HM.out];have h:=sS.out;rw[List.take_of_length_le (by rw[Hn.out];exact Nat.le_refl _)]at h;unfold fP;rw[h,Hn.out,Bool.true_and]
    have Hme:=af hme;clear hme;go_wp2;refine bodyPost_ret (results_tmp rfl _ _ _) rfl ⟨?_,Hb.out⟩;rw[Hme.out];by_cases h:(k:Int)=v<;>simp[h]
theorem DU (v:Int)(w:World):
 Calls Tryz.prog 146 #[.int .i64 v] w λe w'=>e=.returned (.bool (decide (0<=v/\v<=12)))/\Bw w w':=by
 have Hb:Hid (Bw w w):=Below.refl _ _;go_enter Tryz.func146,Tryz.ntmps146;by_cases h1:0<=v
 . by_cases h2:v<=12
   . go_wp2;refine bodyPost_ret (results_tmp rfl _ _ _) rfl ⟨?_,Hb.out⟩;simp[h2];omega
   . go_wp2;refine bodyPost_ret (results_tmp rfl _ _ _) rfl ⟨?_,Hb.out⟩;simp[h2]
 . go_wp2;refine bodyPost_ret (results_tmp rfl _ _ _) rfl ⟨?_,Hb.out⟩;simp;omega
end Go.Proofs.YtoopepmmepmfnaaGreatDoor
namespace Go.Proofs.YtoopepmmepmfnaaGreatDoor
end Go.Proofs.YtoopepmmepmfnaaGreatDoor
