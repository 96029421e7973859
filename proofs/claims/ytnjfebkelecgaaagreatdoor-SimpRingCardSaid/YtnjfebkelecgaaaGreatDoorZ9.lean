/- Package dyad: Make,Form,Sign,Shift,Of,Neg,Abs. -/
import Derived.Test.YtnjfebkelecgaaaGreatDoorZ7
import Derived.Test.YtnjfebkelecgaaaGreatDoorZ8
import Derived.Test.YtnjfebkelecgaaaGreatDoorZ6
import Derived.Test.YtnjfebkelecgaaaGreatDoorZ1
set_option linter.unusedVariables false
set_option linter.unusedSimpArgs false
set_option maxRecDepth 100000
set_option maxHeartbeats 16000000
namespace Go.Proofs.YtnjfebkelecgaaaGreatDoor
open Go.RowKit
attribute [local go_sem ↓] Go.wp_at_zero Go.wp_at_succ
abbrev cP (d:Dyadic):Value:=.agg #[ar (aI (dN d)),ai (nt (dN d).natAbs),ah (dE d)]
theorem al6 :(⟨#[]⟩:ByteArray)=bs []:=rfl
theorem au3 (s:Bool)(l:List UInt8)(n:Nat)(Z:Int)(hZ:iv s l/2^n=Z)(w:World)(hl:l.length<=34359738368)(hn:n<=549755813888)(hT:aO w):
 Calls Tryz.prog 103 #[.agg #[ar s,ai l],ah (-(n:Int))] w λe w'=>e=.returned (dt Z)/\Bw w w':=by
 rcases Nat.eq_zero_or_pos n with h|h
 . subst h;subst hZ;have:=Wq s l 0 w zo zo;simpa using this
 . subst hZ;exact agD s l n w hl h zo hT
theorem avX (v k:Nat)(h:v<2^k):tz v<=k:=by
 rcases Nat.eq_zero_or_pos v with h0|h0
 . subst h0;exact Nat.zero_le _
 . obtain⟨m,hm⟩:=age v h0;rcases Nat.lt_or_ge k (tz v)with h1|h1
   . exfalso
     have h2:=Nat.pow_le_pow_right (show 0<2 by decide) (Nat.le_of_lt h1);have h3:2^tz v<=2^tz v* (2*m+1):=Nat.le_mul_of_pos_right _ zo;omega
   . exact h1
theorem agb (n:Int):tz n.natAbs=n.trailingZeros:=by
 unfold tz;rcases Int.natAbs_eq n with h|h
 . rw[<-h]
 . conv=>rhs;rw[h]
   rw[Int.trailingZeros_neg]
theorem Ru (s:Bool)(l:List UInt8)(e:Int)(h:iv s l=0):aM (s,l,e)=0:=by unfold aM;simp only[h];exact zu _
theorem Rt (s:Bool)(l:List UInt8)(e:Int)(h:iv s l≠0):dN (aM (s,l,e))=iv s l/2^tz (nv l)/\dE (aM (s,l,e))=e+(tz (nv l):Int):=by have:=ZW (k:=-e) h;unfold aM;rw[show tz (nv l)=(iv s l).trailingZeros by rw[<-oX s l];exact agb _];exact⟨this.1,by rw[this.2];omega⟩
theorem yU (s:Bool)(l:List UInt8)(e:Int)(D:Dyadic)(hD:aM (s,l,e)=D)(w:World)(hl:l.length<=34359738368)(he: -1099511627776<=e/\e<=1099511627776)(hT:aO w):
 Calls Tryz.prog 59 #[.agg #[ar s,ai l],ah e] w λex w'=>ex=.returned (cP D)/\Bw w w':=by
 have rR:Hid (l.length<=1099511627776):=by show _<=_;omega
 have Hl1:Hid (l.length<=68719476736):=by show _<=_;omega
 by_cases h0:iv s l=0
 . have h1:=Ru s l e h0;rw[hD]at h1;subst h1;clear hD;have h2:fH (iv s l)=0:=by rw[h0];rfl
   have H2:=aj h2;clear h2;have Hv:Hid (cP 0=.agg #[ar false,.string (bs []),ah 0]):=rfl;go_enter Tryz.func59,Tryz.ntmps59;have Hb:Hid (Bw w w):=Below.refl _ _;go_wp2_with fail;obtain⟨R,hR⟩:∃R:World->Prop,(λW=>aC W (w.heap.size) 46 [ar s,ai l]/\aC W (w.heap.size+1) 48 [ar false,.string (bs []),ah 0]/\Bw w W)=R:=⟨_,rfl⟩;first|refine cj R ?hR ?_|refine cu R ?hR ?_
   case hR=>subst hR;exact⟨((aC.newAt w _ _ (b:=w.heap.size) rfl).alloc _),(aC.newAt (w.alloc _) _ _ (b:=w.heap.size+1) zm),(zl.alloc zj _)⟩
   subst hR;rintro W ⟨qx,qr,ag⟩;have Hx:=aj qx;clear qx;have Hr:=aj qr;clear qr;obtain⟨x0,x1⟩:=Hx.out.c2;obtain⟨r0,au,r1,az,r2,aJ⟩:=Hr.out.g3;replace Hb:=aF Hb ag;clear ag;go_wp2_with fail;refine(Ol s l _ rR.out).mono ?_;rintro e w1 ⟨rfl,ag⟩;clear x0 x1 r0 au r1 az r2 aJ;obtain⟨Hx,x0,x1⟩:=bi Hx ag;obtain⟨Hr,r0,au,r1,az,r2,aJ⟩:=bg Hr ag;replace Hb:=aF Hb ag;clear ag;rw[H2.out];go_wp2;exact bodyPost_ret (v:=.agg #[ar false,.string (bs []),ah 0]) (by simp[results,Tryz.results59,go_sem,r0,r1,r2,al6]) rfl ⟨by rw[Hv.out],di⟩
 . obtain⟨h1,h2⟩:=Rt s l e h0;rw[hD]at h1 h2;clear hD;have hg0:fH (iv s l)≠0:=by unfold fH;split<;>(try split)<;>omega
   have Hg:Hid (∃g,fH (iv s l)=g/\g≠0):=⟨_,rfl,hg0⟩;obtain⟨g,hg,hg0⟩:=Hg.out;have Hg:=aj hg;clear hg;have hn:tz (nv l)<=549755813888:=Nat.le_trans (avX (nv l) (8*l.length) (by have:=gz l;rwa [show(256:Nat)=2^8 by rfl,<-Nat.pow_mul]at this)) zo;obtain⟨n,hn0⟩:=aK (tz (nv l));rw[hn0]at h1 h2 hn;have qT:=aj hn0;clear hn0;obtain⟨Z,hZ⟩:=aK (dN D);obtain⟨E,hE⟩:=aK (dE D);rw[hZ]at h1;rw[hE]at h2;obtain⟨HZ,HE⟩:=aZ hZ hE;clear hZ hE;have H1:=aj h1.symm;clear h1;have hwn:IntKind.i64.wrap (-(n:Int))= -(n:Int):=by rw[IntKind.wrap_i64];omega
   have hwe:IntKind.i64.wrap (e+(n:Int))=E:=by rw[IntKind.wrap_i64];omega
   clear h0 h2;go_enter Tryz.func59,Tryz.ntmps59;have Hb:Hid (Bw w w):=Below.refl _ _;go_wp2_with fail;obtain⟨R,hR⟩:∃R:World->Prop,(λW=>aC W (w.heap.size) 46 [ar s,ai l]/\aC W (w.heap.size+1) 48 [ar false,.string (bs []),ah 0]/\Bw w W)=R:=⟨_,rfl⟩;first|refine cj R ?hR ?_|refine cu R ?hR ?_
   case hR=>subst hR;exact⟨((aC.newAt w _ _ (b:=w.heap.size) rfl).alloc _),(aC.newAt (w.alloc _) _ _ (b:=w.heap.size+1) zm),(zl.alloc zj _)⟩
   subst hR;rintro W ⟨qx,qr,ag⟩;have Hx:=aj qx;clear qx;have Hr:=aj qr;clear qr;obtain⟨x0,x1⟩:=Hx.out.c2;obtain⟨r0,au,r1,az,r2,aJ⟩:=Hr.out.g3;replace Hb:=aF Hb ag;clear ag;go_wp2_with fail;refine(Ol s l _ rR.out).mono ?_;rintro e w1 ⟨rfl,ag⟩;clear x0 x1 r0 au r1 az r2 aJ;obtain⟨Hx,x0,x1⟩:=bi Hx ag;obtain⟨Hr,r0,au,r1,az,r2,aJ⟩:=bg Hr ag;replace Hb:=aF Hb ag;clear ag;rw[Hg.out];have HT:=aj (hT.below Hb.out);go_wp2_with fail;refine(UM l _ Hl1.out HT.out).mono ?_;rintro e w2 ⟨rfl,ag⟩;clear x0 x1 r0 au r1 az r2 aJ;obtain⟨Hx,x0,x1⟩:=bi Hx ag;obtain⟨Hr,r0,au,r1,az,r2,aJ⟩:=bg Hr ag;replace Hb:=aF Hb ag;clear ag;rw[qT.out];replace HT:=aj (hT.below Hb.out);go_wp2_with fail;refine(au3 s l n Z H1.out _ hl hn HT.out).mono ?_;rintro e w3 ⟨rfl,ag⟩;clear x0 x1 r0 au r1 az r2 aJ;obtain⟨Hx,x0,x1⟩:=bi Hx ag;obtain⟨Hr,r0,au,r1,az,r2,aJ⟩:=bg Hr ag;replace Hb:=aF Hb ag;clear ag;go_wp2;exact bodyPost_ret (v:=.agg #[ar (aI Z),ai (nt Z.natAbs),ah E]) (by simp[results,Tryz.results59,go_sem,r0,r1,r2]) rfl ⟨by rw[<-HZ.out,<-HE.out],di⟩
theorem Ok.len {s:Bool}{l:List UInt8}{e:Int}(h:Ok (s,l,e)):l.length<=268435456:=h.1
theorem Ok.exp {s:Bool}{l:List UInt8}{e:Int}(h:Ok (s,l,e)): -268435456<=e/\e<=268435456:=h.2
theorem se (s:Bool)(l:List UInt8)(e:Int)(D:Dyadic)(hD:aM (s,l,e)=D)(w:World)(hx:Ok (s,l,e))(hT:aO w):
 Calls Tryz.prog 70 #[.agg #[ar s,ai l,ah e]] w λex w'=>ex=.returned (cP D)/\Bw w w':=by
 have HD:=aj hD;clear hD;have h1:=hx.len;have h2:=hx.exp;clear hx;have Hl:Hid (l.length<=34359738368):=by show _<=_;omega
 have He:Hid (-1099511627776<=e/\e<=1099511627776):=by show _/\_;omega
 go_enter Tryz.func70,Tryz.ntmps70;have Hb:Hid (Bw w w):=Below.refl _ _;go_wp2_with fail;obtain⟨R,hR⟩:∃R:World->Prop,(λW=>aC W (w.heap.size) 48 [ar s,ai l,ah e]/\aC W (w.heap.size+1) 48 [ar false,.string (bs []),ah 0]/\Bw w W)=R:=⟨_,rfl⟩;first|refine cj R ?hR ?_|refine cu R ?hR ?_
 case hR=>subst hR;exact⟨((aC.newAt w _ _ (b:=w.heap.size) rfl).alloc _),(aC.newAt (w.alloc _) _ _ (b:=w.heap.size+1) zm),(zl.alloc zj _)⟩
 subst hR;rintro W ⟨qx,qr,ag⟩;have Hx:=aj qx;clear qx;have Hr:=aj qr;clear qr;obtain⟨x0,x1,x2⟩:=Hx.out.c3;obtain⟨r0,au,r1,az,r2,aJ⟩:=Hr.out.g3;replace Hb:=aF Hb ag;clear ag;have HT:=aj (hT.below Hb.out);go_wp2_with fail;refine(yU s l e D HD.out _ Hl.out He.out HT.out).mono ?_;rintro e w1 ⟨rfl,ag⟩;clear x0 x1 x2 r0 au r1 az r2 aJ;obtain⟨Hx,x0,x1,x2⟩:=bP Hx ag;obtain⟨Hr,r0,au,r1,az,r2,aJ⟩:=bg Hr ag;replace Hb:=aF Hb ag;clear ag;go_wp2;exact bodyPost_ret (v:=cP D) (by simp[results,Tryz.results70,go_sem,r0,r1,r2]) rfl ⟨rfl,di⟩
theorem afH (s:Bool)(l:List UInt8)(e:Int):fH (iv s l)=fH (dN (aM (s,l,e))):=by
 by_cases h0:iv s l=0
 . rw[Ru s l e h0,h0,Rl]
 . rw[(Rt s l e h0).1];obtain⟨q,hq⟩:(2:Int)^tz (nv l)∣iv s l:=by rw[show tz (nv l)=(iv s l).trailingZeros by rw[<-oX s l];exact agb _];exact Int.two_pow_trailingZeros_dvd h0
   have hp:(0:Int)<2^tz (nv l):=by
    have:((2^tz (nv l):Nat):Int)>0:=by have:=Nat.pow_pos (n:=tz (nv l)) (show 0<2 by decide);omega
    simpa[Int.natCast_pow]using this
   generalize (2:Int)^tz (nv l)=p at*;rw[hq,Int.mul_ediv_cancel_left _ zo];unfold fH;rcases Int.lt_trichotomy q 0 with h|h|h
   . have:=Int.mul_neg_of_pos_of_neg hp h;simp only[h,this,if_true]
   . subst h;simp
   . have:=Int.mul_pos hp h;rw[if_neg zo,if_neg zo,if_neg zo,if_neg zo]
abbrev dY (d:Dyadic):Int:=fH (dN d)
theorem uZ (s:Bool)(l:List UInt8)(e:Int)(g:Int)(hg:dY (aM (s,l,e))=g)(w:World)(hx:Ok (s,l,e)):
 Calls Tryz.prog 72 #[.agg #[ar s,ai l,ah e]] w λex w'=>ex=.returned (ah g)/\Bw w w':=by
 have h1:=hx.len;clear hx;have Hg:Hid (fH (iv s l)=g):=by show _=_;rw[<-hg];exact afH s l e
 have Hl:Hid (l.length<=1099511627776):=by show _<=_;omega
 clear hg;go_enter Tryz.func72,Tryz.ntmps72;have Hb:Hid (Bw w w):=Below.refl _ _;go_wp2_with fail;obtain⟨R,hR⟩:∃R:World->Prop,(λW=>aC W (w.heap.size) 48 [ar s,ai l,ah e]/\Bw w W)=R:=⟨_,rfl⟩;first|refine cj R ?hR ?_|refine cu R ?hR ?_
 case hR=>subst hR;exact⟨(aC.newAt w _ _ (b:=w.heap.size) rfl),zl⟩
 subst hR;rintro W ⟨qx,ag⟩;have Hx:=aj qx;clear qx;obtain⟨x0,x1,x2⟩:=Hx.out.c3;replace Hb:=aF Hb ag;clear ag;go_wp2_with fail;refine(Ol s l _ Hl.out).mono ?_;rintro e w1 ⟨rfl,ag⟩;clear x0 x1 x2;obtain⟨Hx,x0,x1,x2⟩:=bP Hx ag;replace Hb:=aF Hb ag;clear ag;rw[Hg.out];go_wp2;go_ret;exact⟨rfl,Hb.out⟩
theorem Au (n e:Int):aM (aI n,nt n.natAbs,e)=Dyadic.ofIntWithPrec n (-e):=by unfold aM;simp only[fT]
theorem Gd (n:Int)(D:Dyadic)(hD:Dyadic.ofIntWithPrec n 0=D)(w:World)(hn: -9223372036854775808<=n/\n<=9223372036854775807)(hT:aO w):
 Calls Tryz.prog 30 #[ah n] w λex w'=>ex=.returned (cP D)/\Bw w w':=by
 obtain⟨N,hN⟩:=aK n;have HD:Hid (aM (aI N,nt N.natAbs,0)=D):=by show _=_;rw[Au,<-hN];exact hD
 have Hl:Hid ((nt N.natAbs).length<=34359738368):=by
  show _<=_
  exact Nat.le_trans (jR (k:=8) zo) zd
 have HN:=aj hN;clear hN hD;go_enter Tryz.func30,Tryz.ntmps30;have Hb:Hid (Bw w w):=Below.refl _ _;go_wp2_with fail;obtain⟨R,hR⟩:∃R:World->Prop,(λW=>aC W (w.heap.size) 48 [ar false,.string (bs []),ah 0]/\Bw w W)=R:=⟨_,rfl⟩;first|refine cj R ?hR ?_|refine cu R ?hR ?_
 case hR=>subst hR;exact⟨(aC.newAt w _ _ (b:=w.heap.size) rfl),zl⟩
 subst hR;rintro W ⟨qr,ag⟩;have Hr:=aj qr;clear qr;obtain⟨r0,au,r1,az,r2,aJ⟩:=Hr.out.g3;replace Hb:=aF Hb ag;clear ag;go_wp2_with fail;refine(Oj n N HN.out _ hn.1 hn.2).mono ?_;rintro e w1 ⟨rfl,ag⟩;clear r0 au r1 az r2 aJ;obtain⟨Hr,r0,au,r1,az,r2,aJ⟩:=bg Hr ag;replace Hb:=aF Hb ag;clear ag;have HT:=aj (hT.below Hb.out);go_wp2_with fail;refine(yU (aI N) (nt N.natAbs) 0 D HD.out _ Hl.out zo HT.out).mono ?_;rintro e w2 ⟨rfl,ag⟩;clear r0 au r1 az r2 aJ;obtain⟨Hr,r0,au,r1,az,r2,aJ⟩:=bg Hr ag;replace Hb:=aF Hb ag;clear ag;go_wp2;exact bodyPost_ret (v:=cP D) (by simp[results,Tryz.results30,go_sem,r0,r1,r2]) rfl ⟨rfl,di⟩
theorem Rm (s:Bool)(l:List UInt8)(e:Int)(D:Dyadic)(hD: -aM (s,l,e)=D)(w:World)(hx:Ok (s,l,e))(hT:aO w):
 Calls Tryz.prog 73 #[.agg #[ar s,ai l,ah e]] w λex w'=>ex=.returned (cP D)/\Bw w w':=by
 have h1:=hx.len;have h2:=hx.exp;clear hx;obtain⟨N,hN⟩:=aK (-(iv s l));have HD:Hid (aM (aI N,nt N.natAbs,e)=D):=by
  show _=_
  rw[Au,<-hN,<-hD];unfold aM;rw[Vb]
 have Hl:Hid ((nt N.natAbs).length<=34359738368):=by show _<=_;rw[<-hN];exact Jb s l _ zo
 have rR:Hid (l.length<=1099511627776):=by show _<=_;omega
 have He:Hid (-1099511627776<=e/\e<=1099511627776):=by show _/\_;omega
 have HN:=aj hN;clear hN hD;go_enter Tryz.func73,Tryz.ntmps73;have Hb:Hid (Bw w w):=Below.refl _ _;go_wp2_with fail;obtain⟨R,hR⟩:∃R:World->Prop,(λW=>aC W (w.heap.size) 48 [ar s,ai l,ah e]/\aC W (w.heap.size+1) 48 [ar false,.string (bs []),ah 0]/\Bw w W)=R:=⟨_,rfl⟩;first|refine cj R ?hR ?_|refine cu R ?hR ?_
 case hR=>subst hR;exact⟨((aC.newAt w _ _ (b:=w.heap.size) rfl).alloc _),(aC.newAt (w.alloc _) _ _ (b:=w.heap.size+1) zm),(zl.alloc zj _)⟩
 subst hR;rintro W ⟨qx,qr,ag⟩;have Hx:=aj qx;clear qx;have Hr:=aj qr;clear qr;obtain⟨x0,x1,x2⟩:=Hx.out.c3;obtain⟨r0,au,r1,az,r2,aJ⟩:=Hr.out.g3;replace Hb:=aF Hb ag;clear ag;refine cg (λw'=>aH w' (w.heap.size) 0 (ar s)/\aH w' (w.heap.size) 1 (ai l)/\aH w' (w.heap.size) 2 (ah e)) (λi=>Nat.blt i 6) [(0,true),(1,true),(3,true),(4,true),(2,false),(5,false),(6,false)] zk zk rfl zk zc ⟨x0,x1,x2⟩ ?_;iterate 4 (refine pT rfl rfl ?_ (by intro w' ⟨q0,q1,q2⟩;go_simp;try with_reducible rfl))
 refine aW rfl rfl (λK hK=>?_);go_simp;with_reducible refine(Oi s l N HN.out _ rR.out).mono ?_
 rintro e w1 ⟨rfl,hq⟩;have ag:Bw W w1:=by first|exact hq|exact bo hq
 clear x0 x1 x2 r0 au r1 az r2 aJ;obtain⟨Hx,x0,x1,x2⟩:=bP Hx ag;obtain⟨Hr,r0,au,r1,az,r2,aJ⟩:=bg Hr ag;replace Hb:=aF Hb ag;clear ag;refine hK _ _ (λ_=>⟨x0,x1,x2⟩) ?_;clear hK K
 refine aW rfl rfl (λK hK=>?_);go_simp;with_reducible refine(yU (aI N) (nt N.natAbs) e D HD.out _ Hl.out He.out (hT.below Hb.out)).mono ?_
 rintro e w2 ⟨rfl,hq⟩;have ag:Bw w1 w2:=by first|exact hq|exact bo hq
 clear x0 x1 x2 r0 au r1 az r2 aJ;obtain⟨Hx,x0,x1,x2⟩:=bP Hx ag;obtain⟨Hr,r0,au,r1,az,r2,aJ⟩:=bg Hr ag;replace Hb:=aF Hb ag;clear ag;refine hK _ _ (λ_=>⟨x0,x1,x2⟩) ?_;clear hK K
 refine aW rfl rfl (λK hK=>?_);go_simp;refine hK _ _ (λh=>absurd h zd) ?_;clear hK K
 clear x0 x1 x2 r0 au r1 az r2 aJ;refine cn (cm w2 (w.heap.size+1) 0 [ar (aI (dN D)),ai (nt (dN D).natAbs),ah (dE D)]) cC ?_;intro w3 hs;replace Hx:=kS Hx hs zo;replace Hr:=cX Hr hs;obtain⟨x0,x1,x2⟩:=Hx.out.c3;obtain⟨r0,au,r1,az,r2,aJ⟩:=Hr.out.g3;replace Hb:=bS Hb hs ZS;clear hs;simp only[bD];go_wp2;exact bodyPost_ret (v:=cP D) (by simp[results,Tryz.results73,go_sem,r0,r1,r2]) rfl ⟨rfl,di⟩
theorem aO.drew {w:World}(h:aO w):aO w.drew:=h
theorem aO.alloc {w:World}(h:aO w)(o:Obj):aO (w.alloc o):=λj hj=>aX (h j hj)
def pp (v k:Int):Int:=if 0<=k then v*2^k.toNat else v/2^(-k).toNat
theorem awk (s:Bool)(l:List UInt8)(k Z:Int)(hZ:pp (iv s l) k=Z)(w:World)(hl:l.length<=34359738368)(hk: -549755813888<=k/\k<=549755813888)(hT:aO w):
 Calls Tryz.prog 103 #[.agg #[ar s,ai l],ah k] w λe w'=>e=.returned (dt Z)/\Bw w w':=by
 subst hZ;unfold pp;split
 . rename_i h
   have:=Wq s l k.toNat w zo zo;rw[Int.toNat_of_nonneg h]at this;exact this
 . rename_i h
   have:=agD s l (-k).toNat w hl zo zo hT;rw[Int.toNat_of_nonneg zo,Int.neg_neg]at this;exact this
theorem Ec (s:Bool)(l:List UInt8)(e g Z:Int)(hZ:pp (iv s l) (e-g)=Z)(w:World)(hl:l.length<=34359738368)(hk: -549755813888<=e-g/\e-g<=549755813888)(hT:aO w):
 Calls Tryz.prog 100 #[ah g,.agg #[ar s,ai l,ah e]] w λe w'=>e=.returned (dt Z)/\Bw w w':=by
 obtain⟨k,mB⟩:=aK (e-g);have hwe:IntKind.i64.wrap (e-g)=k:=by rw[IntKind.wrap_i64];omega
 rw[mB]at hZ hk;have HZ:=aj hZ;clear hZ mB;go_enter Tryz.func100,Tryz.ntmps100;have Hb:Hid (Bw w w):=Below.refl _ _;go_wp2_with fail;obtain⟨R,hR⟩:∃R:World->Prop,(λW=>aC W (w.heap.size) 48 [ar s,ai l,ah e]/\aC W (w.heap.size+1) 46 [ar false,.string (bs [])]/\Bw w W)=R:=⟨_,rfl⟩;first|refine cj R ?hR ?_|refine cu R ?hR ?_
 case hR=>subst hR;exact⟨((aC.newAt w _ _ (b:=w.heap.size) rfl).alloc _),(aC.newAt (w.alloc _) _ _ (b:=w.heap.size+1) zm),(zl.alloc zj _)⟩
 subst hR;rintro W ⟨qx,qr,ag⟩;have Hx:=aj qx;clear qx;have Hr:=aj qr;clear qr;obtain⟨x0,x1,x2⟩:=Hx.out.c3;obtain⟨r0,au,r1,az⟩:=Hr.out.g2;replace Hb:=aF Hb ag;clear ag;have HT:=aj (hT.below Hb.out);go_wp2_with fail;refine(awk s l k Z HZ.out _ hl hk HT.out).mono ?_;rintro e w1 ⟨rfl,ag⟩;clear x0 x1 x2 r0 au r1 az;obtain⟨Hx,x0,x1,x2⟩:=bP Hx ag;obtain⟨Hr,r0,au,r1,az⟩:=bE Hr ag;replace Hb:=aF Hb ag;clear ag;go_wp2;exact bodyPost_ret (v:=dt Z) (by simp[results,Tryz.results100,go_sem,r0,r1]) rfl ⟨rfl,di⟩
def vE (A B:Dyadic):Int:=if A=0 then dE B else if B=0 then dE A else min (dE A) (dE B)
theorem ux (A:Dyadic):A=Dyadic.ofIntWithPrec (dN A) (-(dE A)):=by have:=cN A;unfold aM canon at this;simp only[fT]at this;exact this.symm
theorem ae5 (A:Dyadic)(g:Int)(h:A=0\/g<=dE A):A=Dyadic.ofIntWithPrec (pp (dN A) (dE A-g)) (-g):=by
 rcases h with h|h
 . subst h;have:pp (dN 0) (dE 0-g)=0:=by unfold pp;rw[Rl];split<;>simp
   rw[this,zu]
 . unfold pp;rw[if_pos zo];have:=xy (dN A) (dE A-g).toNat (-(dE A));rw[show-(dE A)+((dE A-g).toNat:Int)= -g by omega]at this;rw[this];exact ux A
theorem arb (A B:Dyadic):(A=0\/vE A B<=dE A)/\(B=0\/vE A B<=dE B):=by
 unfold vE;split
 . exact⟨.inl ‹_›,.inr zo⟩
 . split
   . exact⟨.inr zo,.inl ‹_›⟩
   . exact⟨.inr zo,.inr zo⟩
theorem aeZ {A:Dyadic}:A=0\/((nt (dN A).natAbs)≠[]/\A≠0):=by
 by_cases h:A=0
 . exact .inl h
 . refine .inr ⟨?_,h⟩;intro h2;apply h;have:(dN A).natAbs=0:=by rw[<-jz (dN A).natAbs,h2];rfl
   rw[ux A,show dN A=0 by omega,zu]
theorem Ok.parts {x:Raw}(h:Ok x):(nt (dN (aM x)).natAbs).length<=1073741824/\ -4294967296<=dE (aM x)/\dE (aM x)<=4294967296:=by obtain⟨B,hB,hs⟩:∃B,B<=4294967296/\Sm B (aM x):=⟨4294967296,Nat.le_refl _,h.sm⟩;obtain⟨h1,h2,h3⟩:=hs.parts;exact⟨kR h1 zo,by clear h1;omega,by clear h1;omega⟩
theorem aqN (s:Bool)(l:List UInt8)(e:Int)(t:Bool)(m:List UInt8)(f:Int)(A B:Dyadic)(hA:aM (s,l,e)=A)(hB:aM (t,m,f)=B)(g X Y:Int)(hg:vE A B=g)(hX:pp (dN A) (dE A-g)=X)(hY:pp (dN B) (dE B-g)=Y)
 (w:World) (hx:Ok (s,l,e)) (hy:Ok (t,m,f)) (hT:aO w):
 Calls Tryz.prog 58 #[.agg #[ar s,ai l,ah e],.agg #[ar t,ai m,ah f]] w λex w'=>ex=.returned (.agg #[ah g,ar (aI X),ai (nt X.natAbs),ar (aI Y),ai (nt Y.natAbs)])/\Bw w w':=by
 have pA:=hx.parts;rw[hA]at pA;have pB:=hy.parts;rw[hB]at pB;obtain⟨HA,HB⟩:=aZ hA hB;clear hA hB;obtain⟨a,ha⟩:=aK (nt (dN A).natAbs);obtain⟨p,hp⟩:=aK (aI (dN A));obtain⟨i,hi⟩:=aK (dE A);obtain⟨b,hb⟩:=aK (nt (dN B).natAbs);obtain⟨q,hq⟩:=aK (aI (dN B));obtain⟨j,hj⟩:=aK (dE B);have hX2:pp (iv p a) (i-g)=X:=by rw[<-hp,<-ha,fT,<-hi];exact hX
 have hY2:pp (iv q b) (j-g)=Y:=by rw[<-hq,<-hb,fT,<-hj];exact hY
 have XK:Hid (∀W,aO W->Calls Tryz.prog 70 #[.agg #[ar s,ai l,ah e]] W λex w'=>ex=.returned (.agg #[ar p,ai a,ah i])/\Bw W w'):=by intro W hW;rw[<-hp,<-ha,<-hi];exact se s l e A HA.out W hx hW
 have XL:Hid (∀W,aO W->Calls Tryz.prog 70 #[.agg #[ar t,ai m,ah f]] W λex w'=>ex=.returned (.agg #[ar q,ai b,ah j])/\Bw W w'):=by intro W hW;rw[<-hq,<-hb,<-hj];exact se t m f B HB.out W hy hW
 have hlv:(A=0/\g=j)\/(A≠0/\B=0/\g=i)\/(A≠0/\B≠0/\g=min i j):=by
  rw[<-hg];unfold vE;by_cases h1:A=0
  . simp[h1,hj]
  . by_cases h2:B=0<;>simp[h1,h2,hi,hj]
 rw[ha,hi]at pA;rw[hb,hj]at pB;have zA:A=0->(p=false/\a=[]/\i=0):=by rintro rfl;exact⟨hp.symm,ha.symm,hi.symm⟩
 have zB:B=0->(q=false/\b=[]/\j=0):=by rintro rfl;exact⟨hq.symm,hb.symm,hj.symm⟩
 have nA:A≠0->a≠[]:=by intro h;rw[<-ha];rcases aeZ (A:=A)with h2|h2;exact absurd h2 h;exact h2.1
 have nB:B≠0->b≠[]:=by intro h;rw[<-hb];rcases aeZ (A:=B)with h2|h2;exact absurd h2 h;exact h2.1
 have GL: -549755813888<=i-g/\i-g<=549755813888:=by rcases hlv with⟨_,h⟩ |⟨_,_,h⟩ |⟨_,_,h⟩<;>omega
 have hgj: -549755813888<=j-g/\j-g<=549755813888:=by rcases hlv with⟨_,h⟩ |⟨_,_,h⟩ |⟨_,_,h⟩<;>omega
 obtain⟨HX,HY⟩:=aZ hX2 hY2;have La:Hid (a.length<=34359738368):=by show _<=_;omega
 have Lb:Hid (b.length<=34359738368):=by show _<=_;omega
 obtain⟨Pj,Pk⟩:=aZ GL hgj;clear hX2 hY2 hX hY hg ha hp hi hb hq hj GL hgj HA HB hx hy;go_enter Tryz.func58,Tryz.ntmps58;have Hb:Hid (Bw w w):=Below.refl _ _;go_wp2_with fail;obtain⟨R,hR⟩:∃R:World->Prop,(λW=>aC W (w.heap.size) 48 [ar s,ai l,ah e]/\aC W (w.heap.size+1) 48 [ar t,ai m,ah f]/\aC W (w.heap.size+1+1) 94 [ah 0,ar false,.string (bs []),ar false,.string (bs [])]/\Bw w W)=R:=⟨_,rfl⟩;first|refine cj R ?hR ?_|refine cu R ?hR ?_
 case hR=>subst hR;exact⟨(((aC.newAt w _ _ (b:=w.heap.size) rfl).alloc _).alloc _),((aC.newAt (w.alloc _) _ _ (b:=w.heap.size+1) zm).alloc _),(aC.newAt ((w.alloc _).alloc _) _ _ (b:=w.heap.size+1+1) zm),((zl.alloc zj _).alloc zj _)⟩
 subst hR;rintro W ⟨qx,qy,qr,ag⟩;have Hx:=aj qx;clear qx;have Hy:=aj qy;clear qy;have Hr:=aj qr;clear qr;obtain⟨x0,bG,x1,bH,x2,bI⟩:=Hx.out.g3;obtain⟨y0,bz,y1,bA,y2,bC⟩:=Hy.out.g3;obtain⟨r0,au,r1,az,r2,aJ,r3,dJ,r4,eH⟩:=Hr.out.g5;replace Hb:=aF Hb ag;clear ag;have HT:=aj (hT.below Hb.out);refine cg (λw'=>aH w' (w.heap.size) 0 (ar s)/\aH w' (w.heap.size) 1 (ai l)/\aH w' (w.heap.size) 2 (ah e)/\aH w' (w.heap.size+1) 0 (ar t)/\aH w' (w.heap.size+1) 1 (ai m)/\aH w' (w.heap.size+1) 2 (ah f)) (λi=>Nat.blt i 4) [(0,true),(2,true),(1,false),(3,false),(4,false),(5,false)] zk zk rfl zk zc ⟨x0,x1,x2,y0,y1,y2⟩ ?_;iterate 2 (refine pT rfl rfl ?_ (by intro w' ⟨q0,q1,q2,q3,q4,q5⟩;go_simp;try with_reducible rfl))
 refine aW rfl rfl (λK hK=>?_);go_simp;with_reducible refine(XK.out _ (by first|exact HT.out|exact aO.drew HT.out|exact aO.alloc HT.out _|exact aO.drew (aO.alloc HT.out _) |exact aO.alloc (aO.drew HT.out) _)).mono ?_
 rintro e w1 ⟨rfl,hq⟩;have ag:Bw W w1:=by first|exact hq|exact bo hq
 clear x0 bG x1 bH x2 bI y0 bz y1 bA y2 bC r0 au r1 az r2 aJ r3 dJ r4 eH;obtain⟨Hx,x0,bG,x1,bH,x2,bI⟩:=bg Hx ag;obtain⟨Hy,y0,bz,y1,bA,y2,bC⟩:=bg Hy ag;replace Hr:=kB Hr ag;obtain⟨r0,au,r1,az,r2,aJ,r3,dJ,r4,eH⟩:=Hr.out.g5;replace Hb:=aF Hb ag;clear ag;refine hK _ _ (λ_=>⟨x0,x1,x2,y0,y1,y2⟩) ?_;clear hK K
 refine aW rfl rfl (λK hK=>?_);go_simp;with_reducible refine(XL.out _ (by first|exact(hT.below Hb.out) |exact aO.drew (hT.below Hb.out) |exact aO.alloc (hT.below Hb.out) _|exact aO.drew (aO.alloc (hT.below Hb.out) _) |exact aO.alloc (aO.drew (hT.below Hb.out)) _)).mono ?_
 rintro e w2 ⟨rfl,hq⟩;have ag:Bw w1 w2:=by first|exact hq|exact bo hq
 clear x0 bG x1 bH x2 bI y0 bz y1 bA y2 bC r0 au r1 az r2 aJ r3 dJ r4 eH;obtain⟨Hx,x0,bG,x1,bH,x2,bI⟩:=bg Hx ag;obtain⟨Hy,y0,bz,y1,bA,y2,bC⟩:=bg Hy ag;replace Hr:=kB Hr ag;obtain⟨r0,au,r1,az,r2,aJ,r3,dJ,r4,eH⟩:=Hr.out.g5;replace Hb:=aF Hb ag;clear ag;refine hK _ _ (λ_=>⟨x0,x1,x2,y0,y1,y2⟩) ?_;clear hK K
 refine aW rfl rfl (λK hK=>?_);go_simp;refine hK _ _ (λh=>absurd h zd) ?_;clear hK K
 clear x0 bG x1 bH x2 bI y0 bz y1 bA y2 bC r0 au r1 az r2 aJ r3 dJ r4 eH;refine cn (cm w2 (w.heap.size) 0 [ar p,ai a,ah i]) cC ?_;intro w3 hs;replace Hx:=cX Hx hs;replace Hy:=kS Hy hs zo;replace Hr:=kS Hr hs zo;obtain⟨x0,bG,x1,bH,x2,bI⟩:=Hx.out.g3;obtain⟨y0,bz,y1,bA,y2,bC⟩:=Hy.out.g3;obtain⟨r0,au,r1,az,r2,aJ,r3,dJ,r4,eH⟩:=Hr.out.g5;replace Hb:=bS Hb hs ZS;clear hs;refine aW rfl rfl (λK hK=>?_);go_simp;refine hK _ _ (λh=>absurd h zd) ?_;clear hK K
 clear x0 bG x1 bH x2 bI y0 bz y1 bA y2 bC r0 au r1 az r2 aJ r3 dJ r4 eH;refine cn (cm w3 (w.heap.size+1) 0 [ar q,ai b,ah j]) cC ?_;intro w4 hs;replace Hx:=kS Hx hs zo;replace Hy:=cX Hy hs;replace Hr:=kS Hr hs zo;obtain⟨x0,bG,x1,bH,x2,bI⟩:=Hx.out.g3;obtain⟨y0,bz,y1,bA,y2,bC⟩:=Hy.out.g3;obtain⟨r0,au,r1,az,r2,aJ,r3,dJ,r4,eH⟩:=Hr.out.g5;replace Hb:=bS Hb hs ZS;clear hs;simp only[bD];have Fi:=Hr;clear x0 x1 x2 bG bH bI y0 y1 y2 bz bA bC r0 r1 r2 r3 r4 au az aJ dJ eH HT XK XL;rcases hlv with⟨h1,h2⟩ |⟨h1,h3,h2⟩ |⟨h1,h3,h2⟩
 . obtain⟨rfl,rfl,rfl⟩:=zA h1;subst h2;have z1:(bs []).toList=[]:=gm _;clear zA zB nA nB pA pB;obtain⟨x0,bG,x1,bH,x2,bI⟩:=Hx.out.g3;obtain⟨y0,bz,y1,bA,y2,bC⟩:=Hy.out.g3;obtain⟨r0,au,r1,az,r2,aJ,r3,dJ,r4,eH⟩:=Hr.out.g5;have yT:=Hx.out.lt;have UE:=Hy.out.lt;have Nr:=Hr.out.lt;go_wp2_with fail;obtain⟨R,hR⟩:∃R:World->Prop,(λW5=>aC W5 (w4.heap.size) 94 [ah g,ar false,.string (bs []),ar false,.string (bs [])]/\Bw w4 W5)=R:=⟨_,rfl⟩;first|refine cj R ?hR ?_|refine cu R ?hR ?_
   case hR=>subst hR;exact⟨(aC.newAt w4 _ _ (b:=w4.heap.size) rfl),zl⟩
   subst hR;rintro W5 ⟨qn,ag⟩;have Hn:=aj qn;clear qn x0 bG x1 bH x2 bI;obtain⟨Hx,x0,bG,x1,bH,x2,bI⟩:=bg Hx ag;clear y0 bz y1 bA y2 bC;obtain⟨Hy,y0,bz,y1,bA,y2,bC⟩:=bg Hy ag;clear r0 au r1 az r2 aJ r3 dJ r4 eH;replace Hr:=kB Hr ag;obtain⟨r0,au,r1,az,r2,aJ,r3,dJ,r4,eH⟩:=Hr.out.g5;obtain⟨n0,iB,n1,iD,n2,iE,n3,iG,n4,iH⟩:=Hn.out.g5;replace Hb:=aF Hb ag;clear ag;have hns:w.heap.size+1+1<w4.heap.size:=Fi.out.lt;refine cg (λw'=>aH w' (w.heap.size) 0 (ar false)/\aH w' (w.heap.size) 1 (.string (bs []))/\aH w' (w.heap.size) 2 (ah 0)/\aH w' (w.heap.size+1) 0 (ar q)/\aH w' (w.heap.size+1) 1 (ai b)/\aH w' (w.heap.size+1) 2 (ah g)/\aH w' (w4.heap.size) 0 (ah g)) (λi=>Nat.blt i 11) [(0,true),(1,true),(2,true),(4,true),(5,true),(6,true),(3,false),(8,true),(7,false),(9,false),(10,true),(11,false)] zk zk rfl zk zc ⟨x0,x1,x2,y0,y1,y2,n0⟩ ?_;iterate 6 (refine pT rfl rfl ?_ (by intro w' ⟨q0,q1,q2,q3,q4,q5,q6⟩;go_simp;try with_reducible rfl))
   refine aW rfl rfl (λK hK=>?_);go_simp;with_reducible refine(Ec false [] 0 g X HX.out _ La.out Pj.out (by first|exact(hT.below Hb.out) |exact aO.drew (hT.below Hb.out) |exact aO.alloc (hT.below Hb.out) _|exact aO.drew (aO.alloc (hT.below Hb.out) _) |exact aO.alloc (aO.drew (hT.below Hb.out)) _)).mono ?_
   rintro e w6 ⟨rfl,hq⟩;have ag:Bw W5 w6:=by first|exact hq|exact bo hq
   clear x0 bG x1 bH x2 bI y0 bz y1 bA y2 bC r0 au r1 az r2 aJ r3 dJ r4 eH n0 iB n1 iD n2 iE n3 iG n4 iH;obtain⟨Hx,x0,bG,x1,bH,x2,bI⟩:=bg Hx ag;obtain⟨Hy,y0,bz,y1,bA,y2,bC⟩:=bg Hy ag;replace Hr:=kB Hr ag;replace Hn:=kB Hn ag;obtain⟨r0,au,r1,az,r2,aJ,r3,dJ,r4,eH⟩:=Hr.out.g5;obtain⟨n0,iB,n1,iD,n2,iE,n3,iG,n4,iH⟩:=Hn.out.g5;replace Hb:=aF Hb ag;clear ag;refine hK _ _ (λ_=>⟨x0,x1,x2,y0,y1,y2,n0⟩) ?_;clear hK K
   refine pT rfl rfl ?_
   refine aW rfl rfl (λK hK=>?_);go_simp;with_reducible refine(Ec q b g g Y HY.out _ Lb.out Pk.out (by first|exact(hT.below Hb.out) |exact aO.drew (hT.below Hb.out) |exact aO.alloc (hT.below Hb.out) _|exact aO.drew (aO.alloc (hT.below Hb.out) _) |exact aO.alloc (aO.drew (hT.below Hb.out)) _)).mono ?_
   rintro e w7 ⟨rfl,hq⟩;have ag:Bw w6 w7:=by first|exact hq|exact bo hq
   clear x0 bG x1 bH x2 bI y0 bz y1 bA y2 bC r0 au r1 az r2 aJ r3 dJ r4 eH n0 iB n1 iD n2 iE n3 iG n4 iH;obtain⟨Hx,x0,bG,x1,bH,x2,bI⟩:=bg Hx ag;obtain⟨Hy,y0,bz,y1,bA,y2,bC⟩:=bg Hy ag;replace Hr:=kB Hr ag;replace Hn:=kB Hn ag;obtain⟨r0,au,r1,az,r2,aJ,r3,dJ,r4,eH⟩:=Hr.out.g5;obtain⟨n0,iB,n1,iD,n2,iE,n3,iG,n4,iH⟩:=Hn.out.g5;replace Hb:=aF Hb ag;clear ag;refine hK _ _ (λ_=>⟨x0,x1,x2,y0,y1,y2,n0⟩) ?_;clear hK K
   refine aW rfl rfl (λK hK=>?_);go_simp;refine hK _ _ (λ_=>⟨(aU zf (aU zf x0)),(aU zf (aU zf x1)),(aU zf (aU zf x2)),(aU zf (aU zf y0)),(aU zf (aU zf y1)),(aU zf (aU zf y2)),(aU zf (aU zf n0))⟩) ?_;clear hK K
   clear x0 bG x1 bH x2 bI y0 bz y1 bA y2 bC r0 au r1 az r2 aJ r3 dJ r4 eH n0 iB n1 iD n2 iE n3 iG n4 iH;refine cn (cm w7 (w4.heap.size) 1 [ar (aI X),ai (nt X.natAbs)]) cC ?_;intro w8 hs;replace Hx:=kS Hx hs zo;replace Hy:=kS Hy hs zo;replace Hr:=kS Hr hs zo;replace Hn:Hid (aC w8 (w4.heap.size) 94 [ah g,ar (aI X),ai (nt X.natAbs),ar false,.string (bs [])]):=yR Hn hs;obtain⟨x0,bG,x1,bH,x2,bI⟩:=Hx.out.g3;obtain⟨y0,bz,y1,bA,y2,bC⟩:=Hy.out.g3;obtain⟨r0,au,r1,az,r2,aJ,r3,dJ,r4,eH⟩:=Hr.out.g5;obtain⟨n0,iB,n1,iD,n2,iE,n3,iG,n4,iH⟩:=Hn.out.g5;replace Hb:=bS Hb hs ZS;clear hs;refine pT rfl rfl ?_
   refine aW rfl rfl (λK hK=>?_);go_simp;refine hK _ _ (λh=>absurd h zd) ?_;clear hK K
   clear x0 bG x1 bH x2 bI y0 bz y1 bA y2 bC r0 au r1 az r2 aJ r3 dJ r4 eH n0 iB n1 iD n2 iE n3 iG n4 iH;refine cn (cm w8 (w4.heap.size) 3 [ar (aI Y),ai (nt Y.natAbs)]) cC ?_;intro w9 hs;replace Hx:=kS Hx hs zo;replace Hy:=kS Hy hs zo;replace Hr:=kS Hr hs zo;replace Hn:Hid (aC w9 (w4.heap.size) 94 [ah g,ar (aI X),ai (nt X.natAbs),ar (aI Y),ai (nt Y.natAbs)]):=yR Hn hs;obtain⟨x0,bG,x1,bH,x2,bI⟩:=Hx.out.g3;obtain⟨y0,bz,y1,bA,y2,bC⟩:=Hy.out.g3;obtain⟨r0,au,r1,az,r2,aJ,r3,dJ,r4,eH⟩:=Hr.out.g5;obtain⟨n0,iB,n1,iD,n2,iE,n3,iG,n4,iH⟩:=Hn.out.g5;replace Hb:=bS Hb hs ZS;clear hs;simp only[bD];go_wp2;exact bodyPost_ret (v:=.agg #[ah g,ar (aI X),ai (nt X.natAbs),ar (aI Y),ai (nt Y.natAbs)]) (by simp[results,Tryz.results58,go_sem,r0,r1,r2,r3,r4]) rfl ⟨rfl,di⟩
 . obtain⟨rfl,rfl,rfl⟩:=zB h3;subst h2;have z1:(bs []).toList=[]:=gm _;have z2:¬(bs a).toList=[]:=by rw[gm];exact nA h1
   clear zA zB nA nB pA pB;obtain⟨x0,bG,x1,bH,x2,bI⟩:=Hx.out.g3;obtain⟨y0,bz,y1,bA,y2,bC⟩:=Hy.out.g3;obtain⟨r0,au,r1,az,r2,aJ,r3,dJ,r4,eH⟩:=Hr.out.g5;have yT:=Hx.out.lt;have UE:=Hy.out.lt;have Nr:=Hr.out.lt;go_wp2_with fail;obtain⟨R,hR⟩:∃R:World->Prop,(λW5=>aC W5 (w4.heap.size) 94 [ah g,ar false,.string (bs []),ar false,.string (bs [])]/\Bw w4 W5)=R:=⟨_,rfl⟩;first|refine cj R ?hR ?_|refine cu R ?hR ?_
   case hR=>subst hR;exact⟨(aC.newAt w4 _ _ (b:=w4.heap.size) rfl),zl⟩
   subst hR;rintro W5 ⟨qn,ag⟩;have Hn:=aj qn;clear qn x0 bG x1 bH x2 bI;obtain⟨Hx,x0,bG,x1,bH,x2,bI⟩:=bg Hx ag;clear y0 bz y1 bA y2 bC;obtain⟨Hy,y0,bz,y1,bA,y2,bC⟩:=bg Hy ag;clear r0 au r1 az r2 aJ r3 dJ r4 eH;replace Hr:=kB Hr ag;obtain⟨r0,au,r1,az,r2,aJ,r3,dJ,r4,eH⟩:=Hr.out.g5;obtain⟨n0,iB,n1,iD,n2,iE,n3,iG,n4,iH⟩:=Hn.out.g5;replace Hb:=aF Hb ag;clear ag;have hns:w.heap.size+1+1<w4.heap.size:=Fi.out.lt;refine cg (λw'=>aH w' (w.heap.size) 0 (ar p)/\aH w' (w.heap.size) 1 (ai a)/\aH w' (w.heap.size) 2 (ah g)/\aH w' (w.heap.size+1) 0 (ar false)/\aH w' (w.heap.size+1) 1 (.string (bs []))/\aH w' (w.heap.size+1) 2 (ah 0)/\aH w' (w4.heap.size) 0 (ah g)) (λi=>Nat.blt i 11) [(0,true),(1,true),(2,true),(4,true),(5,true),(6,true),(3,false),(8,true),(7,false),(9,false),(10,true),(11,false)] zk zk rfl zk zc ⟨x0,x1,x2,y0,y1,y2,n0⟩ ?_;iterate 6 (refine pT rfl rfl ?_ (by intro w' ⟨q0,q1,q2,q3,q4,q5,q6⟩;go_simp;try with_reducible rfl))
   refine aW rfl rfl (λK hK=>?_);go_simp;with_reducible refine(Ec p a g g X HX.out _ La.out Pj.out (by first|exact(hT.below Hb.out) |exact aO.drew (hT.below Hb.out) |exact aO.alloc (hT.below Hb.out) _|exact aO.drew (aO.alloc (hT.below Hb.out) _) |exact aO.alloc (aO.drew (hT.below Hb.out)) _)).mono ?_
   rintro e w6 ⟨rfl,hq⟩;have ag:Bw W5 w6:=by first|exact hq|exact bo hq
   clear x0 bG x1 bH x2 bI y0 bz y1 bA y2 bC r0 au r1 az r2 aJ r3 dJ r4 eH n0 iB n1 iD n2 iE n3 iG n4 iH;obtain⟨Hx,x0,bG,x1,bH,x2,bI⟩:=bg Hx ag;obtain⟨Hy,y0,bz,y1,bA,y2,bC⟩:=bg Hy ag;replace Hr:=kB Hr ag;replace Hn:=kB Hn ag;obtain⟨r0,au,r1,az,r2,aJ,r3,dJ,r4,eH⟩:=Hr.out.g5;obtain⟨n0,iB,n1,iD,n2,iE,n3,iG,n4,iH⟩:=Hn.out.g5;replace Hb:=aF Hb ag;clear ag;refine hK _ _ (λ_=>⟨x0,x1,x2,y0,y1,y2,n0⟩) ?_;clear hK K
   refine pT rfl rfl ?_
   refine aW rfl rfl (λK hK=>?_);go_simp;with_reducible refine(Ec false [] 0 g Y HY.out _ Lb.out Pk.out (by first|exact(hT.below Hb.out) |exact aO.drew (hT.below Hb.out) |exact aO.alloc (hT.below Hb.out) _|exact aO.drew (aO.alloc (hT.below Hb.out) _) |exact aO.alloc (aO.drew (hT.below Hb.out)) _)).mono ?_
   rintro e w7 ⟨rfl,hq⟩;have ag:Bw w6 w7:=by first|exact hq|exact bo hq
   clear x0 bG x1 bH x2 bI y0 bz y1 bA y2 bC r0 au r1 az r2 aJ r3 dJ r4 eH n0 iB n1 iD n2 iE n3 iG n4 iH;obtain⟨Hx,x0,bG,x1,bH,x2,bI⟩:=bg Hx ag;obtain⟨Hy,y0,bz,y1,bA,y2,bC⟩:=bg Hy ag;replace Hr:=kB Hr ag;replace Hn:=kB Hn ag;obtain⟨r0,au,r1,az,r2,aJ,r3,dJ,r4,eH⟩:=Hr.out.g5;obtain⟨n0,iB,n1,iD,n2,iE,n3,iG,n4,iH⟩:=Hn.out.g5;replace Hb:=aF Hb ag;clear ag;refine hK _ _ (λ_=>⟨x0,x1,x2,y0,y1,y2,n0⟩) ?_;clear hK K
   refine aW rfl rfl (λK hK=>?_);go_simp;refine hK _ _ (λ_=>⟨(aU zf (aU zf x0)),(aU zf (aU zf x1)),(aU zf (aU zf x2)),(aU zf (aU zf y0)),(aU zf (aU zf y1)),(aU zf (aU zf y2)),(aU zf (aU zf n0))⟩) ?_;clear hK K
   clear x0 bG x1 bH x2 bI y0 bz y1 bA y2 bC r0 au r1 az r2 aJ r3 dJ r4 eH n0 iB n1 iD n2 iE n3 iG n4 iH;refine cn (cm w7 (w4.heap.size) 1 [ar (aI X),ai (nt X.natAbs)]) cC ?_;intro w8 hs;replace Hx:=kS Hx hs zo;replace Hy:=kS Hy hs zo;replace Hr:=kS Hr hs zo;replace Hn:Hid (aC w8 (w4.heap.size) 94 [ah g,ar (aI X),ai (nt X.natAbs),ar false,.string (bs [])]):=yR Hn hs;obtain⟨x0,bG,x1,bH,x2,bI⟩:=Hx.out.g3;obtain⟨y0,bz,y1,bA,y2,bC⟩:=Hy.out.g3;obtain⟨r0,au,r1,az,r2,aJ,r3,dJ,r4,eH⟩:=Hr.out.g5;obtain⟨n0,iB,n1,iD,n2,iE,n3,iG,n4,iH⟩:=Hn.out.g5;replace Hb:=bS Hb hs ZS;clear hs;refine pT rfl rfl ?_
   refine aW rfl rfl (λK hK=>?_);go_simp;refine hK _ _ (λh=>absurd h zd) ?_;clear hK K
   clear x0 bG x1 bH x2 bI y0 bz y1 bA y2 bC r0 au r1 az r2 aJ r3 dJ r4 eH n0 iB n1 iD n2 iE n3 iG n4 iH;refine cn (cm w8 (w4.heap.size) 3 [ar (aI Y),ai (nt Y.natAbs)]) cC ?_;intro w9 hs;replace Hx:=kS Hx hs zo;replace Hy:=kS Hy hs zo;replace Hr:=kS Hr hs zo;replace Hn:Hid (aC w9 (w4.heap.size) 94 [ah g,ar (aI X),ai (nt X.natAbs),ar (aI Y),ai (nt Y.natAbs)]):=yR Hn hs;obtain⟨x0,bG,x1,bH,x2,bI⟩:=Hx.out.g3;obtain⟨y0,bz,y1,bA,y2,bC⟩:=Hy.out.g3;obtain⟨r0,au,r1,az,r2,aJ,r3,dJ,r4,eH⟩:=Hr.out.g5;obtain⟨n0,iB,n1,iD,n2,iE,n3,iG,n4,iH⟩:=Hn.out.g5;replace Hb:=bS Hb hs ZS;clear hs;simp only[bD];go_wp2;exact bodyPost_ret (v:=.agg #[ah g,ar (aI X),ai (nt X.natAbs),ar (aI Y),ai (nt Y.natAbs)]) (by simp[results,Tryz.results58,go_sem,r0,r1,r2,r3,r4]) rfl ⟨rfl,di⟩
 . have z1:¬(bs b).toList=[]:=by rw[gm];exact nB h3
   have z2:¬(bs a).toList=[]:=by rw[gm];exact nA h1
   have z3:min i j=g:=h2.symm;clear zA zB nA nB pA pB h2;obtain⟨x0,bG,x1,bH,x2,bI⟩:=Hx.out.g3;obtain⟨y0,bz,y1,bA,y2,bC⟩:=Hy.out.g3;obtain⟨r0,au,r1,az,r2,aJ,r3,dJ,r4,eH⟩:=Hr.out.g5;have yT:=Hx.out.lt;have UE:=Hy.out.lt;have Nr:=Hr.out.lt;go_wp2_with fail;obtain⟨R,hR⟩:∃R:World->Prop,(λW5=>aC W5 (w4.heap.size) 94 [ah g,ar false,.string (bs []),ar false,.string (bs [])]/\Bw w4 W5)=R:=⟨_,rfl⟩;first|refine cj R ?hR ?_|refine cu R ?hR ?_
   case hR=>subst hR;exact⟨(aC.newAt w4 _ _ (b:=w4.heap.size) rfl),zl⟩
   subst hR;rintro W5 ⟨qn,ag⟩;have Hn:=aj qn;clear qn x0 bG x1 bH x2 bI;obtain⟨Hx,x0,bG,x1,bH,x2,bI⟩:=bg Hx ag;clear y0 bz y1 bA y2 bC;obtain⟨Hy,y0,bz,y1,bA,y2,bC⟩:=bg Hy ag;clear r0 au r1 az r2 aJ r3 dJ r4 eH;replace Hr:=kB Hr ag;obtain⟨r0,au,r1,az,r2,aJ,r3,dJ,r4,eH⟩:=Hr.out.g5;obtain⟨n0,iB,n1,iD,n2,iE,n3,iG,n4,iH⟩:=Hn.out.g5;replace Hb:=aF Hb ag;clear ag;have hns:w.heap.size+1+1<w4.heap.size:=Fi.out.lt;refine cg (λw'=>aH w' (w.heap.size) 0 (ar p)/\aH w' (w.heap.size) 1 (ai a)/\aH w' (w.heap.size) 2 (ah i)/\aH w' (w.heap.size+1) 0 (ar q)/\aH w' (w.heap.size+1) 1 (ai b)/\aH w' (w.heap.size+1) 2 (ah j)/\aH w' (w4.heap.size) 0 (ah g)) (λi=>Nat.blt i 11) [(0,true),(1,true),(2,true),(4,true),(5,true),(6,true),(3,false),(8,true),(7,false),(9,false),(10,true),(11,false)] zk zk rfl zk zc ⟨x0,x1,x2,y0,y1,y2,n0⟩ ?_;iterate 6 (refine pT rfl rfl ?_ (by intro w' ⟨q0,q1,q2,q3,q4,q5,q6⟩;go_simp;try with_reducible rfl))
   refine aW rfl rfl (λK hK=>?_);go_simp;with_reducible refine(Ec p a i g X HX.out _ La.out Pj.out (by first|exact(hT.below Hb.out) |exact aO.drew (hT.below Hb.out) |exact aO.alloc (hT.below Hb.out) _|exact aO.drew (aO.alloc (hT.below Hb.out) _) |exact aO.alloc (aO.drew (hT.below Hb.out)) _)).mono ?_
   rintro e w6 ⟨rfl,hq⟩;have ag:Bw W5 w6:=by first|exact hq|exact bo hq
   clear x0 bG x1 bH x2 bI y0 bz y1 bA y2 bC r0 au r1 az r2 aJ r3 dJ r4 eH n0 iB n1 iD n2 iE n3 iG n4 iH;obtain⟨Hx,x0,bG,x1,bH,x2,bI⟩:=bg Hx ag;obtain⟨Hy,y0,bz,y1,bA,y2,bC⟩:=bg Hy ag;replace Hr:=kB Hr ag;replace Hn:=kB Hn ag;obtain⟨r0,au,r1,az,r2,aJ,r3,dJ,r4,eH⟩:=Hr.out.g5;obtain⟨n0,iB,n1,iD,n2,iE,n3,iG,n4,iH⟩:=Hn.out.g5;replace Hb:=aF Hb ag;clear ag;refine hK _ _ (λ_=>⟨x0,x1,x2,y0,y1,y2,n0⟩) ?_;clear hK K
   refine pT rfl rfl ?_
   refine aW rfl rfl (λK hK=>?_);go_simp;with_reducible refine(Ec q b j g Y HY.out _ Lb.out Pk.out (by first|exact(hT.below Hb.out) |exact aO.drew (hT.below Hb.out) |exact aO.alloc (hT.below Hb.out) _|exact aO.drew (aO.alloc (hT.below Hb.out) _) |exact aO.alloc (aO.drew (hT.below Hb.out)) _)).mono ?_
   rintro e w7 ⟨rfl,hq⟩;have ag:Bw w6 w7:=by first|exact hq|exact bo hq
   clear x0 bG x1 bH x2 bI y0 bz y1 bA y2 bC r0 au r1 az r2 aJ r3 dJ r4 eH n0 iB n1 iD n2 iE n3 iG n4 iH;obtain⟨Hx,x0,bG,x1,bH,x2,bI⟩:=bg Hx ag;obtain⟨Hy,y0,bz,y1,bA,y2,bC⟩:=bg Hy ag;replace Hr:=kB Hr ag;replace Hn:=kB Hn ag;obtain⟨r0,au,r1,az,r2,aJ,r3,dJ,r4,eH⟩:=Hr.out.g5;obtain⟨n0,iB,n1,iD,n2,iE,n3,iG,n4,iH⟩:=Hn.out.g5;replace Hb:=aF Hb ag;clear ag;refine hK _ _ (λ_=>⟨x0,x1,x2,y0,y1,y2,n0⟩) ?_;clear hK K
   refine aW rfl rfl (λK hK=>?_);go_simp;refine hK _ _ (λ_=>⟨(aU zf (aU zf x0)),(aU zf (aU zf x1)),(aU zf (aU zf x2)),(aU zf (aU zf y0)),(aU zf (aU zf y1)),(aU zf (aU zf y2)),(aU zf (aU zf n0))⟩) ?_;clear hK K
   clear x0 bG x1 bH x2 bI y0 bz y1 bA y2 bC r0 au r1 az r2 aJ r3 dJ r4 eH n0 iB n1 iD n2 iE n3 iG n4 iH;refine cn (cm w7 (w4.heap.size) 1 [ar (aI X),ai (nt X.natAbs)]) cC ?_;intro w8 hs;replace Hx:=kS Hx hs zo;replace Hy:=kS Hy hs zo;replace Hr:=kS Hr hs zo;replace Hn:Hid (aC w8 (w4.heap.size) 94 [ah g,ar (aI X),ai (nt X.natAbs),ar false,.string (bs [])]):=yR Hn hs;obtain⟨x0,bG,x1,bH,x2,bI⟩:=Hx.out.g3;obtain⟨y0,bz,y1,bA,y2,bC⟩:=Hy.out.g3;obtain⟨r0,au,r1,az,r2,aJ,r3,dJ,r4,eH⟩:=Hr.out.g5;obtain⟨n0,iB,n1,iD,n2,iE,n3,iG,n4,iH⟩:=Hn.out.g5;replace Hb:=bS Hb hs ZS;clear hs;refine pT rfl rfl ?_
   refine aW rfl rfl (λK hK=>?_);go_simp;refine hK _ _ (λh=>absurd h zd) ?_;clear hK K
   clear x0 bG x1 bH x2 bI y0 bz y1 bA y2 bC r0 au r1 az r2 aJ r3 dJ r4 eH n0 iB n1 iD n2 iE n3 iG n4 iH;refine cn (cm w8 (w4.heap.size) 3 [ar (aI Y),ai (nt Y.natAbs)]) cC ?_;intro w9 hs;replace Hx:=kS Hx hs zo;replace Hy:=kS Hy hs zo;replace Hr:=kS Hr hs zo;replace Hn:Hid (aC w9 (w4.heap.size) 94 [ah g,ar (aI X),ai (nt X.natAbs),ar (aI Y),ai (nt Y.natAbs)]):=yR Hn hs;obtain⟨x0,bG,x1,bH,x2,bI⟩:=Hx.out.g3;obtain⟨y0,bz,y1,bA,y2,bC⟩:=Hy.out.g3;obtain⟨r0,au,r1,az,r2,aJ,r3,dJ,r4,eH⟩:=Hr.out.g5;obtain⟨n0,iB,n1,iD,n2,iE,n3,iG,n4,iH⟩:=Hn.out.g5;replace Hb:=bS Hb hs ZS;clear hs;simp only[bD];go_wp2;exact bodyPost_ret (v:=.agg #[ah g,ar (aI X),ai (nt X.natAbs),ar (aI Y),ai (nt Y.natAbs)]) (by simp[results,Tryz.results58,go_sem,r0,r1,r2,r3,r4]) rfl ⟨rfl,di⟩
theorem akY (X Y:Int)(n:Nat)(hX:(nt X.natAbs).length<=n)(hY:(nt Y.natAbs).length<=n):(nt (X+Y).natAbs).length<=n+1:=by have h1:=gz (nt X.natAbs);have h2:=gz (nt Y.natAbs);rw[jz]at h1 h2;have h3:=Nat.lt_of_lt_of_le h1 (Nat.pow_le_pow_right (show 0<256 by decide) hX);have h4:=Nat.lt_of_lt_of_le h2 (Nat.pow_le_pow_right (show 0<256 by decide) hY);refine jR ?_;rw[Nat.pow_succ];omega
theorem arZ (X Y:Int)(m n:Nat)(hX:(nt X.natAbs).length<=m)(hY:(nt Y.natAbs).length<=n):(nt (X*Y).natAbs).length<=m+n:=by have h1:=gz (nt X.natAbs);have h2:=gz (nt Y.natAbs);rw[jz]at h1 h2;have h3:=Nat.lt_of_lt_of_le h1 (Nat.pow_le_pow_right (show 0<256 by decide) hX);have h4:=Nat.lt_of_lt_of_le h2 (Nat.pow_le_pow_right (show 0<256 by decide) hY);refine jR ?_;rw[Int.natAbs_mul,Nat.pow_add];exact Nat.mul_lt_mul'' h3 h4
theorem afI (v k:Int)(a b:Nat)(hv:v.natAbs<2^a)(hk:k<=b):(pp v k).natAbs<2^(a+b):=by
 have h0:v.natAbs<2^(a+b):=Nat.lt_of_lt_of_le hv (Nat.pow_le_pow_right zd zo);unfold pp;split
 . rw[Int.natAbs_mul,Int.natAbs_pow,Nat.pow_add];refine Nat.lt_of_le_of_lt (Nat.mul_le_mul_left _ (Nat.pow_le_pow_right zd (show k.toNat<=b by omega))) ?_;exact Nat.mul_lt_mul_of_pos_right hv (Nat.pow_pos zd)
 . have hp:(0:Int)<2^(-k).toNat:=by
    have:((2^(-k).toNat:Nat):Int)>0:=by have:=Nat.pow_pos (n:=(-k).toNat) (show 0<2 by decide);omega
    simpa[Int.natCast_pow]using this
   generalize (2:Int)^(-k).toNat=p at*;have:(v/p).natAbs<=v.natAbs:=by
    rcases Int.le_total 0 v with h|h
    . have h1:=Int.ediv_nonneg h (by omega:(0:Int)<=p);have h2:=Int.ediv_le_self p h;omega
    . have h1:v<=v/p:=by rw[Int.le_ediv_iff_mul_le hp];have:=Int.mul_le_mul_of_nonpos_left h (show(1:Int)<=p by omega);omega
      have h2:v/p<=0:=by have:=Int.ediv_le_ediv hp h;simpa using this
      omega
   omega
theorem arc {x y:Raw}(hx:Ok x)(hy:Ok y)(A B:Dyadic)(hA:aM x=A)(hB:aM y=B):∃g X Y,vE A B=g/\pp (dN A) (dE A-g)=X/\pp (dN B) (dE B-g)=Y/\A=Dyadic.ofIntWithPrec X (-g)/\B=Dyadic.ofIntWithPrec Y (-g)/\
 (nt X.natAbs).length<=17179869183/\(nt Y.natAbs).length<=17179869183/\ -1099511627776<=g/\g<=1099511627776:=by
 subst hA hB;obtain⟨M,hM,sx,sy⟩:∃M,M<=4294967296/\Sm M (aM x)/\Sm M (aM y):=⟨4294967296,Nat.le_refl _,hx.sm,hy.sm⟩;obtain⟨a1,a2,a3⟩:=sx.parts;obtain⟨b1,b2,b3⟩:=sy.parts;generalize aM x=A at*;generalize aM y=B at*;obtain⟨h1,h2⟩:=arb A B;have hg: -(M:Int)<=vE A B/\vE A B<=M:=by
  clear a1 b1;unfold vE;split
  . omega
  . split<;>omega
 refine⟨vE A B,_,_,rfl,rfl,rfl,ae5 A _ h1,ae5 B _ h2,?_,?_,?_,?_⟩
 . exact kR (afI _ _ _ (2*M) a1 (by clear a1 b1;omega)) zo
 . exact kR (afI _ _ _ (2*M) b1 (by clear a1 b1;omega)) zo
 . clear a1 b1;omega
 . clear a1 b1;omega
def cz (x:Raw):List Value:=[ar x.1,ai x.2.1,ah x.2.2]
def ku :List Raw->Dyadic
 |[]=>0
 |x::xs=>aM x+ku xs
theorem anG (xs ys:List Raw):ku (xs++ys)=ku xs+ku ys:=by
 induction xs with
 |nil=>simp only[List.nil_append,ku];grind
 |cons x xs ih=>simp only[List.cons_append,ku,ih];grind
theorem aal (xs:List Raw)(k:Nat)(hk:k<xs.length):ku (xs.take (k+1))=ku (xs.take k)+aM xs[k]:=by rw[List.take_succ_eq_append_getElem hk,anG];simp only[ku];grind
def lv :List Raw->Dyadic
 |[]=>1
 |x::xs=>aM x*lv xs
theorem anC (xs ys:List Raw):lv (xs++ys)=lv xs*lv ys:=by
 induction xs with
 |nil=>simp only[List.nil_append,lv];grind
 |cons x xs ih=>simp only[List.cons_append,lv,ih];grind
theorem anE (xs:List Raw)(k:Nat)(hk:k<xs.length):lv (xs.take (k+1))=lv (xs.take k) *aM xs[k]:=by rw[List.take_succ_eq_append_getElem hk,anC];simp only[lv];grind
theorem awd (X Y N:Int)(hN:X+Y=N)(b cap:Nat)(ty:TypeId)(w:World)(hl:(nt X.natAbs).length<=34359738368)(hm:(nt Y.natAbs).length<=34359738368)
 (ha:aC w b ty [ar (aI X),ai (nt X.natAbs),ar (aI Y),ai (nt Y.natAbs)]):
 Calls Tryz.prog 60 #[.slice (some ⟨b,0,none⟩) 2 cap] w λe w'=>e=.returned (dt N)/\Bw w w':=by
 have:=agx (aI X) (nt X.natAbs) (aI Y) (nt Y.natAbs) b cap ty w hl hm ha;rw[fT,fT,hN]at this;exact this
theorem agA (s:Bool)(l:List UInt8)(t:Bool)(m:List UInt8)(N:Int)(hN:iv s l*iv t m=N)(b cap:Nat)(ty:TypeId)(w:World)(hl:l.length<=17179869184)(hm:m.length<=17179869184)
 (ha:aC w b ty [ar s,ai l,ar t,ai m]):
 Calls Tryz.prog 62 #[.slice (some ⟨b,0,none⟩) 2 cap] w λe w'=>e=.returned (dt N)/\Bw w w':=by
 have:=awh [(s,l),(t,m)] (some ⟨b,0,none⟩) cap w (by simp[rF];omega) zm (At.aBf ha);have e:iK [(s,l),(t,m)]=N:=by rw[<-hN];simp[iK]
 rw[e]at this;exact this
theorem am2 (xs:List Raw)(a:Option Addr)(cap:Nat)(w:World)(hl:∀x∈xs,Ok x)(hS:∀k,Ok (canon (ku (xs.take k))))(hx:xs.length<=1048576)
 (ha:At w a (xs.flatMap cz)) (hT:aO w):
 Calls Tryz.prog 18 #[.slice a xs.length cap] w λe w'=>e=.returned (cP (ku xs))/\Bw w w':=by
 have Hl:=aj hl;clear hl;have HS:=aj hS;clear hS;have Ha:=aj ha;clear ha;have fM:=aj hT;clear hT;go_enter Tryz.func18,Tryz.ntmps18;have Hb:Hid (Bw w w):=Below.refl _ _;go_wp2_with fail;obtain⟨R,hR⟩:∃R:World->Prop,(λW=>aC W (w.heap.size) 48 [ar false,.string (bs []),ah 0]/\aC W (w.heap.size+1) 48 [ar false,.string (bs []),ah 0]/\Bw w W)=R:=⟨_,rfl⟩;first|refine cj R ?hR ?_|refine cu R ?hR ?_
 case hR=>subst hR;exact⟨((aC.newAt w _ _ (b:=w.heap.size) rfl).alloc _),(aC.newAt (w.alloc _) _ _ (b:=w.heap.size+1) zm),(zl.alloc zj _)⟩
 subst hR;rintro W ⟨qr,qs,ag⟩;have Hr:=aj qr;clear qr;have Hs:=aj qs;clear qs;obtain⟨r0,au,r1,az,r2,aJ⟩:=Hr.out.g3;obtain⟨s0,dV,s1,dW,s2,fK⟩:=Hs.out.g3;replace Hb:=aF Hb ag;clear ag
 go_loopw[5,6,9] (λ_ _ i wr=>∃(k:Nat),k<=xs.length/\i=ah k/\aC wr w.heap.size 48 [ar false,.string (bs []),ah 0]/\
  aC wr (w.heap.size+1) 48 (cz (canon (ku (xs.take k))))/\Bw w wr) (λ_ _ i _=>xs.length-(intOf i).toNat)
 case atStart=>exact⟨0,Nat.zero_le _,rfl,Hr.out,Hs.out,Hb.out⟩
 case round=>
  obtain⟨k,hk,rfl,qr,qs,hb⟩:=hrel;replace Hr:=aj qr;replace Hs:=aj qs;replace Hb:=aj hb;clear qr qs hb r0 r1 r2 au az aJ s0 s1 s2 dV dW fK;by_cases hlt:k<xs.length
  . obtain ⟨b,o,hab,hcs⟩:=(Ha.out.below Hb.out).elem (f:=cz) (sz:=3) (fun _=>rfl) zd k hlt;have hc0:wr.cell? ⟨b,o+k*3,none⟩=some (ar xs[k].1):=hcs 0 zd;have hc1:wr.cell? ⟨b,o+k*3+1,none⟩=some (.string (bs xs[k].2.1)):=hcs 1 zd;have hc2:wr.cell? ⟨b,o+k*3+2,none⟩=some (ah xs[k].2.2):=hcs 2 zd;have bK:=mG xs.length cap k (k:Int) hab hlt rfl;have cB:=aj (aal xs k hlt);have lQ:Hid (Ok xs[k]):=Hl.out _ (List.getElem_mem hlt);have gW:=aj (HS.out k);clear hcs hab;generalize xs[k]=x at*;obtain⟨t1,l1,e1⟩:=x;generalize hS:ku (xs.take k)=S at*;clear hS;obtain⟨g,X,Y,hg,hX,hY,eA,eB,lX,lY,hg1,hg2⟩:=arc gW.out lQ.out S (aM (t1,l1,e1)) (cN S) rfl;obtain⟨N,hN⟩:=aK (X+Y);obtain⟨D,hD⟩:=aK (S+aM (t1,l1,e1));have HD:Hid (aM (aI N,nt N.natAbs,g)=D):=by
     show _=_
     rw[Au,<-hD,<-hN,<-Ei,<-eA,<-eB]
    have Pr:Hid ((nt N.natAbs).length<=34359738368):=by show _<=_;rw[<-hN];exact Nat.le_trans (akY X Y _ lX lY) zd
    rw[hD]at cB;have Ko:Hid (∀W,aO W->Calls Tryz.prog 58 #[cP S,.agg #[ar t1,ai l1,ah e1]] W λex w'=>ex=.returned (.agg #[ah g,ar (aI X),ai (nt X.natAbs),ar (aI Y),ai (nt Y.natAbs)])/\Bw W w'):=λW hW=>
     aqN _ _ _ t1 l1 e1 S (aM (t1,l1,e1)) (cN S) rfl g X Y hg hX hY W gW.out lQ.out hW
    have LX:Hid ((nt X.natAbs).length<=34359738368):=by show _<=_;omega
    have LY:Hid ((nt Y.natAbs).length<=34359738368):=by show _<=_;omega
    have Hg:Hid (-1099511627776<=g/\g<=1099511627776):=⟨hg1,hg2⟩;have HN:=aj hN;clear eA eB hg hX hY lX lY hN hD hg1 hg2 gW lQ;unfold cz canon at Hs;simp only at Hs;obtain⟨r0,au,r1,az,r2,aJ⟩:=Hr.out.g3;obtain⟨s0,dV,s1,dW,s2,fK⟩:=Hs.out.g3;have IY:=Hr.out.lt;have UC:=Hs.out.lt;go_wp2_with fail;obtain⟨R,hR⟩:∃R:World->Prop,(λW1=>aC W1 (wr.heap.size) 48 [ar t1,ai l1,ah e1]/\Bw wr W1)=R:=⟨_,rfl⟩;first|refine cj R ?hR ?_|refine cu R ?hR ?_
    case hR=>subst hR;exact⟨(aC.newAt wr _ _ (b:=wr.heap.size) rfl),zl⟩
    subst hR;rintro W1 ⟨qc,ag⟩;have Hc:=aj qc;clear qc r0 au r1 az r2 aJ;obtain⟨Hr,r0,au,r1,az,r2,aJ⟩:=bg Hr ag;clear s0 dV s1 dW s2 fK;obtain⟨Hs,s0,dV,s1,dW,s2,fK⟩:=bg Hs ag;obtain⟨c0,c1,c2⟩:=Hc.out.c3;replace Hb:=aF Hb ag;clear ag;have HT:=aj (fM.out.below Hb.out);go_wp2_with fail;refine(Ko.out _ HT.out).mono ?_;rintro e w1 ⟨rfl,ag⟩;clear r0 au r1 az r2 aJ s0 dV s1 dW s2 fK c0 c1 c2;obtain⟨Hr,r0,au,r1,az,r2,aJ⟩:=bg Hr ag;obtain⟨Hs,s0,dV,s1,dW,s2,fK⟩:=bg Hs ag;obtain⟨Hc,c0,c1,c2⟩:=bP Hc ag;replace Hb:=aF Hb ag;clear ag;have xq:=Hr.out.lt;have aAk:=Hs.out.lt;have ard:=Hc.out.lt;go_wp2_with fail;obtain⟨R,hR⟩:∃R:World->Prop,(λW2=>aC W2 (w1.heap.size) 94 [ah g,ar (aI X),ai (nt X.natAbs),ar (aI Y),ai (nt Y.natAbs)]/\Bw w1 W2)=R:=⟨_,rfl⟩;first|refine cj R ?hR ?_|refine cu R ?hR ?_
    case hR=>subst hR;exact⟨(aC.newAt w1 _ _ (b:=w1.heap.size) rfl),zl⟩
    subst hR;rintro W2 ⟨qp,ag⟩;have Hp:=aj qp;clear qp r0 au r1 az r2 aJ;obtain⟨Hr,r0,au,r1,az,r2,aJ⟩:=bg Hr ag;clear s0 dV s1 dW s2 fK;obtain⟨Hs,s0,dV,s1,dW,s2,fK⟩:=bg Hs ag;clear c0 c1 c2;obtain⟨Hc,c0,c1,c2⟩:=bP Hc ag;obtain⟨p0,p1,p2,p3,p4⟩:=Hp.out.c5;replace Hb:=aF Hb ag;clear ag;refine cg (λw'=>aH w' (w1.heap.size) 0 (ah g)/\aH w' (w1.heap.size) 1 (ar (aI X))/\aH w' (w1.heap.size) 2 (ai (nt X.natAbs))/\aH w' (w1.heap.size) 3 (ar (aI Y))/\aH w' (w1.heap.size) 4 (ai (nt Y.natAbs))) (λi=>Nat.blt i 9) [(0,true),(1,true),(2,true),(3,true),(6,true),(7,true),(4,false),(5,false),(8,false),(9,false)] zk zk rfl zk zc ⟨p0,p1,p2,p3,p4⟩ ?_;iterate 6 (refine pT rfl rfl ?_ (by intro w' ⟨q0,q1,q2,q3,q4⟩;go_simp;try with_reducible rfl))
    refine aW rfl rfl (λK hK=>?_);go_simp;refine hK _ _ (λ_=>⟨aX p0,aX p1,aX p2,aX p3,aX p4⟩) ?_;clear hK K
    refine cn (λW3=>aC W3 (W2.heap.size) 46 [ar (aI X),ai (nt X.natAbs),ar (aI Y),ai (nt Y.natAbs)]/\Bw W2 W3) (by first|exact dZ|exact ej) ?_;rintro W3 ⟨qv,ag⟩;clear r0 au r1 az r2 aJ s0 dV s1 dW s2 fK c0 c1 c2 p0 p1 p2 p3 p4;have IZ:=Hr.out.lt;have arz:=Hs.out.lt;have Nq:=Hc.out.lt;have arp:=Hp.out.lt;replace Hr:=kB Hr ag;replace Hs:=kB Hs ag;replace Hc:=kB Hc ag;replace Hp:=kB Hp ag;have Hv:=aj qv;clear qv;obtain⟨r0,au,r1,az,r2,aJ⟩:=Hr.out.g3;obtain⟨s0,dV,s1,dW,s2,fK⟩:=Hs.out.g3;obtain⟨c0,c1,c2⟩:=Hc.out.c3;obtain⟨p0,p1,p2,p3,p4⟩:=Hp.out.c5;obtain⟨v0,v1,v2,v3⟩:=Hv.out.c4;replace Hb:=aF Hb ag;clear ag;refine aW rfl rfl (λK hK=>?_);go_simp;with_reducible refine(awd X Y N HN.out W2.heap.size 2 46 _ LX.out LY.out Hv.out).mono ?_
    rintro e w3 ⟨rfl,hq⟩;have ag:Bw W3 w3:=by first|exact hq|exact bo hq
    clear r0 au r1 az r2 aJ s0 dV s1 dW s2 fK c0 c1 c2 p0 p1 p2 p3 p4 v0 v1 v2 v3;obtain⟨Hr,r0,au,r1,az,r2,aJ⟩:=bg Hr ag;obtain⟨Hs,s0,dV,s1,dW,s2,fK⟩:=bg Hs ag;obtain⟨Hc,c0,c1,c2⟩:=bP Hc ag;replace Hp:=kB Hp ag;obtain⟨Hv,v0,v1,v2,v3⟩:=dK Hv ag;obtain⟨p0,p1,p2,p3,p4⟩:=Hp.out.c5;replace Hb:=aF Hb ag;clear ag;refine hK _ _ (λ_=>⟨p0,p1,p2,p3,p4⟩) ?_;clear hK K
    refine aW rfl rfl (λK hK=>?_);go_simp;with_reducible refine(yU (aI N) (nt N.natAbs) g D HD.out _ Pr.out Hg.out (by first|exact(fM.out.below Hb.out) |exact aO.drew (fM.out.below Hb.out) |exact aO.alloc (fM.out.below Hb.out) _|exact aO.drew (aO.alloc (fM.out.below Hb.out) _) |exact aO.alloc (aO.drew (fM.out.below Hb.out)) _)).mono ?_
    rintro e w4 ⟨rfl,hq⟩;have ag:Bw w3 w4:=by first|exact hq|exact bo hq
    clear r0 au r1 az r2 aJ s0 dV s1 dW s2 fK c0 c1 c2 p0 p1 p2 p3 p4 v0 v1 v2 v3;obtain⟨Hr,r0,au,r1,az,r2,aJ⟩:=bg Hr ag;obtain⟨Hs,s0,dV,s1,dW,s2,fK⟩:=bg Hs ag;obtain⟨Hc,c0,c1,c2⟩:=bP Hc ag;replace Hp:=kB Hp ag;obtain⟨Hv,v0,v1,v2,v3⟩:=dK Hv ag;obtain⟨p0,p1,p2,p3,p4⟩:=Hp.out.c5;replace Hb:=aF Hb ag;clear ag;refine hK _ _ (λ_=>⟨p0,p1,p2,p3,p4⟩) ?_;clear hK K
    refine aW rfl rfl (λK hK=>?_);go_simp;refine hK _ _ (λh=>absurd h zd) ?_;clear hK K
    clear r0 au r1 az r2 aJ s0 dV s1 dW s2 fK c0 c1 c2 p0 p1 p2 p3 p4 v0 v1 v2 v3;refine cn (cm w4 (w.heap.size+1) 0 [ar (aI (dN D)),ai (nt (dN D).natAbs),ah (dE D)]) cC ?_;intro w5 hs;replace Hr:=kS Hr hs zo;replace Hs:=cX Hs hs;replace Hc:=kS Hc hs zo;replace Hp:=kS Hp hs zo;replace Hv:=kS Hv hs zo;obtain⟨r0,au,r1,az,r2,aJ⟩:=Hr.out.g3;obtain⟨s0,dV,s1,dW,s2,fK⟩:=Hs.out.g3;obtain⟨c0,c1,c2⟩:=Hc.out.c3;obtain⟨p0,p1,p2,p3,p4⟩:=Hp.out.c5;obtain⟨v0,v1,v2,v3⟩:=Hv.out.c4;replace Hb:=bS Hb hs ZS;clear hs;simp only[bD];go_wp2;go_roundw;case rel=>refine⟨k+1,by omega,by go_num,Hr.out,?_,Hb.out⟩;rw[cB.out];exact Hs.out
    case measure=>simp[intOf];omega
  . obtain rfl:k=xs.length:=by omega
    rw[List.take_length]at Hs;unfold cz canon at Hs;simp only at Hs;obtain⟨r0,au,r1,az,r2,aJ⟩:=Hr.out.g3;obtain⟨s0,dV,s1,dW,s2,fK⟩:=Hs.out.g3;go_wp2;exact bodyPost_ret (v:=cP (ku xs)) (by simp[results,Tryz.results18,go_sem,r0,r1,r2]) rfl ⟨rfl,di⟩
theorem Sm.one :Sm 1 1:=⟨2,by rfl,by decide⟩
theorem aak {B:Nat}(xs:List Raw)(h:∀x∈xs,Sm B (aM x)):Sm (B+xs.length) (ku xs):=by
 induction xs with
 |nil=>exact Sm.zero _
 |cons x xs ih=>have h1:=h x zm;have h2:=ih (λy hy=>h y (by simp[hy]));exact(Sm.add (h1.mono (by omega:B<=B+xs.length)) h2)
theorem anD {B:Nat}(xs:List Raw)(h:∀x∈xs,Sm B (aM x)):Sm (B*xs.length+1) (lv xs):=by
 induction xs with
 |nil=>exact Sm.one
 |cons x xs ih=>have h1:=h x zm;have h2:=ih (λy hy=>h y (by simp[hy]));have:=Sm.mul h1 h2;rw[show B* (x::xs).length+1=B+(B*xs.length+1)by rw[List.length_cons,Nat.mul_add];omega];exact this
def Fit (B:Nat)(x:Raw):Prop:=Ok x/\Sm B (aM x)
theorem Fit.mono {A B:Nat}{x:Raw}(h:Fit A x)(RP:A<=B):Fit B x:=⟨h.1,h.2.mono RP⟩
theorem Sm.fit {B:Nat}{d:Dyadic}(h:Sm B d)(hB:B<=268435456):Fit B (canon d):=⟨h.ok hB,by rw[cN];exact h⟩
theorem ZU (xs:List Raw)(B:Nat)(S:Dyadic)(hS:ku xs=S)(a:Option Addr)(cap:Nat)(w:World)(hl:∀x∈xs,Fit B x)(hB:B+xs.length<=268435456)(hx:xs.length<=1048576)
 (ha:At w a (xs.flatMap cz)) (hT:aO w):
 Calls Tryz.prog 18 #[.slice a xs.length cap] w λe w'=>e=.returned (cP S)/\Bw w w':=by
 subst hS;refine am2 xs a cap w (λx h=>(hl x h).1) (λk=>?_) hx ha hT;refine Sm.ok (B:=B+xs.length) (Sm.mono (aak (B:=B) _ (λx h=>(hl x (List.mem_of_mem_take h)).2)) ?_) hB;rw[List.length_take];omega
theorem am6 (xs:List Raw)(a:Option Addr)(cap:Nat)(w:World)(hl:∀x∈xs,Ok x)(hS:∀k,Ok (canon (lv (xs.take k))))(hx:xs.length<=1048576)
 (ha:At w a (xs.flatMap cz)) (hT:aO w):
 Calls Tryz.prog 20 #[.slice a xs.length cap] w λe w'=>e=.returned (cP (lv xs))/\Bw w w':=by
 have Hl:=aj hl;clear hl;have HS:=aj hS;clear hS;have Ha:=aj ha;clear ha;have fM:=aj hT;clear hT;obtain⟨I,hI⟩:∃I:Dyadic,1=I:=⟨_,rfl⟩;have HI:Hid (Dyadic.ofIntWithPrec 1 0=I):=by show _=_;rw[<-hI];rfl
 have HI1:=aj hI;clear hI;go_enter Tryz.func20,Tryz.ntmps20;have Hb:Hid (Bw w w):=Below.refl _ _;go_wp2_with fail;obtain⟨R,hR⟩:∃R:World->Prop,(λW=>aC W (w.heap.size) 48 [ar false,.string (bs []),ah 0]/\Bw w W)=R:=⟨_,rfl⟩;first|refine cj R ?hR ?_|refine cu R ?hR ?_
 case hR=>subst hR;exact⟨(aC.newAt w _ _ (b:=w.heap.size) rfl),zl⟩
 subst hR;rintro W ⟨qr,ag⟩;have Hr:=aj qr;clear qr;obtain⟨r0,au,r1,az,r2,aJ⟩:=Hr.out.g3;replace Hb:=aF Hb ag;clear ag;have HT:=aj (fM.out.below Hb.out);go_wp2_with fail;refine(Gd 1 I HI.out _ zo HT.out).mono ?_;rintro e w2 ⟨rfl,ag⟩;clear r0 au r1 az r2 aJ;obtain⟨Hr,r0,au,r1,az,r2,aJ⟩:=bg Hr ag;replace Hb:=aF Hb ag;clear ag;have xq:=Hr.out.lt;go_wp2_with fail;obtain⟨R,hR⟩:∃R:World->Prop,(λW2=>aC W2 (w2.heap.size) 48 [ar (aI (dN I)),ai (nt (dN I).natAbs),ah (dE I)]/\Bw w2 W2)=R:=⟨_,rfl⟩;first|refine cj R ?hR ?_|refine cu R ?hR ?_
 case hR=>subst hR;exact⟨(aC.newAt w2 _ _ (b:=w2.heap.size) rfl),zl⟩
 subst hR;rintro W2 ⟨qs,ag⟩;have Hs:=aj qs;clear qs r0 au r1 az r2 aJ;obtain⟨Hr,r0,au,r1,az,r2,aJ⟩:=bg Hr ag;obtain⟨s0,dV,s1,dW,s2,fK⟩:=Hs.out.g3;replace Hb:=aF Hb ag;clear ag
 go_loopw[5,9] (λ_ i wr=>∃(k:Nat),k<=xs.length/\i=ah k/\aC wr w.heap.size 48 [ar false,.string (bs []),ah 0]/\
  aC wr w2.heap.size 48 (cz (canon (lv (xs.take k))))/\Bw w wr) (λ_ i _=>xs.length-(intOf i).toNat)
 case atStart=>
  refine⟨0,Nat.zero_le _,rfl,Hr.out,?_,Hb.out⟩;have e:lv (xs.take 0)=I:=by rw[<-HI1.out];rfl
  rw[e];exact Hs.out
 case round=>
  obtain⟨k,hk,rfl,qr,qs,hb⟩:=hrel;replace Hr:=aj qr;replace Hs:=aj qs;replace Hb:=aj hb;clear qr qs hb r0 r1 r2 au az aJ s0 s1 s2 dV dW fK HT;by_cases hlt:k<xs.length
  . obtain ⟨b,o,hab,hcs⟩:=(Ha.out.below Hb.out).elem (f:=cz) (sz:=3) (fun _=>rfl) zd k hlt;have hc0:wr.cell? ⟨b,o+k*3,none⟩=some (ar xs[k].1):=hcs 0 zd;have hc1:wr.cell? ⟨b,o+k*3+1,none⟩=some (.string (bs xs[k].2.1)):=hcs 1 zd;have hc2:wr.cell? ⟨b,o+k*3+2,none⟩=some (ah xs[k].2.2):=hcs 2 zd;have bK:=mG xs.length cap k (k:Int) hab hlt rfl;have cB:=aj (anE xs k hlt);have lQ:Hid (Ok xs[k]):=Hl.out _ (List.getElem_mem hlt);have gW:=aj (HS.out k);clear hcs hab;generalize xs[k]=x at*;obtain⟨t1,l1,e1⟩:=x;generalize hS:lv (xs.take k)=S at*;clear hS;obtain⟨N,hN⟩:=aK (dN S*iv t1 l1);obtain⟨D,hD⟩:=aK (S*aM (t1,l1,e1));obtain⟨g,hg⟩:=aK (dE S+e1);have HD:Hid (aM (aI N,nt N.natAbs,g)=D):=by
     show _=_
     rw[Au,<-hD,<-hN];conv=>rhs;rw[ux S]
     unfold aM;rw[zr];congr 1;simp only;omega
    have o1:=gW.out.exp;have o2:=lQ.out.exp;have o3:=gW.out.len;have o4:=lQ.out.len;have Pr:Hid ((nt N.natAbs).length<=34359738368):=by
     show _<=_
     have h2:=Jb t1 l1 268435456 o4;rw[Int.natAbs_neg]at h2;rw[<-hN];exact Nat.le_trans (arZ (dN S) (iv t1 l1) _ _ o3 h2) zd
    rw[hD]at cB;have LX:Hid ((nt (dN S).natAbs).length<=17179869184):=by show _<=_;omega
    have LY:Hid (l1.length<=17179869184):=by show _<=_;omega
    have Hg:Hid (-1099511627776<=g/\g<=1099511627776):=by show _/\_;omega
    have hwg:IntKind.i64.wrap (dE S+e1)=g:=by rw[IntKind.wrap_i64];omega
    have HN:Hid (iv (aI (dN S)) (nt (dN S).natAbs) *iv t1 l1=N):=by show _=_;rw[fT];exact hN
    clear hg hN hD gW lQ o1 o2 o3 o4;unfold cz canon at Hs;simp only at Hs;have hrs:w.heap.size<w2.heap.size:=xq;obtain⟨r0,au,r1,az,r2,aJ⟩:=Hr.out.g3;obtain⟨s0,dV,s1,dW,s2,fK⟩:=Hs.out.g3;have IY:=Hr.out.lt;have UC:=Hs.out.lt;go_wp2_with fail;obtain⟨R,hR⟩:∃R:World->Prop,(λW1=>aC W1 (wr.heap.size) 48 [ar t1,ai l1,ah e1]/\Bw wr W1)=R:=⟨_,rfl⟩;first|refine cj R ?hR ?_|refine cu R ?hR ?_
    case hR=>subst hR;exact⟨(aC.newAt wr _ _ (b:=wr.heap.size) rfl),zl⟩
    subst hR;rintro W1 ⟨qc,ag⟩;have Hc:=aj qc;clear qc r0 au r1 az r2 aJ;obtain⟨Hr,r0,au,r1,az,r2,aJ⟩:=bg Hr ag;clear s0 dV s1 dW s2 fK;obtain⟨Hs,s0,dV,s1,dW,s2,fK⟩:=bg Hs ag;obtain⟨c0,c1,c2⟩:=Hc.out.c3;replace Hb:=aF Hb ag;clear ag;refine cg (λw'=>aH w' (wr.heap.size) 0 (ar t1)/\aH w' (wr.heap.size) 1 (ai l1)/\aH w' (wr.heap.size) 2 (ah e1)/\aH w' (w2.heap.size) 0 (ar (aI (dN S)))/\aH w' (w2.heap.size) 1 (ai (nt (dN S).natAbs))/\aH w' (w2.heap.size) 2 (ah (dE S))) (λi=>Nat.blt i 12) [(0,true),(1,true),(2,true),(3,true),(6,true),(7,true),(8,true),(9,true),(10,true),(4,false),(5,false),(11,false),(12,false)] zk zk rfl zk zc ⟨c0,c1,c2,s0,s1,s2⟩ ?_;iterate 9 (refine pT rfl rfl ?_ (by intro w' ⟨q0,q1,q2,q3,q4,q5⟩;go_simp;try with_reducible rfl))
    refine aW rfl rfl (λK hK=>?_);go_simp;refine hK _ _ (λ_=>⟨aX c0,aX c1,aX c2,aX s0,aX s1,aX s2⟩) ?_;clear hK K
    refine cn (λW3=>aC W3 (W1.heap.size) 46 [ar (aI (dN S)),ai (nt (dN S).natAbs),ar t1,ai l1]/\Bw W1 W3) (by first|exact dZ|exact ej) ?_;rintro W3 ⟨qv,ag⟩;clear r0 au r1 az r2 aJ s0 dV s1 dW s2 fK c0 c1 c2;have IZ:=Hr.out.lt;have arz:=Hs.out.lt;have Nq:=Hc.out.lt;replace Hr:=kB Hr ag;replace Hs:=kB Hs ag;replace Hc:=kB Hc ag;have Hv:=aj qv;clear qv;obtain⟨r0,au,r1,az,r2,aJ⟩:=Hr.out.g3;obtain⟨s0,dV,s1,dW,s2,fK⟩:=Hs.out.g3;obtain⟨c0,c1,c2⟩:=Hc.out.c3;obtain⟨v0,v1,v2,v3⟩:=Hv.out.c4;replace Hb:=aF Hb ag;clear ag;refine aW rfl rfl (λK hK=>?_);go_simp;with_reducible refine(agA (aI (dN S)) (nt (dN S).natAbs) t1 l1 N HN.out W1.heap.size 2 46 _ LX.out LY.out Hv.out).mono ?_
    rintro e w3 ⟨rfl,hq⟩;have ag:Bw W3 w3:=by first|exact hq|exact bo hq
    clear r0 au r1 az r2 aJ s0 dV s1 dW s2 fK c0 c1 c2 v0 v1 v2 v3;obtain⟨Hr,r0,au,r1,az,r2,aJ⟩:=bg Hr ag;obtain⟨Hs,s0,dV,s1,dW,s2,fK⟩:=bg Hs ag;obtain⟨Hc,c0,c1,c2⟩:=bP Hc ag;obtain⟨Hv,v0,v1,v2,v3⟩:=dK Hv ag;replace Hb:=aF Hb ag;clear ag;refine hK _ _ (λ_=>⟨c0,c1,c2,s0,s1,s2⟩) ?_;clear hK K
    refine aW rfl rfl (λK hK=>?_);go_simp;with_reducible refine(yU (aI N) (nt N.natAbs) g D HD.out _ Pr.out Hg.out (by first|exact(fM.out.below Hb.out) |exact aO.drew (fM.out.below Hb.out) |exact aO.alloc (fM.out.below Hb.out) _|exact aO.drew (aO.alloc (fM.out.below Hb.out) _) |exact aO.alloc (aO.drew (fM.out.below Hb.out)) _)).mono ?_
    rintro e w4 ⟨rfl,hq⟩;have ag:Bw w3 w4:=by first|exact hq|exact bo hq
    clear r0 au r1 az r2 aJ s0 dV s1 dW s2 fK c0 c1 c2 v0 v1 v2 v3;obtain⟨Hr,r0,au,r1,az,r2,aJ⟩:=bg Hr ag;obtain⟨Hs,s0,dV,s1,dW,s2,fK⟩:=bg Hs ag;obtain⟨Hc,c0,c1,c2⟩:=bP Hc ag;obtain⟨Hv,v0,v1,v2,v3⟩:=dK Hv ag;replace Hb:=aF Hb ag;clear ag;refine hK _ _ (λ_=>⟨c0,c1,c2,s0,s1,s2⟩) ?_;clear hK K
    refine aW rfl rfl (λK hK=>?_);go_simp;refine hK _ _ (λh=>absurd h zd) ?_;clear hK K
    clear r0 au r1 az r2 aJ s0 dV s1 dW s2 fK c0 c1 c2 v0 v1 v2 v3;refine cn (cm w4 (w2.heap.size) 0 [ar (aI (dN D)),ai (nt (dN D).natAbs),ah (dE D)]) cC ?_;intro w5 hs;replace Hr:=kS Hr hs zo;replace Hs:=cX Hs hs;replace Hc:=kS Hc hs zo;replace Hv:=kS Hv hs zo;obtain⟨r0,au,r1,az,r2,aJ⟩:=Hr.out.g3;obtain⟨s0,dV,s1,dW,s2,fK⟩:=Hs.out.g3;obtain⟨c0,c1,c2⟩:=Hc.out.c3;obtain⟨v0,v1,v2,v3⟩:=Hv.out.c4;replace Hb:=bS Hb hs ZS;clear hs;simp only[bD];go_wp2;go_roundw;case rel=>refine⟨k+1,by omega,by go_num,Hr.out,?_,Hb.out⟩;rw[cB.out];exact Hs.out
    case measure=>simp[intOf];omega
  . obtain rfl:k=xs.length:=by omega
    rw[List.take_length]at Hs;unfold cz canon at Hs;simp only at Hs;obtain⟨r0,au,r1,az,r2,aJ⟩:=Hr.out.g3;obtain⟨s0,dV,s1,dW,s2,fK⟩:=Hs.out.g3;go_wp2;exact bodyPost_ret (v:=cP (lv xs)) (by simp[results,Tryz.results20,go_sem,r0,r1,r2]) rfl ⟨rfl,di⟩
theorem am7 (xs:List Raw)(B:Nat)(S:Dyadic)(hS:lv xs=S)(a:Option Addr)(cap:Nat)(w:World)(hl:∀x∈xs,Fit B x)(hB:B*xs.length+1<=268435456)(hx:xs.length<=1048576)
 (ha:At w a (xs.flatMap cz)) (hT:aO w):
 Calls Tryz.prog 20 #[.slice a xs.length cap] w λe w'=>e=.returned (cP S)/\Bw w w':=by
 subst hS;refine am6 xs a cap w (λx h=>(hl x h).1) (λk=>?_) hx ha hT;refine Sm.ok (B:=B*xs.length+1) (Sm.mono (anD (B:=B) _ (λx h=>(hl x (List.mem_of_mem_take h)).2)) ?_) hB;rw[List.length_take];have:B*min k xs.length<=B*xs.length:=Nat.mul_le_mul_left _ zo;omega
theorem Gb (s:Bool)(l:List UInt8)(e:Int)(t:Bool)(m:List UInt8)(f:Int)(S:Dyadic)(B:Nat)(hS:aM (s,l,e)+aM (t,m,f)=S)(b cap:Nat)(ty:TypeId)(w:World)(hx:Fit B (s,l,e))(hy:Fit B (t,m,f))(hB:B+2<=268435456)
 (ha:aC w b ty [ar s,ai l,ah e,ar t,ai m,ah f]) (hT:aO w):
 Calls Tryz.prog 18 #[.slice (some ⟨b,0,none⟩) 2 cap] w λe w'=>e=.returned (cP S)/\Bw w w':=
 ZU [(s,l,e),(t,m,f)] B S (by rw[<-hS];simp only[ku];grind) _ cap w (by intro x h;simp at h;rcases h with rfl|rfl;exact hx;exact hy) hB zm (At.aBf ha) hT
theorem Aq (s:Bool)(l:List UInt8)(e:Int)(t:Bool)(m:List UInt8)(f:Int)(S:Dyadic)(B:Nat)(hS:aM (s,l,e) *aM (t,m,f)=S)(b cap:Nat)(ty:TypeId)(w:World)(hx:Fit B (s,l,e))(hy:Fit B (t,m,f))(hB:2*B+1<=268435456)
 (ha:aC w b ty [ar s,ai l,ah e,ar t,ai m,ah f]) (hT:aO w):
 Calls Tryz.prog 20 #[.slice (some ⟨b,0,none⟩) 2 cap] w λe w'=>e=.returned (cP S)/\Bw w w':=
 am7 [(s,l,e),(t,m,f)] B S (by rw[<-hS];simp only[lv];grind) _ cap w (by intro x h;simp at h;rcases h with rfl|rfl;exact hx;exact hy) zi zm (At.aBf ha) hT
theorem ZX (s:Bool)(l:List UInt8)(e:Int)(t:Bool)(m:List UInt8)(f:Int)(S:Dyadic)(B:Nat)(hS:aM (s,l,e)-aM (t,m,f)=S)(w:World)(hx:Fit B (s,l,e))(hy:Fit B (t,m,f))(hB:B+2<=268435456)(hT:aO w):
 Calls Tryz.prog 29 #[.agg #[ar s,ai l,ah e],.agg #[ar t,ai m,ah f]] w λe w'=>e=.returned (cP S)/\Bw w w':=by
 obtain⟨D,hD⟩:=aK (-aM (t,m,f));have Hn:Hid (Fit B (aI (dN D),nt (dN D).natAbs,dE D)):=by rw[<-hD];exact(hy.2.neg).fit zo
 have HS:Hid (aM (s,l,e)+aM (aI (dN D),nt (dN D).natAbs,dE D)=S):=by show _+aM (canon D)=_;rw[cN,<-hD,<-hS];grind
 obtain⟨Hyo,HD,uK,uM⟩:=eN hy.1 hD hx hy;clear hD hx hy hS;go_enter Tryz.func29,Tryz.ntmps29;have Hb:Hid (Bw w w):=Below.refl _ _;go_wp2_with fail;obtain⟨R,hR⟩:∃R:World->Prop,(λW=>aC W (w.heap.size) 48 [ar s,ai l,ah e]/\aC W (w.heap.size+1) 48 [ar t,ai m,ah f]/\aC W (w.heap.size+1+1) 48 [ar false,.string (bs []),ah 0]/\Bw w W)=R:=⟨_,rfl⟩;first|refine cj R ?hR ?_|refine cu R ?hR ?_
 case hR=>subst hR;exact⟨(((aC.newAt w _ _ (b:=w.heap.size) rfl).alloc _).alloc _),((aC.newAt (w.alloc _) _ _ (b:=w.heap.size+1) zm).alloc _),(aC.newAt ((w.alloc _).alloc _) _ _ (b:=w.heap.size+1+1) zm),((zl.alloc zj _).alloc zj _)⟩
 subst hR;rintro W ⟨qx,qy,qr,ag⟩;have Hx:=aj qx;clear qx;have Hy:=aj qy;clear qy;have Hr:=aj qr;clear qr;obtain⟨x0,x1,x2⟩:=Hx.out.c3;obtain⟨y0,y1,y2⟩:=Hy.out.c3;obtain⟨r0,au,r1,az,r2,aJ⟩:=Hr.out.g3;replace Hb:=aF Hb ag;clear ag;refine cg (λw'=>aH w' (w.heap.size) 0 (ar s)/\aH w' (w.heap.size) 1 (ai l)/\aH w' (w.heap.size) 2 (ah e)/\aH w' (w.heap.size+1) 0 (ar t)/\aH w' (w.heap.size+1) 1 (ai m)/\aH w' (w.heap.size+1) 2 (ah f)) (λi=>Nat.blt i 5) [(0,true),(1,true),(2,false),(3,false),(4,false),(5,false)] zk zk rfl zk zc ⟨x0,x1,x2,y0,y1,y2⟩ ?_;iterate 2 (refine pT rfl rfl ?_ (by intro w' ⟨q0,q1,q2,q3,q4,q5⟩;go_simp;try with_reducible rfl))
 refine aW rfl rfl (λK hK=>?_);go_simp;with_reducible refine(Rm t m f D HD.out _ Hyo.out (by first|exact(hT.below Hb.out) |exact aO.drew (hT.below Hb.out) |exact aO.alloc (hT.below Hb.out) _|exact aO.drew (aO.alloc (hT.below Hb.out) _) |exact aO.alloc (aO.drew (hT.below Hb.out)) _)).mono ?_
 rintro e w1 ⟨rfl,hq⟩;have ag:Bw W w1:=by first|exact hq|exact bo hq
 clear x0 x1 x2 y0 y1 y2 r0 au r1 az r2 aJ;obtain⟨Hx,x0,x1,x2⟩:=bP Hx ag;obtain⟨Hy,y0,y1,y2⟩:=bP Hy ag;obtain⟨Hr,r0,au,r1,az,r2,aJ⟩:=bg Hr ag;replace Hb:=aF Hb ag;clear ag;refine hK _ _ (λ_=>⟨x0,x1,x2,y0,y1,y2⟩) ?_;clear hK K
 refine aW rfl rfl (λK hK=>?_);go_simp;refine hK _ _ (λ_=>⟨aX x0,aX x1,aX x2,aX y0,aX y1,aX y2⟩) ?_;clear hK K
 refine cn (λW1=>aC W1 (w1.heap.size) 48 [ar s,ai l,ah e,ar (aI (dN D)),ai (nt (dN D).natAbs),ah (dE D)]/\Bw w1 W1) (by first|exact dZ|exact ej) ?_;rintro W1 ⟨qv,ag⟩;clear x0 x1 x2 y0 y1 y2 r0 au r1 az r2 aJ;have arC:=Hx.out.lt;have arE:=Hy.out.lt;have IY:=Hr.out.lt;replace Hx:=kB Hx ag;replace Hy:=kB Hy ag;replace Hr:=kB Hr ag;have Hv:=aj qv;clear qv;obtain⟨x0,x1,x2⟩:=Hx.out.c3;obtain⟨y0,y1,y2⟩:=Hy.out.c3;obtain⟨r0,au,r1,az,r2,aJ⟩:=Hr.out.g3;obtain⟨v0,v1,v2,v3,v4,v5⟩:=Hv.out.c6;replace Hb:=aF Hb ag;clear ag;refine aW rfl rfl (λK hK=>?_);go_simp;with_reducible refine(Gb s l e (aI (dN D)) (nt (dN D).natAbs) (dE D) S B HS.out w1.heap.size 2 48 _ uK.out Hn.out hB Hv.out (by first|exact(hT.below Hb.out) |exact aO.drew (hT.below Hb.out) |exact aO.alloc (hT.below Hb.out) _|exact aO.drew (aO.alloc (hT.below Hb.out) _) |exact aO.alloc (aO.drew (hT.below Hb.out)) _)).mono ?_
 rintro e w2 ⟨rfl,hq⟩;have ag:Bw W1 w2:=by first|exact hq|exact bo hq
 clear x0 x1 x2 y0 y1 y2 r0 au r1 az r2 aJ v0 v1 v2 v3 v4 v5;obtain⟨Hx,x0,x1,x2⟩:=bP Hx ag;obtain⟨Hy,y0,y1,y2⟩:=bP Hy ag;obtain⟨Hr,r0,au,r1,az,r2,aJ⟩:=bg Hr ag;obtain⟨Hv,v0,v1,v2,v3,v4,v5⟩:=jO Hv ag;replace Hb:=aF Hb ag;clear ag;refine hK _ _ (λ_=>⟨x0,x1,x2,y0,y1,y2⟩) ?_;clear hK K
 refine aW rfl rfl (λK hK=>?_);go_simp;refine hK _ _ (λh=>absurd h zd) ?_;clear hK K
 clear x0 x1 x2 y0 y1 y2 r0 au r1 az r2 aJ v0 v1 v2 v3 v4 v5;refine cn (cm w2 (w.heap.size+1+1) 0 [ar (aI (dN S)),ai (nt (dN S).natAbs),ah (dE S)]) cC ?_;intro w3 hs;replace Hx:=kS Hx hs zo;replace Hy:=kS Hy hs zo;replace Hr:=cX Hr hs;replace Hv:=kS Hv hs zo;obtain⟨x0,x1,x2⟩:=Hx.out.c3;obtain⟨y0,y1,y2⟩:=Hy.out.c3;obtain⟨r0,au,r1,az,r2,aJ⟩:=Hr.out.g3;obtain⟨v0,v1,v2,v3,v4,v5⟩:=Hv.out.c6;replace Hb:=bS Hb hs ZS;clear hs;simp only[bD];go_wp2;exact bodyPost_ret (v:=cP S) (by simp[results,Tryz.results29,go_sem,r0,r1,r2]) rfl ⟨rfl,di⟩
theorem am1 (s:Bool)(l:List UInt8)(e:Int)(D:Dyadic)(hD:(if dY (aM (s,l,e))<0 then-aM (s,l,e)else aM (s,l,e))=D)(w:World)(hx:Ok (s,l,e))(hT:aO w):
 Calls Tryz.prog 26 #[.agg #[ar s,ai l,ah e]] w λex w'=>ex=.returned (cP D)/\Bw w w':=by
 obtain⟨u,hu⟩:=aK (dY (aM (s,l,e)));have uK:=aj hx;clear hx;have Hu:=aj hu;rw[hu]at hD;clear hu;by_cases h:u<0
 . rw[if_pos h]at hD;have HD:=aj hD;clear hD;go_enter Tryz.func26,Tryz.ntmps26;have Hb:Hid (Bw w w):=Below.refl _ _;go_wp2_with fail;obtain⟨R,hR⟩:∃R:World->Prop,(λW=>aC W (w.heap.size) 48 [ar s,ai l,ah e]/\aC W (w.heap.size+1) 48 [ar false,.string (bs []),ah 0]/\Bw w W)=R:=⟨_,rfl⟩;first|refine cj R ?hR ?_|refine cu R ?hR ?_
   case hR=>subst hR;exact⟨((aC.newAt w _ _ (b:=w.heap.size) rfl).alloc _),(aC.newAt (w.alloc _) _ _ (b:=w.heap.size+1) zm),(zl.alloc zj _)⟩
   subst hR;rintro W ⟨qx,qr,ag⟩;have Hx:=aj qx;clear qx;have Hr:=aj qr;clear qr;obtain⟨x0,x1,x2⟩:=Hx.out.c3;obtain⟨r0,au,r1,az,r2,aJ⟩:=Hr.out.g3;replace Hb:=aF Hb ag;clear ag;go_wp2_with fail;refine(uZ s l e u Hu.out _ uK.out).mono ?_;rintro e w1 ⟨rfl,ag⟩;clear x0 x1 x2 r0 au r1 az r2 aJ;obtain⟨Hx,x0,x1,x2⟩:=bP Hx ag;obtain⟨Hr,r0,au,r1,az,r2,aJ⟩:=bg Hr ag;replace Hb:=aF Hb ag;clear ag;have HT:=aj (hT.below Hb.out);go_wp2_with fail;refine(Rm s l e D HD.out _ uK.out HT.out).mono ?_;rintro e w2 ⟨rfl,ag⟩;clear x0 x1 x2 r0 au r1 az r2 aJ;obtain⟨Hx,x0,x1,x2⟩:=bP Hx ag;obtain⟨Hr,r0,au,r1,az,r2,aJ⟩:=bg Hr ag;replace Hb:=aF Hb ag;clear ag;go_wp2;exact bodyPost_ret (v:=cP D) (by simp[results,Tryz.results26,go_sem,r0,r1,r2]) rfl ⟨rfl,di⟩
 . rw[if_neg h]at hD;have HD:=aj hD;clear hD;have h2:0<=u:=by omega
   go_enter Tryz.func26,Tryz.ntmps26;have Hb:Hid (Bw w w):=Below.refl _ _;go_wp2_with fail;obtain⟨R,hR⟩:∃R:World->Prop,(λW=>aC W (w.heap.size) 48 [ar s,ai l,ah e]/\aC W (w.heap.size+1) 48 [ar false,.string (bs []),ah 0]/\Bw w W)=R:=⟨_,rfl⟩;first|refine cj R ?hR ?_|refine cu R ?hR ?_
   case hR=>subst hR;exact⟨((aC.newAt w _ _ (b:=w.heap.size) rfl).alloc _),(aC.newAt (w.alloc _) _ _ (b:=w.heap.size+1) zm),(zl.alloc zj _)⟩
   subst hR;rintro W ⟨qx,qr,ag⟩;have Hx:=aj qx;clear qx;have Hr:=aj qr;clear qr;obtain⟨x0,x1,x2⟩:=Hx.out.c3;obtain⟨r0,au,r1,az,r2,aJ⟩:=Hr.out.g3;replace Hb:=aF Hb ag;clear ag;go_wp2_with fail;refine(uZ s l e u Hu.out _ uK.out).mono ?_;rintro e w1 ⟨rfl,ag⟩;clear x0 x1 x2 r0 au r1 az r2 aJ;obtain⟨Hx,x0,x1,x2⟩:=bP Hx ag;obtain⟨Hr,r0,au,r1,az,r2,aJ⟩:=bg Hr ag;replace Hb:=aF Hb ag;clear ag;have HT:=aj (hT.below Hb.out);go_wp2_with fail;refine(se s l e D HD.out _ uK.out HT.out).mono ?_;rintro e w2 ⟨rfl,ag⟩;clear x0 x1 x2 r0 au r1 az r2 aJ;obtain⟨Hx,x0,x1,x2⟩:=bP Hx ag;obtain⟨Hr,r0,au,r1,az,r2,aJ⟩:=bg Hr ag;replace Hb:=aF Hb ag;clear ag;go_wp2;exact bodyPost_ret (v:=cP D) (by simp[results,Tryz.results26,go_sem,r0,r1,r2]) rfl ⟨rfl,di⟩
end Go.Proofs.YtnjfebkelecgaaaGreatDoor
namespace Go.Proofs.YtnjfebkelecgaaaGreatDoor
theorem asQ (n k:Int):Dyadic.ofIntWithPrec n k<0↔n<0:=by
 rw[<-Dyadic.toRat_lt_toRat_iff,Dyadic.toRat_ofIntWithPrec_eq_mul_two_pow,Dyadic.toRat_zero];have h2:(0:Rat)<2^(-k):=Rat.zpow_pos zd;constructor
 . intro h;by_cases h3:n<0
   . exact h3
   . exfalso
     have h4:(0:Rat)<=(n:Rat):=by exact_mod_cast Int.not_lt.1 h3
     have h5:=Rat.mul_nonneg h4 (Rat.le_of_lt h2);grind
 . intro h;have h4:(n:Rat)<0:=by exact_mod_cast h
   have:=Rat.mul_lt_mul_of_pos_right h4 h2;grind
theorem Rs (X:Dyadic):dY X<0↔X<0:=by
 conv=>rhs;rw[ux X]
 rw[asQ];unfold dY fH;split
 . rename_i h;simp[h]
 . rename_i h
   split<;>simp<;>omega
theorem anF (X:Dyadic):dY X=0↔X=0:=by
 constructor
 . intro h;have h1:dN X=0:=by
    unfold dY fH at h;by_cases h1:dN X<0
    . rw[if_pos h1]at h;cases h
    . rw[if_neg h1]at h;by_cases h2:dN X=0
      . exact h2
      . rw[if_neg h2]at h;cases h
   have h2:=ux X;rw[h1,zu]at h2;exact h2
 . rintro rfl;rfl
def rN (X:Dyadic):Dyadic:=Dyadic.ofIntWithPrec (dY X) 0
theorem afG (X:Dyadic):rN X=if X<0 then-1 else if X=0 then 0 else 1:=by
 unfold rN;have h1:=Rs X;have h2:=anF X;have h3:dY X= -1\/dY X=0\/dY X=1:=by
  unfold dY fH;split
  . exact .inl rfl
  . split
    . exact .inr (.inl rfl)
    . exact .inr (.inr rfl)
 rcases h3 with h|h|h
 . rw[if_pos (h1.1 zo),h];rfl
 . rw[if_neg (λh4=>by have:=h1.2 h4;omega),if_pos (h2.1 h),h];rfl
 . rw[if_neg (λh4=>by have:=h1.2 h4;omega),if_neg (λh4=>by have:=h2.2 h4;omega),h];rfl
def Ot (n:Nat)(p:Nat->Nat->Dyadic)(x:Nat->Dyadic)(k:Nat):Dyadic:=rN (kH n p) *kH n (Wh p k x)
def mJ (e:Nat->Nat->Dyadic)(r c:Nat):Nat->Nat->Dyadic:=λa b=>e (if a<r then a else a+1) (if b<c then b else b+1)
def DY (n:Nat)(e:Nat->Nat->Dyadic)(y:Nat->Dyadic)(i:Nat):Nat->Dyadic
 |0=>0
 |k+1=>DY n e y i k+y k* (if(k+i)%2=1 then-ft (n-1) (mJ e i k)else ft (n-1) (mJ e i k))
theorem aqG (n:Nat)(hn:1<=n)(dv:n<=4)(e:Nat->Nat->Dyadic)(y:Nat->Dyadic)(i:Nat)(hi:i<n):DY n e y i n=ft n λa b=>if a=i then y b else e a b:=by
 have hc:(n=1/\i=0)\/(n=2/\i=0)\/(n=2/\i=1)\/(n=3/\i=0)\/(n=3/\i=1)\/(n=3/\i=2)\/(n=4/\i=0)\/(n=4/\i=1)\/(n=4/\i=2)\/(n=4/\i=3):=by omega
 rcases hc with⟨rfl,rfl⟩ |⟨rfl,rfl⟩ |⟨rfl,rfl⟩ |⟨rfl,rfl⟩ |⟨rfl,rfl⟩ |⟨rfl,rfl⟩ |⟨rfl,rfl⟩ |⟨rfl,rfl⟩ |⟨rfl,rfl⟩ |⟨rfl,rfl⟩<;>(simp[DY,ft,mJ];try grind)
theorem anH (n:Nat)(p:Nat->Nat->Dyadic)(x:Nat->Dyadic)(i:Nat):kH n (Wh p (i+1) x)=ft n λa b=>if a=i then x b-p 0 b else p (a+1) b-p 0 b:=by
 unfold kH Wh;congr 1;funext a b
 by_cases h:a=i
 . rw[if_pos h,if_pos zo,if_neg zo]
 . rw[if_neg h,if_neg zo,if_neg zo]
end Go.Proofs.YtnjfebkelecgaaaGreatDoor
namespace Go.Proofs.YtnjfebkelecgaaaGreatDoor
open Go.RowKit
attribute [local go_sem ↓] Go.wp_at_zero Go.wp_at_succ
def eU (l:List UInt8)(v:Int):Bool:=(l.all λc=>decide (c.toNat<=127))&&decide ((l.length:Int)=v)
theorem Ea (l:List UInt8)(v:Int)(w:World)(hl:l.length<=9223372036854775807):
 Calls Tryz.prog 85 #[ai l,ah v] w λe w'=>e=.returned (ar (eU l v))/\Bw w w':=by
 obtain⟨n,hn⟩:=aK l.length;have hsz:(bs l).size=n:=by rw[jd,hn]
 obtain⟨M,hM⟩:=aK (eU l v);rw[hM];obtain⟨HM,Hn⟩:=aZ hM hn;rw[hn]at hl;clear hM hn;go_enter Tryz.func85,Tryz.ntmps85;have Hb:Hid (Bw w w):=Below.refl _ _;go_wp2_with fail;go_loopw[8] (λx wr=>∃k:Nat,k<=n/\x=ah (k:Int)/\((l.take k).all λc=>decide (c.toNat<=127))=true/\Bw w wr) (λx _=>n-(intOf x).toNat);case atStart=>exact⟨0,Nat.zero_le _,rfl,rfl,Hb.out⟩
 case round=>
  clear Hb;obtain⟨k,hk,rfl,hall,pb⟩:=hrel;obtain⟨ov,Hb⟩:=aZ hall pb;clear hall pb;by_cases hlt:k<n
  . have hk2:k<l.length:=by rw[Hn.out];exact hlt
    have ix:=vD l (k:Int) k hk2 rfl;obtain⟨c,hc⟩:∃c:Nat,(l[k]).toNat=c:=⟨_,rfl⟩;rw[hc]at ix;by_cases h1:127<c
    . have h2:(127:Int)<(c:Int):=by omega
      have rC:M=false:=by
       rw[<-HM.out];unfold eU;have:(l.all λc=>decide (c.toNat<=127))=false:=by rw[List.all_eq_false];exact⟨l[k],List.getElem_mem hk2,by simp;omega⟩
       rw[this];rfl
      subst rC;go_wp2;exact bodyPost_ret (v:=ar false) (by simp[results,Tryz.results85,go_sem]) rfl ⟨rfl,di⟩
    . have h2:¬(127:Int)<(c:Int):=by omega
      have cB:Hid (((l.take (k+1)).all λc=>decide (c.toNat<=127))=true):=by
       show _=_
       rw[List.take_succ_eq_append_getElem hk2,List.all_append,ov.out];simp;omega
      clear hc;go_wp2;go_roundw;case rel=>exact⟨k+1,by omega,by go_num,cB.out,Hb.out⟩
      case measure=>simp[intOf];omega
  . obtain rfl:k=n:=by omega
    have hme:M=decide ((k:Int)=v):=by rw[<-HM.out];have h:=ov.out;rw[List.take_of_length_le (by rw[Hn.out];exact Nat.le_refl _)]at h;unfold eU;rw[h,Hn.out,Bool.true_and]
    have PC:=aj hme;clear hme;go_wp2;refine bodyPost_ret (results_tmp rfl _ _ _) rfl ⟨?_,Hb.out⟩;rw[PC.out];by_cases h:(k:Int)=v<;>simp[h]
theorem LI (v:Int)(w:World):
 Calls Tryz.prog 84 #[ah v] w λe w'=>e=.returned (ar (decide (0<=v/\v<=12)))/\Bw w w':=by
 have Hb:Hid (Bw w w):=Below.refl _ _;go_enter Tryz.func84,Tryz.ntmps84;by_cases h1:0<=v
 . by_cases h2:v<=12
   . go_wp2;refine bodyPost_ret (results_tmp rfl _ _ _) rfl ⟨?_,Hb.out⟩;simp[h2];omega
   . go_wp2;refine bodyPost_ret (results_tmp rfl _ _ _) rfl ⟨?_,Hb.out⟩;simp[h2]
 . go_wp2;refine bodyPost_ret (results_tmp rfl _ _ _) rfl ⟨?_,Hb.out⟩;simp;omega
end Go.Proofs.YtnjfebkelecgaaaGreatDoor
namespace Go.Proofs.YtnjfebkelecgaaaGreatDoor
end Go.Proofs.YtnjfebkelecgaaaGreatDoor
