/- Package dyad: Make,Form,Sign,Shift,Of,Neg,Abs. -/
import Derived.Test.YtoopepmmepmfnaaGreatDoorZ7
import Derived.Test.YtoopepmmepmfnaaGreatDoorZ8
import Derived.Test.YtoopepmmepmfnaaGreatDoorZ6
import Derived.Test.YtoopepmmepmfnaaGreatDoorZ1
set_option linter.unusedVariables false
set_option linter.unusedSimpArgs false
set_option maxRecDepth 100000
set_option maxHeartbeats 16000000
namespace Go.Proofs.YtoopepmmepmfnaaGreatDoor
open Go.RowKit
attribute [local go_sem ↓] Go.wp_at_zero Go.wp_at_succ
abbrev bL (d:Dyadic):Value:=.agg #[ag (au (dN d)),ah (nt (dN d).natAbs),af (dE d)]
theorem aiw :(⟨#[]⟩:ByteArray)=bs []:=rfl
theorem aqr (s:Bool)(l:List UInt8)(n:Nat)(Z:Int)(hZ:iv s l/2^n=Z)(w:World)(hl:l.length<=34359738368)(hn:n<=549755813888)(hT:aH w):
 Calls Tryz.prog 38 #[.agg #[ag s,ah l],af (-(n:Int))] w λe w'=>e=.returned (cX Z)/\Bw w w':=by
 rcases Nat.eq_zero_or_pos n with h|h
 . subst h;subst hZ;have:=Mu s l 0 w zo zo;simpa using this
 . subst hZ;exact adD s l n w hl h zo hT
theorem arv (v k:Nat)(h:v<2^k):tz v<=k:=by
 rcases Nat.eq_zero_or_pos v with h0|h0
 . subst h0;exact Nat.zero_le _
 . obtain⟨m,hm⟩:=adn v h0;rcases Nat.lt_or_ge k (tz v)with h1|h1
   . exfalso
     have h2:=Nat.pow_le_pow_right (show 0<2 by decide) (Nat.le_of_lt h1);have h3:2^tz v<=2^tz v* (2*m+1):=Nat.le_mul_of_pos_right _ zo;omega
   . exact h1
theorem adk (n:Int):tz n.natAbs=n.trailingZeros:=by
 unfold tz;rcases Int.natAbs_eq n with h|h
 . rw[<-h]
 . conv=>rhs;rw[h]
   rw[Int.trailingZeros_neg]
theorem Pg (s:Bool)(l:List UInt8)(e:Int)(h:iv s l=0):az (s,l,e)=0:=by unfold az;simp only[h];exact yq _
theorem Pf (s:Bool)(l:List UInt8)(e:Int)(h:iv s l≠0):dN (az (s,l,e))=iv s l/2^tz (nv l)/\dE (az (s,l,e))=e+(tz (nv l):Int):=by have:=WJ (k:=-e) h;unfold az;rw[show tz (nv l)=(iv s l).trailingZeros by rw[<-pk s l];exact adk _];exact⟨this.1,by rw[this.2];omega⟩
theorem yf (s:Bool)(l:List UInt8)(e:Int)(D:Dyadic)(hD:az (s,l,e)=D)(w:World)(hl:l.length<=34359738368)(he: -1099511627776<=e/\e<=1099511627776)(hT:aH w):
 Calls Tryz.prog 27 #[.agg #[ag s,ah l],af e] w λex w'=>ex=.returned (bL D)/\Bw w w':=by
 have ry:Hid (l.length<=1099511627776):=by show _<=_;omega
 have Eu:Hid (l.length<=68719476736):=by show _<=_;omega
 by_cases h0:iv s l=0
 . have h1:=Pg s l e h0;rw[hD]at h1;subst h1;clear hD;have h2:eQ (iv s l)=0:=by rw[h0];rfl
   have H2:=ai h2;clear h2;have Hv:Hid (bL 0=.agg #[ag false,.string (bs []),af 0]):=rfl;go_enter Tryz.func27,Tryz.ntmps27;have Hb:Hid (Bw w w):=Below.refl _ _;go_wp2_with fail;obtain⟨R,hR⟩:∃R:World->Prop,(λW=>ar W (w.heap.size) 32 [ag s,ah l]/\ar W (w.heap.size+1) 39 [ag false,.string (bs []),af 0]/\Bw w W)=R:=⟨_,rfl⟩;first|refine cf R ?hR ?_|refine bZ R ?hR ?_
   case hR=>subst hR;exact⟨((ar.newAt w _ _ (b:=w.heap.size) rfl).alloc _),(ar.newAt (w.alloc _) _ _ (b:=w.heap.size+1) zm),(zl.alloc zj _)⟩
   subst hR;rintro W ⟨qx,qr,ae⟩;have Hx:=ai qx;clear qx;have Hr:=ai qr;clear qr;obtain⟨x0,x1⟩:=Hx.out.c2;obtain⟨r0,aj,r1,ak,r2,aF⟩:=Hr.out.g3;replace Hb:=aB Hb ae;clear ae;go_wp2_with fail;refine(IJ s l _ ry.out).mono ?_;rintro e w1 ⟨rfl,ae⟩;clear x0 x1 r0 aj r1 ak r2 aF;obtain⟨Hx,x0,x1⟩:=aR Hx ae;obtain⟨Hr,r0,aj,r1,ak,r2,aF⟩:=aN Hr ae;replace Hb:=aB Hb ae;clear ae;rw[H2.out];go_wp2;exact bodyPost_ret (v:=.agg #[ag false,.string (bs []),af 0]) (by simp[results,Tryz.results27,go_sem,r0,r1,r2,aiw]) rfl ⟨by rw[Hv.out],df⟩
 . obtain⟨h1,h2⟩:=Pf s l e h0;rw[hD]at h1 h2;clear hD;have hg0:eQ (iv s l)≠0:=by unfold eQ;split<;>(try split)<;>omega
   have Hg:Hid (∃g,eQ (iv s l)=g/\g≠0):=⟨_,rfl,hg0⟩;obtain⟨g,hg,hg0⟩:=Hg.out;have Hg:=ai hg;clear hg;have hn:tz (nv l)<=549755813888:=Nat.le_trans (arv (nv l) (8*l.length) (by have:=gL l;rwa [show(256:Nat)=2^8 by rfl,<-Nat.pow_mul]at this)) zo;obtain⟨n,hn0⟩:=aG (tz (nv l));rw[hn0]at h1 h2 hn;have rz:=ai hn0;clear hn0;obtain⟨Z,hZ⟩:=aG (dN D);obtain⟨E,hE⟩:=aG (dE D);rw[hZ]at h1;rw[hE]at h2;obtain⟨HZ,HE⟩:=aO hZ hE;clear hZ hE;have H1:=ai h1.symm;clear h1;have hwn:IntKind.i64.wrap (-(n:Int))= -(n:Int):=by rw[IntKind.wrap_i64];omega
   have hwe:IntKind.i64.wrap (e+(n:Int))=E:=by rw[IntKind.wrap_i64];omega
   clear h0 h2;go_enter Tryz.func27,Tryz.ntmps27;have Hb:Hid (Bw w w):=Below.refl _ _;go_wp2_with fail;obtain⟨R,hR⟩:∃R:World->Prop,(λW=>ar W (w.heap.size) 32 [ag s,ah l]/\ar W (w.heap.size+1) 39 [ag false,.string (bs []),af 0]/\Bw w W)=R:=⟨_,rfl⟩;first|refine cf R ?hR ?_|refine bZ R ?hR ?_
   case hR=>subst hR;exact⟨((ar.newAt w _ _ (b:=w.heap.size) rfl).alloc _),(ar.newAt (w.alloc _) _ _ (b:=w.heap.size+1) zm),(zl.alloc zj _)⟩
   subst hR;rintro W ⟨qx,qr,ae⟩;have Hx:=ai qx;clear qx;have Hr:=ai qr;clear qr;obtain⟨x0,x1⟩:=Hx.out.c2;obtain⟨r0,aj,r1,ak,r2,aF⟩:=Hr.out.g3;replace Hb:=aB Hb ae;clear ae;go_wp2_with fail;refine(IJ s l _ ry.out).mono ?_;rintro e w1 ⟨rfl,ae⟩;clear x0 x1 r0 aj r1 ak r2 aF;obtain⟨Hx,x0,x1⟩:=aR Hx ae;obtain⟨Hr,r0,aj,r1,ak,r2,aF⟩:=aN Hr ae;replace Hb:=aB Hb ae;clear ae;rw[Hg.out];have HT:=ai (hT.below Hb.out);go_wp2_with fail;refine(Sn l _ Eu.out HT.out).mono ?_;rintro e w2 ⟨rfl,ae⟩;clear x0 x1 r0 aj r1 ak r2 aF;obtain⟨Hx,x0,x1⟩:=aR Hx ae;obtain⟨Hr,r0,aj,r1,ak,r2,aF⟩:=aN Hr ae;replace Hb:=aB Hb ae;clear ae;rw[rz.out];replace HT:=ai (hT.below Hb.out);go_wp2_with fail;refine(aqr s l n Z H1.out _ hl hn HT.out).mono ?_;rintro e w3 ⟨rfl,ae⟩;clear x0 x1 r0 aj r1 ak r2 aF;obtain⟨Hx,x0,x1⟩:=aR Hx ae;obtain⟨Hr,r0,aj,r1,ak,r2,aF⟩:=aN Hr ae;replace Hb:=aB Hb ae;clear ae;go_wp2;exact bodyPost_ret (v:=.agg #[ag (au Z),ah (nt Z.natAbs),af E]) (by simp[results,Tryz.results27,go_sem,r0,r1,r2]) rfl ⟨by rw[<-HZ.out,<-HE.out],df⟩
theorem Ok.len {s:Bool}{l:List UInt8}{e:Int}(h:Ok (s,l,e)):l.length<=268435456:=h.1
theorem Ok.exp {s:Bool}{l:List UInt8}{e:Int}(h:Ok (s,l,e)): -268435456<=e/\e<=268435456:=h.2
theorem sV (s:Bool)(l:List UInt8)(e:Int)(D:Dyadic)(hD:az (s,l,e)=D)(w:World)(hx:Ok (s,l,e))(hT:aH w):
 Calls Tryz.prog 111 #[.agg #[ag s,ah l,af e]] w λex w'=>ex=.returned (bL D)/\Bw w w':=by
 have HD:=ai hD;clear hD;have h1:=hx.len;have h2:=hx.exp;clear hx;have Hl:Hid (l.length<=34359738368):=by show _<=_;omega
 have He:Hid (-1099511627776<=e/\e<=1099511627776):=by show _/\_;omega
 go_enter Tryz.func111,Tryz.ntmps111;have Hb:Hid (Bw w w):=Below.refl _ _;go_wp2_with fail;obtain⟨R,hR⟩:∃R:World->Prop,(λW=>ar W (w.heap.size) 39 [ag s,ah l,af e]/\ar W (w.heap.size+1) 39 [ag false,.string (bs []),af 0]/\Bw w W)=R:=⟨_,rfl⟩;first|refine cf R ?hR ?_|refine bZ R ?hR ?_
 case hR=>subst hR;exact⟨((ar.newAt w _ _ (b:=w.heap.size) rfl).alloc _),(ar.newAt (w.alloc _) _ _ (b:=w.heap.size+1) zm),(zl.alloc zj _)⟩
 subst hR;rintro W ⟨qx,qr,ae⟩;have Hx:=ai qx;clear qx;have Hr:=ai qr;clear qr;obtain⟨x0,x1,x2⟩:=Hx.out.c3;obtain⟨r0,aj,r1,ak,r2,aF⟩:=Hr.out.g3;replace Hb:=aB Hb ae;clear ae;have HT:=ai (hT.below Hb.out);go_wp2_with fail;refine(yf s l e D HD.out _ Hl.out He.out HT.out).mono ?_;rintro e w1 ⟨rfl,ae⟩;clear x0 x1 x2 r0 aj r1 ak r2 aF;obtain⟨Hx,x0,x1,x2⟩:=aQ Hx ae;obtain⟨Hr,r0,aj,r1,ak,r2,aF⟩:=aN Hr ae;replace Hb:=aB Hb ae;clear ae;go_wp2;exact bodyPost_ret (v:=bL D) (by simp[results,Tryz.results111,go_sem,r0,r1,r2]) rfl ⟨rfl,df⟩
theorem Mh (s:Bool)(l:List UInt8)(e n:Int)(D:Dyadic)(hD:az (s,l,e+n)=D)(w:World)(hx:Ok (s,l,e))(hn: -268435456<=n/\n<=268435456)(hT:aH w):
 Calls Tryz.prog 24 #[.agg #[ag s,ah l,af e],af n] w λex w'=>ex=.returned (bL D)/\Bw w w':=by
 have h1:=hx.len;have h2:=hx.exp;clear hx;obtain⟨z,hz⟩:=aG (e+n);have hwe:IntKind.i64.wrap (e+n)=z:=by rw[IntKind.wrap_i64];omega
 rw[hz]at hD;have HD:=ai hD;clear hD;have Hl:Hid (l.length<=34359738368):=by show _<=_;omega
 have He:Hid (-1099511627776<=z/\z<=1099511627776):=by show _/\_;omega
 clear hz;go_enter Tryz.func24,Tryz.ntmps24;have Hb:Hid (Bw w w):=Below.refl _ _;go_wp2_with fail;obtain⟨R,hR⟩:∃R:World->Prop,(λW=>ar W (w.heap.size) 39 [ag s,ah l,af e]/\ar W (w.heap.size+1) 39 [ag false,.string (bs []),af 0]/\Bw w W)=R:=⟨_,rfl⟩;first|refine cf R ?hR ?_|refine bZ R ?hR ?_
 case hR=>subst hR;exact⟨((ar.newAt w _ _ (b:=w.heap.size) rfl).alloc _),(ar.newAt (w.alloc _) _ _ (b:=w.heap.size+1) zm),(zl.alloc zj _)⟩
 subst hR;rintro W ⟨qx,qr,ae⟩;have Hx:=ai qx;clear qx;have Hr:=ai qr;clear qr;obtain⟨x0,x1,x2⟩:=Hx.out.c3;obtain⟨r0,aj,r1,ak,r2,aF⟩:=Hr.out.g3;replace Hb:=aB Hb ae;clear ae;have HT:=ai (hT.below Hb.out);go_wp2_with fail;refine(yf s l z D HD.out _ Hl.out He.out HT.out).mono ?_;rintro e w1 ⟨rfl,ae⟩;clear x0 x1 x2 r0 aj r1 ak r2 aF;obtain⟨Hx,x0,x1,x2⟩:=aQ Hx ae;obtain⟨Hr,r0,aj,r1,ak,r2,aF⟩:=aN Hr ae;replace Hb:=aB Hb ae;clear ae;go_wp2;exact bodyPost_ret (v:=bL D) (by simp[results,Tryz.results24,go_sem,r0,r1,r2]) rfl ⟨rfl,df⟩
theorem Td (s:Bool)(l:List UInt8)(e:Int):eQ (iv s l)=eQ (dN (az (s,l,e))):=by
 by_cases h0:iv s l=0
 . rw[Pg s l e h0,h0,OU]
 . rw[(Pf s l e h0).1];obtain⟨q,hq⟩:(2:Int)^tz (nv l)∣iv s l:=by rw[show tz (nv l)=(iv s l).trailingZeros by rw[<-pk s l];exact adk _];exact Int.two_pow_trailingZeros_dvd h0
   have hp:(0:Int)<2^tz (nv l):=by
    have:((2^tz (nv l):Nat):Int)>0:=by have:=Nat.pow_pos (n:=tz (nv l)) (show 0<2 by decide);omega
    simpa[Int.natCast_pow]using this
   generalize (2:Int)^tz (nv l)=p at*;rw[hq,Int.mul_ediv_cancel_left _ zo];unfold eQ;rcases Int.lt_trichotomy q 0 with h|h|h
   . have:=Int.mul_neg_of_pos_of_neg hp h;simp only[h,this,if_true]
   . subst h;simp
   . have:=Int.mul_pos hp h;rw[if_neg zo,if_neg zo,if_neg zo,if_neg zo]
abbrev bA (d:Dyadic):Int:=eQ (dN d)
theorem oV (s:Bool)(l:List UInt8)(e:Int)(g:Int)(hg:bA (az (s,l,e))=g)(w:World)(hx:Ok (s,l,e)):
 Calls Tryz.prog 65 #[.agg #[ag s,ah l,af e]] w λex w'=>ex=.returned (af g)/\Bw w w':=by
 have h1:=hx.len;clear hx;have Hg:Hid (eQ (iv s l)=g):=by show _=_;rw[<-hg];exact Td s l e
 have Hl:Hid (l.length<=1099511627776):=by show _<=_;omega
 clear hg;go_enter Tryz.func65,Tryz.ntmps65;have Hb:Hid (Bw w w):=Below.refl _ _;go_wp2_with fail;obtain⟨R,hR⟩:∃R:World->Prop,(λW=>ar W (w.heap.size) 39 [ag s,ah l,af e]/\Bw w W)=R:=⟨_,rfl⟩;first|refine cf R ?hR ?_|refine bZ R ?hR ?_
 case hR=>subst hR;exact⟨(ar.newAt w _ _ (b:=w.heap.size) rfl),zl⟩
 subst hR;rintro W ⟨qx,ae⟩;have Hx:=ai qx;clear qx;obtain⟨x0,x1,x2⟩:=Hx.out.c3;replace Hb:=aB Hb ae;clear ae;go_wp2_with fail;refine(IJ s l _ Hl.out).mono ?_;rintro e w1 ⟨rfl,ae⟩;clear x0 x1 x2;obtain⟨Hx,x0,x1,x2⟩:=aQ Hx ae;replace Hb:=aB Hb ae;clear ae;rw[Hg.out];go_wp2;go_ret;exact⟨rfl,Hb.out⟩
theorem vF (n e:Int):az (au n,nt n.natAbs,e)=Dyadic.ofIntWithPrec n (-e):=by unfold az;simp only[eX]
theorem xj (n:Int)(D:Dyadic)(hD:Dyadic.ofIntWithPrec n 0=D)(w:World)(hn: -9223372036854775808<=n/\n<=9223372036854775807)(hT:aH w):
 Calls Tryz.prog 28 #[af n] w λex w'=>ex=.returned (bL D)/\Bw w w':=by
 obtain⟨N,hN⟩:=aG n;have HD:Hid (az (au N,nt N.natAbs,0)=D):=by show _=_;rw[vF,<-hN];exact hD
 have Hl:Hid ((nt N.natAbs).length<=34359738368):=by
  show _<=_
  exact Nat.le_trans (jr (k:=8) zo) zd
 have HN:=ai hN;clear hN hD;go_enter Tryz.func28,Tryz.ntmps28;have Hb:Hid (Bw w w):=Below.refl _ _;go_wp2_with fail;obtain⟨R,hR⟩:∃R:World->Prop,(λW=>ar W (w.heap.size) 39 [ag false,.string (bs []),af 0]/\Bw w W)=R:=⟨_,rfl⟩;first|refine cf R ?hR ?_|refine bZ R ?hR ?_
 case hR=>subst hR;exact⟨(ar.newAt w _ _ (b:=w.heap.size) rfl),zl⟩
 subst hR;rintro W ⟨qr,ae⟩;have Hr:=ai qr;clear qr;obtain⟨r0,aj,r1,ak,r2,aF⟩:=Hr.out.g3;replace Hb:=aB Hb ae;clear ae;go_wp2_with fail;refine(Mt n N HN.out _ hn.1 hn.2).mono ?_;rintro e w1 ⟨rfl,ae⟩;clear r0 aj r1 ak r2 aF;obtain⟨Hr,r0,aj,r1,ak,r2,aF⟩:=aN Hr ae;replace Hb:=aB Hb ae;clear ae;have HT:=ai (hT.below Hb.out);go_wp2_with fail;refine(yf (au N) (nt N.natAbs) 0 D HD.out _ Hl.out zo HT.out).mono ?_;rintro e w2 ⟨rfl,ae⟩;clear r0 aj r1 ak r2 aF;obtain⟨Hr,r0,aj,r1,ak,r2,aF⟩:=aN Hr ae;replace Hb:=aB Hb ae;clear ae;go_wp2;exact bodyPost_ret (v:=bL D) (by simp[results,Tryz.results28,go_sem,r0,r1,r2]) rfl ⟨rfl,df⟩
theorem OV (s:Bool)(l:List UInt8)(e:Int)(D:Dyadic)(hD: -az (s,l,e)=D)(w:World)(hx:Ok (s,l,e))(hT:aH w):
 Calls Tryz.prog 148 #[.agg #[ag s,ah l,af e]] w λex w'=>ex=.returned (bL D)/\Bw w w':=by
 have h1:=hx.len;have h2:=hx.exp;clear hx;obtain⟨N,hN⟩:=aG (-(iv s l));have HD:Hid (az (au N,nt N.natAbs,e)=D):=by
  show _=_
  rw[vF,<-hN,<-hD];unfold az;rw[Ii]
 have Hl:Hid ((nt N.natAbs).length<=34359738368):=by show _<=_;rw[<-hN];exact Ic s l _ zo
 have ry:Hid (l.length<=1099511627776):=by show _<=_;omega
 have He:Hid (-1099511627776<=e/\e<=1099511627776):=by show _/\_;omega
 have HN:=ai hN;clear hN hD;go_enter Tryz.func148,Tryz.ntmps148;have Hb:Hid (Bw w w):=Below.refl _ _;go_wp2_with fail;obtain⟨R,hR⟩:∃R:World->Prop,(λW=>ar W (w.heap.size) 39 [ag s,ah l,af e]/\ar W (w.heap.size+1) 39 [ag false,.string (bs []),af 0]/\Bw w W)=R:=⟨_,rfl⟩;first|refine cf R ?hR ?_|refine bZ R ?hR ?_
 case hR=>subst hR;exact⟨((ar.newAt w _ _ (b:=w.heap.size) rfl).alloc _),(ar.newAt (w.alloc _) _ _ (b:=w.heap.size+1) zm),(zl.alloc zj _)⟩
 subst hR;rintro W ⟨qx,qr,ae⟩;have Hx:=ai qx;clear qx;have Hr:=ai qr;clear qr;obtain⟨x0,x1,x2⟩:=Hx.out.c3;obtain⟨r0,aj,r1,ak,r2,aF⟩:=Hr.out.g3;replace Hb:=aB Hb ae;clear ae;refine bR (λw'=>aC w' (w.heap.size) 0 (ag s)/\aC w' (w.heap.size) 1 (ah l)/\aC w' (w.heap.size) 2 (af e)) (λi=>Nat.blt i 6) [(0,true),(1,true),(3,true),(4,true),(2,false),(5,false),(6,false)] zk zk rfl zk zc ⟨x0,x1,x2⟩ ?_;iterate 4 (refine pT rfl rfl ?_ (by intro w' ⟨q0,q1,q2⟩;go_simp;try with_reducible rfl))
 refine aI rfl rfl (λK hK=>?_);go_simp;with_reducible refine(Ms s l N HN.out _ ry.out).mono ?_
 rintro e w1 ⟨rfl,hq⟩;have ae:Bw W w1:=by first|exact hq|exact aW hq
 clear x0 x1 x2 r0 aj r1 ak r2 aF;obtain⟨Hx,x0,x1,x2⟩:=aQ Hx ae;obtain⟨Hr,r0,aj,r1,ak,r2,aF⟩:=aN Hr ae;replace Hb:=aB Hb ae;clear ae;refine hK _ _ (λ_=>⟨x0,x1,x2⟩) ?_;clear hK K
 refine aI rfl rfl (λK hK=>?_);go_simp;with_reducible refine(yf (au N) (nt N.natAbs) e D HD.out _ Hl.out He.out (hT.below Hb.out)).mono ?_
 rintro e w2 ⟨rfl,hq⟩;have ae:Bw w1 w2:=by first|exact hq|exact aW hq
 clear x0 x1 x2 r0 aj r1 ak r2 aF;obtain⟨Hx,x0,x1,x2⟩:=aQ Hx ae;obtain⟨Hr,r0,aj,r1,ak,r2,aF⟩:=aN Hr ae;replace Hb:=aB Hb ae;clear ae;refine hK _ _ (λ_=>⟨x0,x1,x2⟩) ?_;clear hK K
 refine aI rfl rfl (λK hK=>?_);go_simp;refine hK _ _ (λh=>absurd h zd) ?_;clear hK K
 clear x0 x1 x2 r0 aj r1 ak r2 aF;refine bV (bC w2 (w.heap.size+1) 0 [ag (au (dN D)),ah (nt (dN D).natAbs),af (dE D)]) bJ ?_;intro w3 hs;replace Hx:=kS Hx hs zo;replace Hr:=bP Hr hs;obtain⟨x0,x1,x2⟩:=Hx.out.c3;obtain⟨r0,aj,r1,ak,r2,aF⟩:=Hr.out.g3;replace Hb:=bS Hb hs ZS;clear hs;simp only[bi];go_wp2;exact bodyPost_ret (v:=bL D) (by simp[results,Tryz.results148,go_sem,r0,r1,r2]) rfl ⟨rfl,df⟩
theorem aH.drew {w:World}(h:aH w):aH w.drew:=h
theorem aH.alloc {w:World}(h:aH w)(o:Obj):aH (w.alloc o):=λj hj=>aL (h j hj)
def om (v k:Int):Int:=if 0<=k then v*2^k.toNat else v/2^(-k).toNat
theorem arO (s:Bool)(l:List UInt8)(k Z:Int)(hZ:om (iv s l) k=Z)(w:World)(hl:l.length<=34359738368)(hk: -549755813888<=k/\k<=549755813888)(hT:aH w):
 Calls Tryz.prog 38 #[.agg #[ag s,ah l],af k] w λe w'=>e=.returned (cX Z)/\Bw w w':=by
 subst hZ;unfold om;split
 . rename_i h
   have:=Mu s l k.toNat w zo zo;rw[Int.toNat_of_nonneg h]at this;exact this
 . rename_i h
   have:=adD s l (-k).toNat w hl zo zo hT;rw[Int.toNat_of_nonneg zo,Int.neg_neg]at this;exact this
theorem Dg (s:Bool)(l:List UInt8)(e g Z:Int)(hZ:om (iv s l) (e-g)=Z)(w:World)(hl:l.length<=34359738368)(hk: -549755813888<=e-g/\e-g<=549755813888)(hT:aH w):
 Calls Tryz.prog 112 #[af g,.agg #[ag s,ah l,af e]] w λe w'=>e=.returned (cX Z)/\Bw w w':=by
 obtain⟨k,fY⟩:=aG (e-g);have hwe:IntKind.i64.wrap (e-g)=k:=by rw[IntKind.wrap_i64];omega
 rw[fY]at hZ hk;have HZ:=ai hZ;clear hZ fY;go_enter Tryz.func112,Tryz.ntmps112;have Hb:Hid (Bw w w):=Below.refl _ _;go_wp2_with fail;obtain⟨R,hR⟩:∃R:World->Prop,(λW=>ar W (w.heap.size) 39 [ag s,ah l,af e]/\ar W (w.heap.size+1) 32 [ag false,.string (bs [])]/\Bw w W)=R:=⟨_,rfl⟩;first|refine cf R ?hR ?_|refine bZ R ?hR ?_
 case hR=>subst hR;exact⟨((ar.newAt w _ _ (b:=w.heap.size) rfl).alloc _),(ar.newAt (w.alloc _) _ _ (b:=w.heap.size+1) zm),(zl.alloc zj _)⟩
 subst hR;rintro W ⟨qx,qr,ae⟩;have Hx:=ai qx;clear qx;have Hr:=ai qr;clear qr;obtain⟨x0,x1,x2⟩:=Hx.out.c3;obtain⟨r0,aj,r1,ak⟩:=Hr.out.g2;replace Hb:=aB Hb ae;clear ae;have HT:=ai (hT.below Hb.out);go_wp2_with fail;refine(arO s l k Z HZ.out _ hl hk HT.out).mono ?_;rintro e w1 ⟨rfl,ae⟩;clear x0 x1 x2 r0 aj r1 ak;obtain⟨Hx,x0,x1,x2⟩:=aQ Hx ae;obtain⟨Hr,r0,aj,r1,ak⟩:=bE Hr ae;replace Hb:=aB Hb ae;clear ae;go_wp2;exact bodyPost_ret (v:=cX Z) (by simp[results,Tryz.results112,go_sem,r0,r1]) rfl ⟨rfl,df⟩
def uJ (A B:Dyadic):Int:=if A=0 then dE B else if B=0 then dE A else min (dE A) (dE B)
theorem uQ (A:Dyadic):A=Dyadic.ofIntWithPrec (dN A) (-(dE A)):=by have:=bD A;unfold az canon at this;simp only[eX]at this;exact this.symm
theorem ab7 (A:Dyadic)(g:Int)(h:A=0\/g<=dE A):A=Dyadic.ofIntWithPrec (om (dN A) (dE A-g)) (-g):=by
 rcases h with h|h
 . subst h;have:om (dN 0) (dE 0-g)=0:=by unfold om;rw[OU];split<;>simp
   rw[this,yq]
 . unfold om;rw[if_pos zo];have:=tO (dN A) (dE A-g).toNat (-(dE A));rw[show-(dE A)+((dE A-g).toNat:Int)= -g by omega]at this;rw[this];exact uQ A
theorem anj (A B:Dyadic):(A=0\/uJ A B<=dE A)/\(B=0\/uJ A B<=dE B):=by
 unfold uJ;split
 . exact⟨.inl ‹_›,.inr zo⟩
 . split
   . exact⟨.inr zo,.inl ‹_›⟩
   . exact⟨.inr zo,.inr zo⟩
theorem abU {A:Dyadic}:A=0\/((nt (dN A).natAbs)≠[]/\A≠0):=by
 by_cases h:A=0
 . exact .inl h
 . refine .inr ⟨?_,h⟩;intro h2;apply h;have:(dN A).natAbs=0:=by rw[<-jJ (dN A).natAbs,h2];rfl
   rw[uQ A,show dN A=0 by omega,yq]
theorem Ok.parts {x:Raw}(h:Ok x):(nt (dN (az x)).natAbs).length<=1073741824/\ -4294967296<=dE (az x)/\dE (az x)<=4294967296:=by obtain⟨B,hB,hs⟩:∃B,B<=4294967296/\Sm B (az x):=⟨4294967296,Nat.le_refl _,h.sm⟩;obtain⟨h1,h2,h3⟩:=hs.parts;exact⟨jS h1 zo,by clear h1;omega,by clear h1;omega⟩
theorem aa5 (s:Bool)(l:List UInt8)(e:Int)(t:Bool)(m:List UInt8)(f:Int)(A B:Dyadic)(hA:az (s,l,e)=A)(hB:az (t,m,f)=B)(g X Y:Int)(hg:uJ A B=g)(hX:om (dN A) (dE A-g)=X)(hY:om (dN B) (dE B-g)=Y)
 (w:World) (hx:Ok (s,l,e)) (hy:Ok (t,m,f)) (hT:aH w):
 Calls Tryz.prog 66 #[.agg #[ag s,ah l,af e],.agg #[ag t,ah m,af f]] w λex w'=>ex=.returned (.agg #[af g,ag (au X),ah (nt X.natAbs),ag (au Y),ah (nt Y.natAbs)])/\Bw w w':=by
 have pA:=hx.parts;rw[hA]at pA;have pB:=hy.parts;rw[hB]at pB;obtain⟨HA,HB⟩:=aO hA hB;clear hA hB;obtain⟨a,ha⟩:=aG (nt (dN A).natAbs);obtain⟨p,hp⟩:=aG (au (dN A));obtain⟨i,hi⟩:=aG (dE A);obtain⟨b,hb⟩:=aG (nt (dN B).natAbs);obtain⟨q,hq⟩:=aG (au (dN B));obtain⟨j,hj⟩:=aG (dE B);have pX:om (iv p a) (i-g)=X:=by rw[<-hp,<-ha,eX,<-hi];exact hX
 have Yz:om (iv q b) (j-g)=Y:=by rw[<-hq,<-hb,eX,<-hj];exact hY
 have UJ:Hid (∀W,aH W->Calls Tryz.prog 111 #[.agg #[ag s,ah l,af e]] W λex w'=>ex=.returned (.agg #[ag p,ah a,af i])/\Bw W w'):=by intro W hW;rw[<-hp,<-ha,<-hi];exact sV s l e A HA.out W hx hW
 have UK:Hid (∀W,aH W->Calls Tryz.prog 111 #[.agg #[ag t,ah m,af f]] W λex w'=>ex=.returned (.agg #[ag q,ah b,af j])/\Bw W w'):=by intro W hW;rw[<-hq,<-hb,<-hj];exact sV t m f B HB.out W hy hW
 have hlv:(A=0/\g=j)\/(A≠0/\B=0/\g=i)\/(A≠0/\B≠0/\g=min i j):=by
  rw[<-hg];unfold uJ;by_cases h1:A=0
  . simp[h1,hj]
  . by_cases h2:B=0<;>simp[h1,h2,hi,hj]
 rw[ha,hi]at pA;rw[hb,hj]at pB;have zA:A=0->(p=false/\a=[]/\i=0):=by rintro rfl;exact⟨hp.symm,ha.symm,hi.symm⟩
 have zB:B=0->(q=false/\b=[]/\j=0):=by rintro rfl;exact⟨hq.symm,hb.symm,hj.symm⟩
 have nA:A≠0->a≠[]:=by intro h;rw[<-ha];rcases abU (A:=A)with h2|h2;exact absurd h2 h;exact h2.1
 have nB:B≠0->b≠[]:=by intro h;rw[<-hb];rcases abU (A:=B)with h2|h2;exact absurd h2 h;exact h2.1
 have Zl: -549755813888<=i-g/\i-g<=549755813888:=by rcases hlv with⟨_,h⟩ |⟨_,_,h⟩ |⟨_,_,h⟩<;>omega
 have Zm: -549755813888<=j-g/\j-g<=549755813888:=by rcases hlv with⟨_,h⟩ |⟨_,_,h⟩ |⟨_,_,h⟩<;>omega
 obtain⟨HX,HY⟩:=aO pX Yz;have La:Hid (a.length<=34359738368):=by show _<=_;omega
 have Lb:Hid (b.length<=34359738368):=by show _<=_;omega
 obtain⟨Nn,Np⟩:=aO Zl Zm;clear pX Yz hX hY hg ha hp hi hb hq hj Zl Zm HA HB hx hy;go_enter Tryz.func66,Tryz.ntmps66;have Hb:Hid (Bw w w):=Below.refl _ _;go_wp2_with fail;obtain⟨R,hR⟩:∃R:World->Prop,(λW=>ar W (w.heap.size) 39 [ag s,ah l,af e]/\ar W (w.heap.size+1) 39 [ag t,ah m,af f]/\ar W (w.heap.size+1+1) 100 [af 0,ag false,.string (bs []),ag false,.string (bs [])]/\Bw w W)=R:=⟨_,rfl⟩;first|refine cf R ?hR ?_|refine bZ R ?hR ?_
 case hR=>subst hR;exact⟨(((ar.newAt w _ _ (b:=w.heap.size) rfl).alloc _).alloc _),((ar.newAt (w.alloc _) _ _ (b:=w.heap.size+1) zm).alloc _),(ar.newAt ((w.alloc _).alloc _) _ _ (b:=w.heap.size+1+1) zm),((zl.alloc zj _).alloc zj _)⟩
 subst hR;rintro W ⟨qx,qy,qr,ae⟩;have Hx:=ai qx;clear qx;have Hy:=ai qy;clear qy;have Hr:=ai qr;clear qr;obtain⟨x0,aY,x1,aZ,x2,bj⟩:=Hx.out.g3;obtain⟨y0,aS,y1,aV,y2,bo⟩:=Hy.out.g3;obtain⟨r0,aj,r1,ak,r2,aF,r3,cj,r4,cB⟩:=Hr.out.g5;replace Hb:=aB Hb ae;clear ae;have HT:=ai (hT.below Hb.out);refine bR (λw'=>aC w' (w.heap.size) 0 (ag s)/\aC w' (w.heap.size) 1 (ah l)/\aC w' (w.heap.size) 2 (af e)/\aC w' (w.heap.size+1) 0 (ag t)/\aC w' (w.heap.size+1) 1 (ah m)/\aC w' (w.heap.size+1) 2 (af f)) (λi=>Nat.blt i 4) [(0,true),(2,true),(1,false),(3,false),(4,false),(5,false)] zk zk rfl zk zc ⟨x0,x1,x2,y0,y1,y2⟩ ?_;iterate 2 (refine pT rfl rfl ?_ (by intro w' ⟨q0,q1,q2,q3,q4,q5⟩;go_simp;try with_reducible rfl))
 refine aI rfl rfl (λK hK=>?_);go_simp;with_reducible refine(UJ.out _ (by first|exact HT.out|exact aH.drew HT.out|exact aH.alloc HT.out _|exact aH.drew (aH.alloc HT.out _) |exact aH.alloc (aH.drew HT.out) _)).mono ?_
 rintro e w1 ⟨rfl,hq⟩;have ae:Bw W w1:=by first|exact hq|exact aW hq
 clear x0 aY x1 aZ x2 bj y0 aS y1 aV y2 bo r0 aj r1 ak r2 aF r3 cj r4 cB;obtain⟨Hx,x0,aY,x1,aZ,x2,bj⟩:=aN Hx ae;obtain⟨Hy,y0,aS,y1,aV,y2,bo⟩:=aN Hy ae;replace Hr:=kB Hr ae;obtain⟨r0,aj,r1,ak,r2,aF,r3,cj,r4,cB⟩:=Hr.out.g5;replace Hb:=aB Hb ae;clear ae;refine hK _ _ (λ_=>⟨x0,x1,x2,y0,y1,y2⟩) ?_;clear hK K
 refine aI rfl rfl (λK hK=>?_);go_simp;with_reducible refine(UK.out _ (by first|exact(hT.below Hb.out) |exact aH.drew (hT.below Hb.out) |exact aH.alloc (hT.below Hb.out) _|exact aH.drew (aH.alloc (hT.below Hb.out) _) |exact aH.alloc (aH.drew (hT.below Hb.out)) _)).mono ?_
 rintro e w2 ⟨rfl,hq⟩;have ae:Bw w1 w2:=by first|exact hq|exact aW hq
 clear x0 aY x1 aZ x2 bj y0 aS y1 aV y2 bo r0 aj r1 ak r2 aF r3 cj r4 cB;obtain⟨Hx,x0,aY,x1,aZ,x2,bj⟩:=aN Hx ae;obtain⟨Hy,y0,aS,y1,aV,y2,bo⟩:=aN Hy ae;replace Hr:=kB Hr ae;obtain⟨r0,aj,r1,ak,r2,aF,r3,cj,r4,cB⟩:=Hr.out.g5;replace Hb:=aB Hb ae;clear ae;refine hK _ _ (λ_=>⟨x0,x1,x2,y0,y1,y2⟩) ?_;clear hK K
 refine aI rfl rfl (λK hK=>?_);go_simp;refine hK _ _ (λh=>absurd h zd) ?_;clear hK K
 clear x0 aY x1 aZ x2 bj y0 aS y1 aV y2 bo r0 aj r1 ak r2 aF r3 cj r4 cB;refine bV (bC w2 (w.heap.size) 0 [ag p,ah a,af i]) bJ ?_;intro w3 hs;replace Hx:=bP Hx hs;replace Hy:=kS Hy hs zo;replace Hr:=kS Hr hs zo;obtain⟨x0,aY,x1,aZ,x2,bj⟩:=Hx.out.g3;obtain⟨y0,aS,y1,aV,y2,bo⟩:=Hy.out.g3;obtain⟨r0,aj,r1,ak,r2,aF,r3,cj,r4,cB⟩:=Hr.out.g5;replace Hb:=bS Hb hs ZS;clear hs;refine aI rfl rfl (λK hK=>?_);go_simp;refine hK _ _ (λh=>absurd h zd) ?_;clear hK K
 clear x0 aY x1 aZ x2 bj y0 aS y1 aV y2 bo r0 aj r1 ak r2 aF r3 cj r4 cB;refine bV (bC w3 (w.heap.size+1) 0 [ag q,ah b,af j]) bJ ?_;intro w4 hs;replace Hx:=kS Hx hs zo;replace Hy:=bP Hy hs;replace Hr:=kS Hr hs zo;obtain⟨x0,aY,x1,aZ,x2,bj⟩:=Hx.out.g3;obtain⟨y0,aS,y1,aV,y2,bo⟩:=Hy.out.g3;obtain⟨r0,aj,r1,ak,r2,aF,r3,cj,r4,cB⟩:=Hr.out.g5;replace Hb:=bS Hb hs ZS;clear hs;simp only[bi];have EF:=Hr;clear x0 x1 x2 aY aZ bj y0 y1 y2 aS aV bo r0 r1 r2 r3 r4 aj ak aF cj cB HT UJ UK;rcases hlv with⟨h1,h2⟩ |⟨h1,h3,h2⟩ |⟨h1,h3,h2⟩
 . obtain⟨rfl,rfl,rfl⟩:=zA h1;subst h2;have z1:(bs []).toList=[]:=gu _;clear zA zB nA nB pA pB;obtain⟨x0,aY,x1,aZ,x2,bj⟩:=Hx.out.g3;obtain⟨y0,aS,y1,aV,y2,bo⟩:=Hy.out.g3;obtain⟨r0,aj,r1,ak,r2,aF,r3,cj,r4,cB⟩:=Hr.out.g5;have Da:=Hx.out.lt;have abw:=Hy.out.lt;have Ia:=Hr.out.lt;go_wp2_with fail;obtain⟨R,hR⟩:∃R:World->Prop,(λW5=>ar W5 (w4.heap.size) 100 [af g,ag false,.string (bs []),ag false,.string (bs [])]/\Bw w4 W5)=R:=⟨_,rfl⟩;first|refine cf R ?hR ?_|refine bZ R ?hR ?_
   case hR=>subst hR;exact⟨(ar.newAt w4 _ _ (b:=w4.heap.size) rfl),zl⟩
   subst hR;rintro W5 ⟨qn,ae⟩;have Hn:=ai qn;clear qn x0 aY x1 aZ x2 bj;obtain⟨Hx,x0,aY,x1,aZ,x2,bj⟩:=aN Hx ae;clear y0 aS y1 aV y2 bo;obtain⟨Hy,y0,aS,y1,aV,y2,bo⟩:=aN Hy ae;clear r0 aj r1 ak r2 aF r3 cj r4 cB;replace Hr:=kB Hr ae;obtain⟨r0,aj,r1,ak,r2,aF,r3,cj,r4,cB⟩:=Hr.out.g5;obtain⟨n0,gv,n1,gw,n2,gy,n3,ij,n4,ik⟩:=Hn.out.g5;replace Hb:=aB Hb ae;clear ae;have hns:w.heap.size+1+1<w4.heap.size:=EF.out.lt;refine bR (λw'=>aC w' (w.heap.size) 0 (ag false)/\aC w' (w.heap.size) 1 (.string (bs []))/\aC w' (w.heap.size) 2 (af 0)/\aC w' (w.heap.size+1) 0 (ag q)/\aC w' (w.heap.size+1) 1 (ah b)/\aC w' (w.heap.size+1) 2 (af g)/\aC w' (w4.heap.size) 0 (af g)) (λi=>Nat.blt i 11) [(0,true),(1,true),(2,true),(4,true),(5,true),(6,true),(3,false),(8,true),(7,false),(9,false),(10,true),(11,false)] zk zk rfl zk zc ⟨x0,x1,x2,y0,y1,y2,n0⟩ ?_;iterate 6 (refine pT rfl rfl ?_ (by intro w' ⟨q0,q1,q2,q3,q4,q5,q6⟩;go_simp;try with_reducible rfl))
   refine aI rfl rfl (λK hK=>?_);go_simp;with_reducible refine(Dg false [] 0 g X HX.out _ La.out Nn.out (by first|exact(hT.below Hb.out) |exact aH.drew (hT.below Hb.out) |exact aH.alloc (hT.below Hb.out) _|exact aH.drew (aH.alloc (hT.below Hb.out) _) |exact aH.alloc (aH.drew (hT.below Hb.out)) _)).mono ?_
   rintro e w6 ⟨rfl,hq⟩;have ae:Bw W5 w6:=by first|exact hq|exact aW hq
   clear x0 aY x1 aZ x2 bj y0 aS y1 aV y2 bo r0 aj r1 ak r2 aF r3 cj r4 cB n0 gv n1 gw n2 gy n3 ij n4 ik;obtain⟨Hx,x0,aY,x1,aZ,x2,bj⟩:=aN Hx ae;obtain⟨Hy,y0,aS,y1,aV,y2,bo⟩:=aN Hy ae;replace Hr:=kB Hr ae;replace Hn:=kB Hn ae;obtain⟨r0,aj,r1,ak,r2,aF,r3,cj,r4,cB⟩:=Hr.out.g5;obtain⟨n0,gv,n1,gw,n2,gy,n3,ij,n4,ik⟩:=Hn.out.g5;replace Hb:=aB Hb ae;clear ae;refine hK _ _ (λ_=>⟨x0,x1,x2,y0,y1,y2,n0⟩) ?_;clear hK K
   refine pT rfl rfl ?_
   refine aI rfl rfl (λK hK=>?_);go_simp;with_reducible refine(Dg q b g g Y HY.out _ Lb.out Np.out (by first|exact(hT.below Hb.out) |exact aH.drew (hT.below Hb.out) |exact aH.alloc (hT.below Hb.out) _|exact aH.drew (aH.alloc (hT.below Hb.out) _) |exact aH.alloc (aH.drew (hT.below Hb.out)) _)).mono ?_
   rintro e w7 ⟨rfl,hq⟩;have ae:Bw w6 w7:=by first|exact hq|exact aW hq
   clear x0 aY x1 aZ x2 bj y0 aS y1 aV y2 bo r0 aj r1 ak r2 aF r3 cj r4 cB n0 gv n1 gw n2 gy n3 ij n4 ik;obtain⟨Hx,x0,aY,x1,aZ,x2,bj⟩:=aN Hx ae;obtain⟨Hy,y0,aS,y1,aV,y2,bo⟩:=aN Hy ae;replace Hr:=kB Hr ae;replace Hn:=kB Hn ae;obtain⟨r0,aj,r1,ak,r2,aF,r3,cj,r4,cB⟩:=Hr.out.g5;obtain⟨n0,gv,n1,gw,n2,gy,n3,ij,n4,ik⟩:=Hn.out.g5;replace Hb:=aB Hb ae;clear ae;refine hK _ _ (λ_=>⟨x0,x1,x2,y0,y1,y2,n0⟩) ?_;clear hK K
   refine aI rfl rfl (λK hK=>?_);go_simp;refine hK _ _ (λ_=>⟨(aK zf (aK zf x0)),(aK zf (aK zf x1)),(aK zf (aK zf x2)),(aK zf (aK zf y0)),(aK zf (aK zf y1)),(aK zf (aK zf y2)),(aK zf (aK zf n0))⟩) ?_;clear hK K
   clear x0 aY x1 aZ x2 bj y0 aS y1 aV y2 bo r0 aj r1 ak r2 aF r3 cj r4 cB n0 gv n1 gw n2 gy n3 ij n4 ik;refine bV (bC w7 (w4.heap.size) 1 [ag (au X),ah (nt X.natAbs)]) bJ ?_;intro w8 hs;replace Hx:=kS Hx hs zo;replace Hy:=kS Hy hs zo;replace Hr:=kS Hr hs zo;replace Hn:Hid (ar w8 (w4.heap.size) 100 [af g,ag (au X),ah (nt X.natAbs),ag false,.string (bs [])]):=Ax Hn hs;obtain⟨x0,aY,x1,aZ,x2,bj⟩:=Hx.out.g3;obtain⟨y0,aS,y1,aV,y2,bo⟩:=Hy.out.g3;obtain⟨r0,aj,r1,ak,r2,aF,r3,cj,r4,cB⟩:=Hr.out.g5;obtain⟨n0,gv,n1,gw,n2,gy,n3,ij,n4,ik⟩:=Hn.out.g5;replace Hb:=bS Hb hs ZS;clear hs;refine pT rfl rfl ?_
   refine aI rfl rfl (λK hK=>?_);go_simp;refine hK _ _ (λh=>absurd h zd) ?_;clear hK K
   clear x0 aY x1 aZ x2 bj y0 aS y1 aV y2 bo r0 aj r1 ak r2 aF r3 cj r4 cB n0 gv n1 gw n2 gy n3 ij n4 ik;refine bV (bC w8 (w4.heap.size) 3 [ag (au Y),ah (nt Y.natAbs)]) bJ ?_;intro w9 hs;replace Hx:=kS Hx hs zo;replace Hy:=kS Hy hs zo;replace Hr:=kS Hr hs zo;replace Hn:Hid (ar w9 (w4.heap.size) 100 [af g,ag (au X),ah (nt X.natAbs),ag (au Y),ah (nt Y.natAbs)]):=Ax Hn hs;obtain⟨x0,aY,x1,aZ,x2,bj⟩:=Hx.out.g3;obtain⟨y0,aS,y1,aV,y2,bo⟩:=Hy.out.g3;obtain⟨r0,aj,r1,ak,r2,aF,r3,cj,r4,cB⟩:=Hr.out.g5;obtain⟨n0,gv,n1,gw,n2,gy,n3,ij,n4,ik⟩:=Hn.out.g5;replace Hb:=bS Hb hs ZS;clear hs;simp only[bi];go_wp2;exact bodyPost_ret (v:=.agg #[af g,ag (au X),ah (nt X.natAbs),ag (au Y),ah (nt Y.natAbs)]) (by simp[results,Tryz.results66,go_sem,r0,r1,r2,r3,r4]) rfl ⟨rfl,df⟩
 . obtain⟨rfl,rfl,rfl⟩:=zB h3;subst h2;have z1:(bs []).toList=[]:=gu _;have z2:¬(bs a).toList=[]:=by rw[gu];exact nA h1
   clear zA zB nA nB pA pB;obtain⟨x0,aY,x1,aZ,x2,bj⟩:=Hx.out.g3;obtain⟨y0,aS,y1,aV,y2,bo⟩:=Hy.out.g3;obtain⟨r0,aj,r1,ak,r2,aF,r3,cj,r4,cB⟩:=Hr.out.g5;have Da:=Hx.out.lt;have abw:=Hy.out.lt;have Ia:=Hr.out.lt;go_wp2_with fail;obtain⟨R,hR⟩:∃R:World->Prop,(λW5=>ar W5 (w4.heap.size) 100 [af g,ag false,.string (bs []),ag false,.string (bs [])]/\Bw w4 W5)=R:=⟨_,rfl⟩;first|refine cf R ?hR ?_|refine bZ R ?hR ?_
   case hR=>subst hR;exact⟨(ar.newAt w4 _ _ (b:=w4.heap.size) rfl),zl⟩
   subst hR;rintro W5 ⟨qn,ae⟩;have Hn:=ai qn;clear qn x0 aY x1 aZ x2 bj;obtain⟨Hx,x0,aY,x1,aZ,x2,bj⟩:=aN Hx ae;clear y0 aS y1 aV y2 bo;obtain⟨Hy,y0,aS,y1,aV,y2,bo⟩:=aN Hy ae;clear r0 aj r1 ak r2 aF r3 cj r4 cB;replace Hr:=kB Hr ae;obtain⟨r0,aj,r1,ak,r2,aF,r3,cj,r4,cB⟩:=Hr.out.g5;obtain⟨n0,gv,n1,gw,n2,gy,n3,ij,n4,ik⟩:=Hn.out.g5;replace Hb:=aB Hb ae;clear ae;have hns:w.heap.size+1+1<w4.heap.size:=EF.out.lt;refine bR (λw'=>aC w' (w.heap.size) 0 (ag p)/\aC w' (w.heap.size) 1 (ah a)/\aC w' (w.heap.size) 2 (af g)/\aC w' (w.heap.size+1) 0 (ag false)/\aC w' (w.heap.size+1) 1 (.string (bs []))/\aC w' (w.heap.size+1) 2 (af 0)/\aC w' (w4.heap.size) 0 (af g)) (λi=>Nat.blt i 11) [(0,true),(1,true),(2,true),(4,true),(5,true),(6,true),(3,false),(8,true),(7,false),(9,false),(10,true),(11,false)] zk zk rfl zk zc ⟨x0,x1,x2,y0,y1,y2,n0⟩ ?_;iterate 6 (refine pT rfl rfl ?_ (by intro w' ⟨q0,q1,q2,q3,q4,q5,q6⟩;go_simp;try with_reducible rfl))
   refine aI rfl rfl (λK hK=>?_);go_simp;with_reducible refine(Dg p a g g X HX.out _ La.out Nn.out (by first|exact(hT.below Hb.out) |exact aH.drew (hT.below Hb.out) |exact aH.alloc (hT.below Hb.out) _|exact aH.drew (aH.alloc (hT.below Hb.out) _) |exact aH.alloc (aH.drew (hT.below Hb.out)) _)).mono ?_
   rintro e w6 ⟨rfl,hq⟩;have ae:Bw W5 w6:=by first|exact hq|exact aW hq
   clear x0 aY x1 aZ x2 bj y0 aS y1 aV y2 bo r0 aj r1 ak r2 aF r3 cj r4 cB n0 gv n1 gw n2 gy n3 ij n4 ik;obtain⟨Hx,x0,aY,x1,aZ,x2,bj⟩:=aN Hx ae;obtain⟨Hy,y0,aS,y1,aV,y2,bo⟩:=aN Hy ae;replace Hr:=kB Hr ae;replace Hn:=kB Hn ae;obtain⟨r0,aj,r1,ak,r2,aF,r3,cj,r4,cB⟩:=Hr.out.g5;obtain⟨n0,gv,n1,gw,n2,gy,n3,ij,n4,ik⟩:=Hn.out.g5;replace Hb:=aB Hb ae;clear ae;refine hK _ _ (λ_=>⟨x0,x1,x2,y0,y1,y2,n0⟩) ?_;clear hK K
   refine pT rfl rfl ?_
   refine aI rfl rfl (λK hK=>?_);go_simp;with_reducible refine(Dg false [] 0 g Y HY.out _ Lb.out Np.out (by first|exact(hT.below Hb.out) |exact aH.drew (hT.below Hb.out) |exact aH.alloc (hT.below Hb.out) _|exact aH.drew (aH.alloc (hT.below Hb.out) _) |exact aH.alloc (aH.drew (hT.below Hb.out)) _)).mono ?_
   rintro e w7 ⟨rfl,hq⟩;have ae:Bw w6 w7:=by first|exact hq|exact aW hq
   clear x0 aY x1 aZ x2 bj y0 aS y1 aV y2 bo r0 aj r1 ak r2 aF r3 cj r4 cB n0 gv n1 gw n2 gy n3 ij n4 ik;obtain⟨Hx,x0,aY,x1,aZ,x2,bj⟩:=aN Hx ae;obtain⟨Hy,y0,aS,y1,aV,y2,bo⟩:=aN Hy ae;replace Hr:=kB Hr ae;replace Hn:=kB Hn ae;obtain⟨r0,aj,r1,ak,r2,aF,r3,cj,r4,cB⟩:=Hr.out.g5;obtain⟨n0,gv,n1,gw,n2,gy,n3,ij,n4,ik⟩:=Hn.out.g5;replace Hb:=aB Hb ae;clear ae;refine hK _ _ (λ_=>⟨x0,x1,x2,y0,y1,y2,n0⟩) ?_;clear hK K
   refine aI rfl rfl (λK hK=>?_);go_simp;refine hK _ _ (λ_=>⟨(aK zf (aK zf x0)),(aK zf (aK zf x1)),(aK zf (aK zf x2)),(aK zf (aK zf y0)),(aK zf (aK zf y1)),(aK zf (aK zf y2)),(aK zf (aK zf n0))⟩) ?_;clear hK K
   clear x0 aY x1 aZ x2 bj y0 aS y1 aV y2 bo r0 aj r1 ak r2 aF r3 cj r4 cB n0 gv n1 gw n2 gy n3 ij n4 ik;refine bV (bC w7 (w4.heap.size) 1 [ag (au X),ah (nt X.natAbs)]) bJ ?_;intro w8 hs;replace Hx:=kS Hx hs zo;replace Hy:=kS Hy hs zo;replace Hr:=kS Hr hs zo;replace Hn:Hid (ar w8 (w4.heap.size) 100 [af g,ag (au X),ah (nt X.natAbs),ag false,.string (bs [])]):=Ax Hn hs;obtain⟨x0,aY,x1,aZ,x2,bj⟩:=Hx.out.g3;obtain⟨y0,aS,y1,aV,y2,bo⟩:=Hy.out.g3;obtain⟨r0,aj,r1,ak,r2,aF,r3,cj,r4,cB⟩:=Hr.out.g5;obtain⟨n0,gv,n1,gw,n2,gy,n3,ij,n4,ik⟩:=Hn.out.g5;replace Hb:=bS Hb hs ZS;clear hs;refine pT rfl rfl ?_
   refine aI rfl rfl (λK hK=>?_);go_simp;refine hK _ _ (λh=>absurd h zd) ?_;clear hK K
   clear x0 aY x1 aZ x2 bj y0 aS y1 aV y2 bo r0 aj r1 ak r2 aF r3 cj r4 cB n0 gv n1 gw n2 gy n3 ij n4 ik;refine bV (bC w8 (w4.heap.size) 3 [ag (au Y),ah (nt Y.natAbs)]) bJ ?_;intro w9 hs;replace Hx:=kS Hx hs zo;replace Hy:=kS Hy hs zo;replace Hr:=kS Hr hs zo;replace Hn:Hid (ar w9 (w4.heap.size) 100 [af g,ag (au X),ah (nt X.natAbs),ag (au Y),ah (nt Y.natAbs)]):=Ax Hn hs;obtain⟨x0,aY,x1,aZ,x2,bj⟩:=Hx.out.g3;obtain⟨y0,aS,y1,aV,y2,bo⟩:=Hy.out.g3;obtain⟨r0,aj,r1,ak,r2,aF,r3,cj,r4,cB⟩:=Hr.out.g5;obtain⟨n0,gv,n1,gw,n2,gy,n3,ij,n4,ik⟩:=Hn.out.g5;replace Hb:=bS Hb hs ZS;clear hs;simp only[bi];go_wp2;exact bodyPost_ret (v:=.agg #[af g,ag (au X),ah (nt X.natAbs),ag (au Y),ah (nt Y.natAbs)]) (by simp[results,Tryz.results66,go_sem,r0,r1,r2,r3,r4]) rfl ⟨rfl,df⟩
 . have z1:¬(bs b).toList=[]:=by rw[gu];exact nB h3
   have z2:¬(bs a).toList=[]:=by rw[gu];exact nA h1
   have z3:min i j=g:=h2.symm;clear zA zB nA nB pA pB h2;obtain⟨x0,aY,x1,aZ,x2,bj⟩:=Hx.out.g3;obtain⟨y0,aS,y1,aV,y2,bo⟩:=Hy.out.g3;obtain⟨r0,aj,r1,ak,r2,aF,r3,cj,r4,cB⟩:=Hr.out.g5;have Da:=Hx.out.lt;have abw:=Hy.out.lt;have Ia:=Hr.out.lt;go_wp2_with fail;obtain⟨R,hR⟩:∃R:World->Prop,(λW5=>ar W5 (w4.heap.size) 100 [af g,ag false,.string (bs []),ag false,.string (bs [])]/\Bw w4 W5)=R:=⟨_,rfl⟩;first|refine cf R ?hR ?_|refine bZ R ?hR ?_
   case hR=>subst hR;exact⟨(ar.newAt w4 _ _ (b:=w4.heap.size) rfl),zl⟩
   subst hR;rintro W5 ⟨qn,ae⟩;have Hn:=ai qn;clear qn x0 aY x1 aZ x2 bj;obtain⟨Hx,x0,aY,x1,aZ,x2,bj⟩:=aN Hx ae;clear y0 aS y1 aV y2 bo;obtain⟨Hy,y0,aS,y1,aV,y2,bo⟩:=aN Hy ae;clear r0 aj r1 ak r2 aF r3 cj r4 cB;replace Hr:=kB Hr ae;obtain⟨r0,aj,r1,ak,r2,aF,r3,cj,r4,cB⟩:=Hr.out.g5;obtain⟨n0,gv,n1,gw,n2,gy,n3,ij,n4,ik⟩:=Hn.out.g5;replace Hb:=aB Hb ae;clear ae;have hns:w.heap.size+1+1<w4.heap.size:=EF.out.lt;refine bR (λw'=>aC w' (w.heap.size) 0 (ag p)/\aC w' (w.heap.size) 1 (ah a)/\aC w' (w.heap.size) 2 (af i)/\aC w' (w.heap.size+1) 0 (ag q)/\aC w' (w.heap.size+1) 1 (ah b)/\aC w' (w.heap.size+1) 2 (af j)/\aC w' (w4.heap.size) 0 (af g)) (λi=>Nat.blt i 11) [(0,true),(1,true),(2,true),(4,true),(5,true),(6,true),(3,false),(8,true),(7,false),(9,false),(10,true),(11,false)] zk zk rfl zk zc ⟨x0,x1,x2,y0,y1,y2,n0⟩ ?_;iterate 6 (refine pT rfl rfl ?_ (by intro w' ⟨q0,q1,q2,q3,q4,q5,q6⟩;go_simp;try with_reducible rfl))
   refine aI rfl rfl (λK hK=>?_);go_simp;with_reducible refine(Dg p a i g X HX.out _ La.out Nn.out (by first|exact(hT.below Hb.out) |exact aH.drew (hT.below Hb.out) |exact aH.alloc (hT.below Hb.out) _|exact aH.drew (aH.alloc (hT.below Hb.out) _) |exact aH.alloc (aH.drew (hT.below Hb.out)) _)).mono ?_
   rintro e w6 ⟨rfl,hq⟩;have ae:Bw W5 w6:=by first|exact hq|exact aW hq
   clear x0 aY x1 aZ x2 bj y0 aS y1 aV y2 bo r0 aj r1 ak r2 aF r3 cj r4 cB n0 gv n1 gw n2 gy n3 ij n4 ik;obtain⟨Hx,x0,aY,x1,aZ,x2,bj⟩:=aN Hx ae;obtain⟨Hy,y0,aS,y1,aV,y2,bo⟩:=aN Hy ae;replace Hr:=kB Hr ae;replace Hn:=kB Hn ae;obtain⟨r0,aj,r1,ak,r2,aF,r3,cj,r4,cB⟩:=Hr.out.g5;obtain⟨n0,gv,n1,gw,n2,gy,n3,ij,n4,ik⟩:=Hn.out.g5;replace Hb:=aB Hb ae;clear ae;refine hK _ _ (λ_=>⟨x0,x1,x2,y0,y1,y2,n0⟩) ?_;clear hK K
   refine pT rfl rfl ?_
   refine aI rfl rfl (λK hK=>?_);go_simp;with_reducible refine(Dg q b j g Y HY.out _ Lb.out Np.out (by first|exact(hT.below Hb.out) |exact aH.drew (hT.below Hb.out) |exact aH.alloc (hT.below Hb.out) _|exact aH.drew (aH.alloc (hT.below Hb.out) _) |exact aH.alloc (aH.drew (hT.below Hb.out)) _)).mono ?_
   rintro e w7 ⟨rfl,hq⟩;have ae:Bw w6 w7:=by first|exact hq|exact aW hq
   clear x0 aY x1 aZ x2 bj y0 aS y1 aV y2 bo r0 aj r1 ak r2 aF r3 cj r4 cB n0 gv n1 gw n2 gy n3 ij n4 ik;obtain⟨Hx,x0,aY,x1,aZ,x2,bj⟩:=aN Hx ae;obtain⟨Hy,y0,aS,y1,aV,y2,bo⟩:=aN Hy ae;replace Hr:=kB Hr ae;replace Hn:=kB Hn ae;obtain⟨r0,aj,r1,ak,r2,aF,r3,cj,r4,cB⟩:=Hr.out.g5;obtain⟨n0,gv,n1,gw,n2,gy,n3,ij,n4,ik⟩:=Hn.out.g5;replace Hb:=aB Hb ae;clear ae;refine hK _ _ (λ_=>⟨x0,x1,x2,y0,y1,y2,n0⟩) ?_;clear hK K
   refine aI rfl rfl (λK hK=>?_);go_simp;refine hK _ _ (λ_=>⟨(aK zf (aK zf x0)),(aK zf (aK zf x1)),(aK zf (aK zf x2)),(aK zf (aK zf y0)),(aK zf (aK zf y1)),(aK zf (aK zf y2)),(aK zf (aK zf n0))⟩) ?_;clear hK K
   clear x0 aY x1 aZ x2 bj y0 aS y1 aV y2 bo r0 aj r1 ak r2 aF r3 cj r4 cB n0 gv n1 gw n2 gy n3 ij n4 ik;refine bV (bC w7 (w4.heap.size) 1 [ag (au X),ah (nt X.natAbs)]) bJ ?_;intro w8 hs;replace Hx:=kS Hx hs zo;replace Hy:=kS Hy hs zo;replace Hr:=kS Hr hs zo;replace Hn:Hid (ar w8 (w4.heap.size) 100 [af g,ag (au X),ah (nt X.natAbs),ag false,.string (bs [])]):=Ax Hn hs;obtain⟨x0,aY,x1,aZ,x2,bj⟩:=Hx.out.g3;obtain⟨y0,aS,y1,aV,y2,bo⟩:=Hy.out.g3;obtain⟨r0,aj,r1,ak,r2,aF,r3,cj,r4,cB⟩:=Hr.out.g5;obtain⟨n0,gv,n1,gw,n2,gy,n3,ij,n4,ik⟩:=Hn.out.g5;replace Hb:=bS Hb hs ZS;clear hs;refine pT rfl rfl ?_
   refine aI rfl rfl (λK hK=>?_);go_simp;refine hK _ _ (λh=>absurd h zd) ?_;clear hK K
   clear x0 aY x1 aZ x2 bj y0 aS y1 aV y2 bo r0 aj r1 ak r2 aF r3 cj r4 cB n0 gv n1 gw n2 gy n3 ij n4 ik;refine bV (bC w8 (w4.heap.size) 3 [ag (au Y),ah (nt Y.natAbs)]) bJ ?_;intro w9 hs;replace Hx:=kS Hx hs zo;replace Hy:=kS Hy hs zo;replace Hr:=kS Hr hs zo;replace Hn:Hid (ar w9 (w4.heap.size) 100 [af g,ag (au X),ah (nt X.natAbs),ag (au Y),ah (nt Y.natAbs)]):=Ax Hn hs;obtain⟨x0,aY,x1,aZ,x2,bj⟩:=Hx.out.g3;obtain⟨y0,aS,y1,aV,y2,bo⟩:=Hy.out.g3;obtain⟨r0,aj,r1,ak,r2,aF,r3,cj,r4,cB⟩:=Hr.out.g5;obtain⟨n0,gv,n1,gw,n2,gy,n3,ij,n4,ik⟩:=Hn.out.g5;replace Hb:=bS Hb hs ZS;clear hs;simp only[bi];go_wp2;exact bodyPost_ret (v:=.agg #[af g,ag (au X),ah (nt X.natAbs),ag (au Y),ah (nt Y.natAbs)]) (by simp[results,Tryz.results66,go_sem,r0,r1,r2,r3,r4]) rfl ⟨rfl,df⟩
theorem VR (X Y:Int)(n:Nat)(hX:(nt X.natAbs).length<=n)(hY:(nt Y.natAbs).length<=n):(nt (X+Y).natAbs).length<=n+1:=by have h1:=gL (nt X.natAbs);have h2:=gL (nt Y.natAbs);rw[jJ]at h1 h2;have h3:=Nat.lt_of_lt_of_le h1 (Nat.pow_le_pow_right (show 0<256 by decide) hX);have h4:=Nat.lt_of_lt_of_le h2 (Nat.pow_le_pow_right (show 0<256 by decide) hY);refine jr ?_;rw[Nat.pow_succ];omega
theorem anZ (X Y:Int)(m n:Nat)(hX:(nt X.natAbs).length<=m)(hY:(nt Y.natAbs).length<=n):(nt (X*Y).natAbs).length<=m+n:=by have h1:=gL (nt X.natAbs);have h2:=gL (nt Y.natAbs);rw[jJ]at h1 h2;have h3:=Nat.lt_of_lt_of_le h1 (Nat.pow_le_pow_right (show 0<256 by decide) hX);have h4:=Nat.lt_of_lt_of_le h2 (Nat.pow_le_pow_right (show 0<256 by decide) hY);refine jr ?_;rw[Int.natAbs_mul,Nat.pow_add];exact Nat.mul_lt_mul'' h3 h4
theorem acL (v k:Int)(a b:Nat)(hv:v.natAbs<2^a)(hk:k<=b):(om v k).natAbs<2^(a+b):=by
 have h0:v.natAbs<2^(a+b):=Nat.lt_of_lt_of_le hv (Nat.pow_le_pow_right zd zo);unfold om;split
 . rw[Int.natAbs_mul,Int.natAbs_pow,Nat.pow_add];refine Nat.lt_of_le_of_lt (Nat.mul_le_mul_left _ (Nat.pow_le_pow_right zd (show k.toNat<=b by omega))) ?_;exact Nat.mul_lt_mul_of_pos_right hv (Nat.pow_pos zd)
 . have hp:(0:Int)<2^(-k).toNat:=by
    have:((2^(-k).toNat:Nat):Int)>0:=by have:=Nat.pow_pos (n:=(-k).toNat) (show 0<2 by decide);omega
    simpa[Int.natCast_pow]using this
   generalize (2:Int)^(-k).toNat=p at*;have:(v/p).natAbs<=v.natAbs:=by
    rcases Int.le_total 0 v with h|h
    . have h1:=Int.ediv_nonneg h (by omega:(0:Int)<=p);have h2:=Int.ediv_le_self p h;omega
    . have h1:v<=v/p:=by rw[Int.le_ediv_iff_mul_le hp];have:=Int.mul_le_mul_of_nonpos_left h (show(1:Int)<=p by omega);omega
      have h2:v/p<=0:=by have:=Int.ediv_le_ediv hp h;simpa using this
      omega
   omega
theorem abn {x y:Raw}(hx:Ok x)(hy:Ok y)(A B:Dyadic)(hA:az x=A)(hB:az y=B):∃g X Y,uJ A B=g/\om (dN A) (dE A-g)=X/\om (dN B) (dE B-g)=Y/\A=Dyadic.ofIntWithPrec X (-g)/\B=Dyadic.ofIntWithPrec Y (-g)/\
 (nt X.natAbs).length<=17179869183/\(nt Y.natAbs).length<=17179869183/\ -1099511627776<=g/\g<=1099511627776:=by
 subst hA hB;obtain⟨M,hM,sx,sy⟩:∃M,M<=4294967296/\Sm M (az x)/\Sm M (az y):=⟨4294967296,Nat.le_refl _,hx.sm,hy.sm⟩;obtain⟨a1,a2,a3⟩:=sx.parts;obtain⟨b1,b2,b3⟩:=sy.parts;generalize az x=A at*;generalize az y=B at*;obtain⟨h1,h2⟩:=anj A B;have hg: -(M:Int)<=uJ A B/\uJ A B<=M:=by
  clear a1 b1;unfold uJ;split
  . omega
  . split<;>omega
 refine⟨uJ A B,_,_,rfl,rfl,rfl,ab7 A _ h1,ab7 B _ h2,?_,?_,?_,?_⟩
 . exact jS (acL _ _ _ (2*M) a1 (by clear a1 b1;omega)) zo
 . exact jS (acL _ _ _ (2*M) b1 (by clear a1 b1;omega)) zo
 . clear a1 b1;omega
 . clear a1 b1;omega
def bI (x:Raw):List Value:=[ag x.1,ah x.2.1,af x.2.2]
def lT :List Raw->Dyadic
 |[]=>0
 |x::xs=>az x+lT xs
theorem ajX (xs ys:List Raw):lT (xs++ys)=lT xs+lT ys:=by
 induction xs with
 |nil=>simp only[List.nil_append,lT];grind
 |cons x xs ih=>simp only[List.cons_append,lT,ih];grind
theorem ajZ (xs:List Raw)(k:Nat)(hk:k<xs.length):lT (xs.take (k+1))=lT (xs.take k)+az xs[k]:=by rw[List.take_succ_eq_append_getElem hk,ajX];simp only[lT];grind
def ki :List Raw->Dyadic
 |[]=>1
 |x::xs=>az x*ki xs
theorem ajU (xs ys:List Raw):ki (xs++ys)=ki xs*ki ys:=by
 induction xs with
 |nil=>simp only[List.nil_append,ki];grind
 |cons x xs ih=>simp only[List.cons_append,ki,ih];grind
theorem ajW (xs:List Raw)(k:Nat)(hk:k<xs.length):ki (xs.take (k+1))=ki (xs.take k) *az xs[k]:=by rw[List.take_succ_eq_append_getElem hk,ajU];simp only[ki];grind
theorem arH (X Y N:Int)(hN:X+Y=N)(b cap:Nat)(ty:TypeId)(w:World)(hl:(nt X.natAbs).length<=34359738368)(hm:(nt Y.natAbs).length<=34359738368)
 (ha:ar w b ty [ag (au X),ah (nt X.natAbs),ag (au Y),ah (nt Y.natAbs)]):
 Calls Tryz.prog 68 #[.slice (some ⟨b,0,none⟩) 2 cap] w λe w'=>e=.returned (cX N)/\Bw w w':=by
 have:=adx (au X) (nt X.natAbs) (au Y) (nt Y.natAbs) b cap ty w hl hm ha;rw[eX,eX,hN]at this;exact this
theorem adA (s:Bool)(l:List UInt8)(t:Bool)(m:List UInt8)(N:Int)(hN:iv s l*iv t m=N)(b cap:Nat)(ty:TypeId)(w:World)(hl:l.length<=17179869184)(hm:m.length<=17179869184)
 (ha:ar w b ty [ag s,ah l,ag t,ah m]):
 Calls Tryz.prog 88 #[.slice (some ⟨b,0,none⟩) 2 cap] w λe w'=>e=.returned (cX N)/\Bw w w':=by
 have:=arM [(s,l),(t,m)] (some ⟨b,0,none⟩) cap w (by simp[qJ];omega) zm (At.aw2 ha);have e:iF [(s,l),(t,m)]=N:=by rw[<-hN];simp[iF]
 rw[e]at this;exact this
theorem ajm (xs:List Raw)(a:Option Addr)(cap:Nat)(w:World)(hl:∀x∈xs,Ok x)(hS:∀k,Ok (canon (lT (xs.take k))))(hx:xs.length<=1048576)
 (ha:At w a (xs.flatMap bI)) (hT:aH w):
 Calls Tryz.prog 26 #[.slice a xs.length cap] w λe w'=>e=.returned (bL (lT xs))/\Bw w w':=by
 have Hl:=ai hl;clear hl;have HS:=ai hS;clear hS;have Ha:=ai ha;clear ha;have fV:=ai hT;clear hT;go_enter Tryz.func26,Tryz.ntmps26;have Hb:Hid (Bw w w):=Below.refl _ _;go_wp2_with fail;obtain⟨R,hR⟩:∃R:World->Prop,(λW=>ar W (w.heap.size) 39 [ag false,.string (bs []),af 0]/\ar W (w.heap.size+1) 39 [ag false,.string (bs []),af 0]/\Bw w W)=R:=⟨_,rfl⟩;first|refine cf R ?hR ?_|refine bZ R ?hR ?_
 case hR=>subst hR;exact⟨((ar.newAt w _ _ (b:=w.heap.size) rfl).alloc _),(ar.newAt (w.alloc _) _ _ (b:=w.heap.size+1) zm),(zl.alloc zj _)⟩
 subst hR;rintro W ⟨qr,qs,ae⟩;have Hr:=ai qr;clear qr;have Hs:=ai qs;clear qs;obtain⟨r0,aj,r1,ak,r2,aF⟩:=Hr.out.g3;obtain⟨s0,bf,s1,bg,s2,bB⟩:=Hs.out.g3;replace Hb:=aB Hb ae;clear ae
 go_loopw[5,6,9] (λ_ _ i wr=>∃(k:Nat),k<=xs.length/\i=af k/\ar wr w.heap.size 39 [ag false,.string (bs []),af 0]/\
  ar wr (w.heap.size+1) 39 (bI (canon (lT (xs.take k))))/\Bw w wr) (λ_ _ i _=>xs.length-(intOf i).toNat)
 case atStart=>exact⟨0,Nat.zero_le _,rfl,Hr.out,Hs.out,Hb.out⟩
 case round=>
  obtain⟨k,hk,rfl,qr,qs,hb⟩:=hrel;replace Hr:=ai qr;replace Hs:=ai qs;replace Hb:=ai hb;clear qr qs hb r0 r1 r2 aj ak aF s0 s1 s2 bf bg bB;by_cases hlt:k<xs.length
  . obtain ⟨b,o,hab,hcs⟩:=(Ha.out.below Hb.out).elem (f:=bI) (sz:=3) (fun _=>rfl) zd k hlt;have hc0:wr.cell? ⟨b,o+k*3,none⟩=some (ag xs[k].1):=hcs 0 zd;have hc1:wr.cell? ⟨b,o+k*3+1,none⟩=some (.string (bs xs[k].2.1)):=hcs 1 zd;have hc2:wr.cell? ⟨b,o+k*3+2,none⟩=some (af xs[k].2.2):=hcs 2 zd;have bK:=qH xs.length cap k (k:Int) hab hlt rfl;have bX:=ai (ajZ xs k hlt);have lG:Hid (Ok xs[k]):=Hl.out _ (List.getElem_mem hlt);have kX:=ai (HS.out k);clear hcs hab;generalize xs[k]=x at*;obtain⟨t1,l1,e1⟩:=x;generalize hS:lT (xs.take k)=S at*;clear hS;obtain⟨g,X,Y,hg,hX,hY,eA,eB,lX,lY,hg1,hg2⟩:=abn kX.out lG.out S (az (t1,l1,e1)) (bD S) rfl;obtain⟨N,hN⟩:=aG (X+Y);obtain⟨D,hD⟩:=aG (S+az (t1,l1,e1));have HD:Hid (az (au N,nt N.natAbs,g)=D):=by
     show _=_
     rw[vF,<-hD,<-hN,<-AP,<-eA,<-eB]
    have Nt:Hid ((nt N.natAbs).length<=34359738368):=by show _<=_;rw[<-hN];exact Nat.le_trans (VR X Y _ lX lY) zd
    rw[hD]at bX;have BL:Hid (∀W,aH W->Calls Tryz.prog 66 #[bL S,.agg #[ag t1,ah l1,af e1]] W λex w'=>ex=.returned (.agg #[af g,ag (au X),ah (nt X.natAbs),ag (au Y),ah (nt Y.natAbs)])/\Bw W w'):=λW hW=>
     aa5 _ _ _ t1 l1 e1 S (az (t1,l1,e1)) (bD S) rfl g X Y hg hX hY W kX.out lG.out hW
    have LX:Hid ((nt X.natAbs).length<=34359738368):=by show _<=_;omega
    have LY:Hid ((nt Y.natAbs).length<=34359738368):=by show _<=_;omega
    have Hg:Hid (-1099511627776<=g/\g<=1099511627776):=⟨hg1,hg2⟩;have HN:=ai hN;clear eA eB hg hX hY lX lY hN hD hg1 hg2 kX lG;unfold bI canon at Hs;simp only at Hs;obtain⟨r0,aj,r1,ak,r2,aF⟩:=Hr.out.g3;obtain⟨s0,bf,s1,bg,s2,bB⟩:=Hs.out.g3;have GX:=Hr.out.lt;have Sb:=Hs.out.lt;go_wp2_with fail;obtain⟨R,hR⟩:∃R:World->Prop,(λW1=>ar W1 (wr.heap.size) 39 [ag t1,ah l1,af e1]/\Bw wr W1)=R:=⟨_,rfl⟩;first|refine cf R ?hR ?_|refine bZ R ?hR ?_
    case hR=>subst hR;exact⟨(ar.newAt wr _ _ (b:=wr.heap.size) rfl),zl⟩
    subst hR;rintro W1 ⟨qc,ae⟩;have Hc:=ai qc;clear qc r0 aj r1 ak r2 aF;obtain⟨Hr,r0,aj,r1,ak,r2,aF⟩:=aN Hr ae;clear s0 bf s1 bg s2 bB;obtain⟨Hs,s0,bf,s1,bg,s2,bB⟩:=aN Hs ae;obtain⟨c0,c1,c2⟩:=Hc.out.c3;replace Hb:=aB Hb ae;clear ae;have HT:=ai (fV.out.below Hb.out);go_wp2_with fail;refine(BL.out _ HT.out).mono ?_;rintro e w1 ⟨rfl,ae⟩;clear r0 aj r1 ak r2 aF s0 bf s1 bg s2 bB c0 c1 c2;obtain⟨Hr,r0,aj,r1,ak,r2,aF⟩:=aN Hr ae;obtain⟨Hs,s0,bf,s1,bg,s2,bB⟩:=aN Hs ae;obtain⟨Hc,c0,c1,c2⟩:=aQ Hc ae;replace Hb:=aB Hb ae;clear ae;have qK:=Hr.out.lt;have avP:=Hs.out.lt;have ank:=Hc.out.lt;go_wp2_with fail;obtain⟨R,hR⟩:∃R:World->Prop,(λW2=>ar W2 (w1.heap.size) 100 [af g,ag (au X),ah (nt X.natAbs),ag (au Y),ah (nt Y.natAbs)]/\Bw w1 W2)=R:=⟨_,rfl⟩;first|refine cf R ?hR ?_|refine bZ R ?hR ?_
    case hR=>subst hR;exact⟨(ar.newAt w1 _ _ (b:=w1.heap.size) rfl),zl⟩
    subst hR;rintro W2 ⟨qp,ae⟩;have Hp:=ai qp;clear qp r0 aj r1 ak r2 aF;obtain⟨Hr,r0,aj,r1,ak,r2,aF⟩:=aN Hr ae;clear s0 bf s1 bg s2 bB;obtain⟨Hs,s0,bf,s1,bg,s2,bB⟩:=aN Hs ae;clear c0 c1 c2;obtain⟨Hc,c0,c1,c2⟩:=aQ Hc ae;obtain⟨p0,p1,p2,p3,p4⟩:=Hp.out.c5;replace Hb:=aB Hb ae;clear ae;refine bR (λw'=>aC w' (w1.heap.size) 0 (af g)/\aC w' (w1.heap.size) 1 (ag (au X))/\aC w' (w1.heap.size) 2 (ah (nt X.natAbs))/\aC w' (w1.heap.size) 3 (ag (au Y))/\aC w' (w1.heap.size) 4 (ah (nt Y.natAbs))) (λi=>Nat.blt i 9) [(0,true),(1,true),(2,true),(3,true),(6,true),(7,true),(4,false),(5,false),(8,false),(9,false)] zk zk rfl zk zc ⟨p0,p1,p2,p3,p4⟩ ?_;iterate 6 (refine pT rfl rfl ?_ (by intro w' ⟨q0,q1,q2,q3,q4⟩;go_simp;try with_reducible rfl))
    refine aI rfl rfl (λK hK=>?_);go_simp;refine hK _ _ (λ_=>⟨aL p0,aL p1,aL p2,aL p3,aL p4⟩) ?_;clear hK K
    refine bV (λW3=>ar W3 (W2.heap.size) 32 [ag (au X),ah (nt X.natAbs),ag (au Y),ah (nt Y.natAbs)]/\Bw W2 W3) (by first|exact fe|exact fg) ?_;rintro W3 ⟨qv,ae⟩;clear r0 aj r1 ak r2 aF s0 bf s1 bg s2 bB c0 c1 c2 p0 p1 p2 p3 p4;have GY:=Hr.out.lt;have ant:=Hs.out.lt;have RZ:=Hc.out.lt;have ano:=Hp.out.lt;replace Hr:=kB Hr ae;replace Hs:=kB Hs ae;replace Hc:=kB Hc ae;replace Hp:=kB Hp ae;have Hv:=ai qv;clear qv;obtain⟨r0,aj,r1,ak,r2,aF⟩:=Hr.out.g3;obtain⟨s0,bf,s1,bg,s2,bB⟩:=Hs.out.g3;obtain⟨c0,c1,c2⟩:=Hc.out.c3;obtain⟨p0,p1,p2,p3,p4⟩:=Hp.out.c5;obtain⟨v0,v1,v2,v3⟩:=Hv.out.c4;replace Hb:=aB Hb ae;clear ae;refine aI rfl rfl (λK hK=>?_);go_simp;with_reducible refine(arH X Y N HN.out W2.heap.size 2 32 _ LX.out LY.out Hv.out).mono ?_
    rintro e w3 ⟨rfl,hq⟩;have ae:Bw W3 w3:=by first|exact hq|exact aW hq
    clear r0 aj r1 ak r2 aF s0 bf s1 bg s2 bB c0 c1 c2 p0 p1 p2 p3 p4 v0 v1 v2 v3;obtain⟨Hr,r0,aj,r1,ak,r2,aF⟩:=aN Hr ae;obtain⟨Hs,s0,bf,s1,bg,s2,bB⟩:=aN Hs ae;obtain⟨Hc,c0,c1,c2⟩:=aQ Hc ae;replace Hp:=kB Hp ae;obtain⟨Hv,v0,v1,v2,v3⟩:=dU Hv ae;obtain⟨p0,p1,p2,p3,p4⟩:=Hp.out.c5;replace Hb:=aB Hb ae;clear ae;refine hK _ _ (λ_=>⟨p0,p1,p2,p3,p4⟩) ?_;clear hK K
    refine aI rfl rfl (λK hK=>?_);go_simp;with_reducible refine(yf (au N) (nt N.natAbs) g D HD.out _ Nt.out Hg.out (by first|exact(fV.out.below Hb.out) |exact aH.drew (fV.out.below Hb.out) |exact aH.alloc (fV.out.below Hb.out) _|exact aH.drew (aH.alloc (fV.out.below Hb.out) _) |exact aH.alloc (aH.drew (fV.out.below Hb.out)) _)).mono ?_
    rintro e w4 ⟨rfl,hq⟩;have ae:Bw w3 w4:=by first|exact hq|exact aW hq
    clear r0 aj r1 ak r2 aF s0 bf s1 bg s2 bB c0 c1 c2 p0 p1 p2 p3 p4 v0 v1 v2 v3;obtain⟨Hr,r0,aj,r1,ak,r2,aF⟩:=aN Hr ae;obtain⟨Hs,s0,bf,s1,bg,s2,bB⟩:=aN Hs ae;obtain⟨Hc,c0,c1,c2⟩:=aQ Hc ae;replace Hp:=kB Hp ae;obtain⟨Hv,v0,v1,v2,v3⟩:=dU Hv ae;obtain⟨p0,p1,p2,p3,p4⟩:=Hp.out.c5;replace Hb:=aB Hb ae;clear ae;refine hK _ _ (λ_=>⟨p0,p1,p2,p3,p4⟩) ?_;clear hK K
    refine aI rfl rfl (λK hK=>?_);go_simp;refine hK _ _ (λh=>absurd h zd) ?_;clear hK K
    clear r0 aj r1 ak r2 aF s0 bf s1 bg s2 bB c0 c1 c2 p0 p1 p2 p3 p4 v0 v1 v2 v3;refine bV (bC w4 (w.heap.size+1) 0 [ag (au (dN D)),ah (nt (dN D).natAbs),af (dE D)]) bJ ?_;intro w5 hs;replace Hr:=kS Hr hs zo;replace Hs:=bP Hs hs;replace Hc:=kS Hc hs zo;replace Hp:=kS Hp hs zo;replace Hv:=kS Hv hs zo;obtain⟨r0,aj,r1,ak,r2,aF⟩:=Hr.out.g3;obtain⟨s0,bf,s1,bg,s2,bB⟩:=Hs.out.g3;obtain⟨c0,c1,c2⟩:=Hc.out.c3;obtain⟨p0,p1,p2,p3,p4⟩:=Hp.out.c5;obtain⟨v0,v1,v2,v3⟩:=Hv.out.c4;replace Hb:=bS Hb hs ZS;clear hs;simp only[bi];go_wp2;go_roundw;case rel=>refine⟨k+1,by omega,by go_num,Hr.out,?_,Hb.out⟩;rw[bX.out];exact Hs.out
    case measure=>simp[intOf];omega
  . obtain rfl:k=xs.length:=by omega
    rw[List.take_length]at Hs;unfold bI canon at Hs;simp only at Hs;obtain⟨r0,aj,r1,ak,r2,aF⟩:=Hr.out.g3;obtain⟨s0,bf,s1,bg,s2,bB⟩:=Hs.out.g3;go_wp2;exact bodyPost_ret (v:=bL (lT xs)) (by simp[results,Tryz.results26,go_sem,r0,r1,r2]) rfl ⟨rfl,df⟩
theorem Sm.one :Sm 1 1:=⟨2,by rfl,by decide⟩
theorem ajY {B:Nat}(xs:List Raw)(h:∀x∈xs,Sm B (az x)):Sm (B+xs.length) (lT xs):=by
 induction xs with
 |nil=>exact Sm.zero _
 |cons x xs ih=>have h1:=h x zm;have h2:=ih (λy hy=>h y (by simp[hy]));exact(Sm.add (h1.mono (by omega:B<=B+xs.length)) h2)
theorem ajV {B:Nat}(xs:List Raw)(h:∀x∈xs,Sm B (az x)):Sm (B*xs.length+1) (ki xs):=by
 induction xs with
 |nil=>exact Sm.one
 |cons x xs ih=>have h1:=h x zm;have h2:=ih (λy hy=>h y (by simp[hy]));have:=Sm.mul h1 h2;rw[show B* (x::xs).length+1=B+(B*xs.length+1)by rw[List.length_cons,Nat.mul_add];omega];exact this
def Fit (B:Nat)(x:Raw):Prop:=Ok x/\Sm B (az x)
theorem Fit.mono {A B:Nat}{x:Raw}(h:Fit A x)(Xt:A<=B):Fit B x:=⟨h.1,h.2.mono Xt⟩
theorem Sm.fit {B:Nat}{d:Dyadic}(h:Sm B d)(hB:B<=268435456):Fit B (canon d):=⟨h.ok hB,by rw[bD];exact h⟩
theorem ajn (xs:List Raw)(B:Nat)(S:Dyadic)(hS:lT xs=S)(a:Option Addr)(cap:Nat)(w:World)(hl:∀x∈xs,Fit B x)(hB:B+xs.length<=268435456)(hx:xs.length<=1048576)
 (ha:At w a (xs.flatMap bI)) (hT:aH w):
 Calls Tryz.prog 26 #[.slice a xs.length cap] w λe w'=>e=.returned (bL S)/\Bw w w':=by
 subst hS;refine ajm xs a cap w (λx h=>(hl x h).1) (λk=>?_) hx ha hT;refine Sm.ok (B:=B+xs.length) (Sm.mono (ajY (B:=B) _ (λx h=>(hl x (List.mem_of_mem_take h)).2)) ?_) hB;rw[List.length_take];omega
theorem aju (xs:List Raw)(a:Option Addr)(cap:Nat)(w:World)(hl:∀x∈xs,Ok x)(hS:∀k,Ok (canon (ki (xs.take k))))(hx:xs.length<=1048576)
 (ha:At w a (xs.flatMap bI)) (hT:aH w):
 Calls Tryz.prog 46 #[.slice a xs.length cap] w λe w'=>e=.returned (bL (ki xs))/\Bw w w':=by
 have Hl:=ai hl;clear hl;have HS:=ai hS;clear hS;have Ha:=ai ha;clear ha;have fV:=ai hT;clear hT;obtain⟨I,hI⟩:∃I:Dyadic,1=I:=⟨_,rfl⟩;have HI:Hid (Dyadic.ofIntWithPrec 1 0=I):=by show _=_;rw[<-hI];rfl
 have HI1:=ai hI;clear hI;go_enter Tryz.func46,Tryz.ntmps46;have Hb:Hid (Bw w w):=Below.refl _ _;go_wp2_with fail;obtain⟨R,hR⟩:∃R:World->Prop,(λW=>ar W (w.heap.size) 39 [ag false,.string (bs []),af 0]/\Bw w W)=R:=⟨_,rfl⟩;first|refine cf R ?hR ?_|refine bZ R ?hR ?_
 case hR=>subst hR;exact⟨(ar.newAt w _ _ (b:=w.heap.size) rfl),zl⟩
 subst hR;rintro W ⟨qr,ae⟩;have Hr:=ai qr;clear qr;obtain⟨r0,aj,r1,ak,r2,aF⟩:=Hr.out.g3;replace Hb:=aB Hb ae;clear ae;have HT:=ai (fV.out.below Hb.out);go_wp2_with fail;refine(xj 1 I HI.out _ zo HT.out).mono ?_;rintro e w2 ⟨rfl,ae⟩;clear r0 aj r1 ak r2 aF;obtain⟨Hr,r0,aj,r1,ak,r2,aF⟩:=aN Hr ae;replace Hb:=aB Hb ae;clear ae;have qK:=Hr.out.lt;go_wp2_with fail;obtain⟨R,hR⟩:∃R:World->Prop,(λW2=>ar W2 (w2.heap.size) 39 [ag (au (dN I)),ah (nt (dN I).natAbs),af (dE I)]/\Bw w2 W2)=R:=⟨_,rfl⟩;first|refine cf R ?hR ?_|refine bZ R ?hR ?_
 case hR=>subst hR;exact⟨(ar.newAt w2 _ _ (b:=w2.heap.size) rfl),zl⟩
 subst hR;rintro W2 ⟨qs,ae⟩;have Hs:=ai qs;clear qs r0 aj r1 ak r2 aF;obtain⟨Hr,r0,aj,r1,ak,r2,aF⟩:=aN Hr ae;obtain⟨s0,bf,s1,bg,s2,bB⟩:=Hs.out.g3;replace Hb:=aB Hb ae;clear ae
 go_loopw[5,9] (λ_ i wr=>∃(k:Nat),k<=xs.length/\i=af k/\ar wr w.heap.size 39 [ag false,.string (bs []),af 0]/\
  ar wr w2.heap.size 39 (bI (canon (ki (xs.take k))))/\Bw w wr) (λ_ i _=>xs.length-(intOf i).toNat)
 case atStart=>
  refine⟨0,Nat.zero_le _,rfl,Hr.out,?_,Hb.out⟩;have e:ki (xs.take 0)=I:=by rw[<-HI1.out];rfl
  rw[e];exact Hs.out
 case round=>
  obtain⟨k,hk,rfl,qr,qs,hb⟩:=hrel;replace Hr:=ai qr;replace Hs:=ai qs;replace Hb:=ai hb;clear qr qs hb r0 r1 r2 aj ak aF s0 s1 s2 bf bg bB HT;by_cases hlt:k<xs.length
  . obtain ⟨b,o,hab,hcs⟩:=(Ha.out.below Hb.out).elem (f:=bI) (sz:=3) (fun _=>rfl) zd k hlt;have hc0:wr.cell? ⟨b,o+k*3,none⟩=some (ag xs[k].1):=hcs 0 zd;have hc1:wr.cell? ⟨b,o+k*3+1,none⟩=some (.string (bs xs[k].2.1)):=hcs 1 zd;have hc2:wr.cell? ⟨b,o+k*3+2,none⟩=some (af xs[k].2.2):=hcs 2 zd;have bK:=qH xs.length cap k (k:Int) hab hlt rfl;have bX:=ai (ajW xs k hlt);have lG:Hid (Ok xs[k]):=Hl.out _ (List.getElem_mem hlt);have kX:=ai (HS.out k);clear hcs hab;generalize xs[k]=x at*;obtain⟨t1,l1,e1⟩:=x;generalize hS:ki (xs.take k)=S at*;clear hS;obtain⟨N,hN⟩:=aG (dN S*iv t1 l1);obtain⟨D,hD⟩:=aG (S*az (t1,l1,e1));obtain⟨g,hg⟩:=aG (dE S+e1);have HD:Hid (az (au N,nt N.natAbs,g)=D):=by
     show _=_
     rw[vF,<-hD,<-hN];conv=>rhs;rw[uQ S]
     unfold az;rw[wj];congr 1;simp only;omega
    have o1:=kX.out.exp;have o2:=lG.out.exp;have o3:=kX.out.len;have o4:=lG.out.len;have Nt:Hid ((nt N.natAbs).length<=34359738368):=by
     show _<=_
     have h2:=Ic t1 l1 268435456 o4;rw[Int.natAbs_neg]at h2;rw[<-hN];exact Nat.le_trans (anZ (dN S) (iv t1 l1) _ _ o3 h2) zd
    rw[hD]at bX;have LX:Hid ((nt (dN S).natAbs).length<=17179869184):=by show _<=_;omega
    have LY:Hid (l1.length<=17179869184):=by show _<=_;omega
    have Hg:Hid (-1099511627776<=g/\g<=1099511627776):=by show _/\_;omega
    have hwg:IntKind.i64.wrap (dE S+e1)=g:=by rw[IntKind.wrap_i64];omega
    have HN:Hid (iv (au (dN S)) (nt (dN S).natAbs) *iv t1 l1=N):=by show _=_;rw[eX];exact hN
    clear hg hN hD kX lG o1 o2 o3 o4;unfold bI canon at Hs;simp only at Hs;have hrs:w.heap.size<w2.heap.size:=qK;obtain⟨r0,aj,r1,ak,r2,aF⟩:=Hr.out.g3;obtain⟨s0,bf,s1,bg,s2,bB⟩:=Hs.out.g3;have GX:=Hr.out.lt;have Sb:=Hs.out.lt;go_wp2_with fail;obtain⟨R,hR⟩:∃R:World->Prop,(λW1=>ar W1 (wr.heap.size) 39 [ag t1,ah l1,af e1]/\Bw wr W1)=R:=⟨_,rfl⟩;first|refine cf R ?hR ?_|refine bZ R ?hR ?_
    case hR=>subst hR;exact⟨(ar.newAt wr _ _ (b:=wr.heap.size) rfl),zl⟩
    subst hR;rintro W1 ⟨qc,ae⟩;have Hc:=ai qc;clear qc r0 aj r1 ak r2 aF;obtain⟨Hr,r0,aj,r1,ak,r2,aF⟩:=aN Hr ae;clear s0 bf s1 bg s2 bB;obtain⟨Hs,s0,bf,s1,bg,s2,bB⟩:=aN Hs ae;obtain⟨c0,c1,c2⟩:=Hc.out.c3;replace Hb:=aB Hb ae;clear ae;refine bR (λw'=>aC w' (wr.heap.size) 0 (ag t1)/\aC w' (wr.heap.size) 1 (ah l1)/\aC w' (wr.heap.size) 2 (af e1)/\aC w' (w2.heap.size) 0 (ag (au (dN S)))/\aC w' (w2.heap.size) 1 (ah (nt (dN S).natAbs))/\aC w' (w2.heap.size) 2 (af (dE S))) (λi=>Nat.blt i 12) [(0,true),(1,true),(2,true),(3,true),(6,true),(7,true),(8,true),(9,true),(10,true),(4,false),(5,false),(11,false),(12,false)] zk zk rfl zk zc ⟨c0,c1,c2,s0,s1,s2⟩ ?_;iterate 9 (refine pT rfl rfl ?_ (by intro w' ⟨q0,q1,q2,q3,q4,q5⟩;go_simp;try with_reducible rfl))
    refine aI rfl rfl (λK hK=>?_);go_simp;refine hK _ _ (λ_=>⟨aL c0,aL c1,aL c2,aL s0,aL s1,aL s2⟩) ?_;clear hK K
    refine bV (λW3=>ar W3 (W1.heap.size) 32 [ag (au (dN S)),ah (nt (dN S).natAbs),ag t1,ah l1]/\Bw W1 W3) (by first|exact fe|exact fg) ?_;rintro W3 ⟨qv,ae⟩;clear r0 aj r1 ak r2 aF s0 bf s1 bg s2 bB c0 c1 c2;have GY:=Hr.out.lt;have ant:=Hs.out.lt;have RZ:=Hc.out.lt;replace Hr:=kB Hr ae;replace Hs:=kB Hs ae;replace Hc:=kB Hc ae;have Hv:=ai qv;clear qv;obtain⟨r0,aj,r1,ak,r2,aF⟩:=Hr.out.g3;obtain⟨s0,bf,s1,bg,s2,bB⟩:=Hs.out.g3;obtain⟨c0,c1,c2⟩:=Hc.out.c3;obtain⟨v0,v1,v2,v3⟩:=Hv.out.c4;replace Hb:=aB Hb ae;clear ae;refine aI rfl rfl (λK hK=>?_);go_simp;with_reducible refine(adA (au (dN S)) (nt (dN S).natAbs) t1 l1 N HN.out W1.heap.size 2 32 _ LX.out LY.out Hv.out).mono ?_
    rintro e w3 ⟨rfl,hq⟩;have ae:Bw W3 w3:=by first|exact hq|exact aW hq
    clear r0 aj r1 ak r2 aF s0 bf s1 bg s2 bB c0 c1 c2 v0 v1 v2 v3;obtain⟨Hr,r0,aj,r1,ak,r2,aF⟩:=aN Hr ae;obtain⟨Hs,s0,bf,s1,bg,s2,bB⟩:=aN Hs ae;obtain⟨Hc,c0,c1,c2⟩:=aQ Hc ae;obtain⟨Hv,v0,v1,v2,v3⟩:=dU Hv ae;replace Hb:=aB Hb ae;clear ae;refine hK _ _ (λ_=>⟨c0,c1,c2,s0,s1,s2⟩) ?_;clear hK K
    refine aI rfl rfl (λK hK=>?_);go_simp;with_reducible refine(yf (au N) (nt N.natAbs) g D HD.out _ Nt.out Hg.out (by first|exact(fV.out.below Hb.out) |exact aH.drew (fV.out.below Hb.out) |exact aH.alloc (fV.out.below Hb.out) _|exact aH.drew (aH.alloc (fV.out.below Hb.out) _) |exact aH.alloc (aH.drew (fV.out.below Hb.out)) _)).mono ?_
    rintro e w4 ⟨rfl,hq⟩;have ae:Bw w3 w4:=by first|exact hq|exact aW hq
    clear r0 aj r1 ak r2 aF s0 bf s1 bg s2 bB c0 c1 c2 v0 v1 v2 v3;obtain⟨Hr,r0,aj,r1,ak,r2,aF⟩:=aN Hr ae;obtain⟨Hs,s0,bf,s1,bg,s2,bB⟩:=aN Hs ae;obtain⟨Hc,c0,c1,c2⟩:=aQ Hc ae;obtain⟨Hv,v0,v1,v2,v3⟩:=dU Hv ae;replace Hb:=aB Hb ae;clear ae;refine hK _ _ (λ_=>⟨c0,c1,c2,s0,s1,s2⟩) ?_;clear hK K
    refine aI rfl rfl (λK hK=>?_);go_simp;refine hK _ _ (λh=>absurd h zd) ?_;clear hK K
    clear r0 aj r1 ak r2 aF s0 bf s1 bg s2 bB c0 c1 c2 v0 v1 v2 v3;refine bV (bC w4 (w2.heap.size) 0 [ag (au (dN D)),ah (nt (dN D).natAbs),af (dE D)]) bJ ?_;intro w5 hs;replace Hr:=kS Hr hs zo;replace Hs:=bP Hs hs;replace Hc:=kS Hc hs zo;replace Hv:=kS Hv hs zo;obtain⟨r0,aj,r1,ak,r2,aF⟩:=Hr.out.g3;obtain⟨s0,bf,s1,bg,s2,bB⟩:=Hs.out.g3;obtain⟨c0,c1,c2⟩:=Hc.out.c3;obtain⟨v0,v1,v2,v3⟩:=Hv.out.c4;replace Hb:=bS Hb hs ZS;clear hs;simp only[bi];go_wp2;go_roundw;case rel=>refine⟨k+1,by omega,by go_num,Hr.out,?_,Hb.out⟩;rw[bX.out];exact Hs.out
    case measure=>simp[intOf];omega
  . obtain rfl:k=xs.length:=by omega
    rw[List.take_length]at Hs;unfold bI canon at Hs;simp only at Hs;obtain⟨r0,aj,r1,ak,r2,aF⟩:=Hr.out.g3;obtain⟨s0,bf,s1,bg,s2,bB⟩:=Hs.out.g3;go_wp2;exact bodyPost_ret (v:=bL (ki xs)) (by simp[results,Tryz.results46,go_sem,r0,r1,r2]) rfl ⟨rfl,df⟩
theorem OT (xs:List Raw)(B:Nat)(S:Dyadic)(hS:ki xs=S)(a:Option Addr)(cap:Nat)(w:World)(hl:∀x∈xs,Fit B x)(hB:B*xs.length+1<=268435456)(hx:xs.length<=1048576)
 (ha:At w a (xs.flatMap bI)) (hT:aH w):
 Calls Tryz.prog 46 #[.slice a xs.length cap] w λe w'=>e=.returned (bL S)/\Bw w w':=by
 subst hS;refine aju xs a cap w (λx h=>(hl x h).1) (λk=>?_) hx ha hT;refine Sm.ok (B:=B*xs.length+1) (Sm.mono (ajV (B:=B) _ (λx h=>(hl x (List.mem_of_mem_take h)).2)) ?_) hB;rw[List.length_take];have:B*min k xs.length<=B*xs.length:=Nat.mul_le_mul_left _ zo;omega
theorem Cq (s:Bool)(l:List UInt8)(e:Int)(t:Bool)(m:List UInt8)(f:Int)(S:Dyadic)(B:Nat)(hS:az (s,l,e)+az (t,m,f)=S)(b cap:Nat)(ty:TypeId)(w:World)(hx:Fit B (s,l,e))(hy:Fit B (t,m,f))(hB:B+2<=268435456)
 (ha:ar w b ty [ag s,ah l,af e,ag t,ah m,af f]) (hT:aH w):
 Calls Tryz.prog 26 #[.slice (some ⟨b,0,none⟩) 2 cap] w λe w'=>e=.returned (bL S)/\Bw w w':=
 ajn [(s,l,e),(t,m,f)] B S (by rw[<-hS];simp only[lT];grind) _ cap w (by intro x h;simp at h;rcases h with rfl|rfl;exact hx;exact hy) hB zm (At.aw2 ha) hT
theorem xh (s:Bool)(l:List UInt8)(e:Int)(t:Bool)(m:List UInt8)(f:Int)(S:Dyadic)(B:Nat)(hS:az (s,l,e) *az (t,m,f)=S)(b cap:Nat)(ty:TypeId)(w:World)(hx:Fit B (s,l,e))(hy:Fit B (t,m,f))(hB:2*B+1<=268435456)
 (ha:ar w b ty [ag s,ah l,af e,ag t,ah m,af f]) (hT:aH w):
 Calls Tryz.prog 46 #[.slice (some ⟨b,0,none⟩) 2 cap] w λe w'=>e=.returned (bL S)/\Bw w w':=
 OT [(s,l,e),(t,m,f)] B S (by rw[<-hS];simp only[ki];grind) _ cap w (by intro x h;simp at h;rcases h with rfl|rfl;exact hx;exact hy) zi zm (At.aw2 ha) hT
theorem EZ (s:Bool)(l:List UInt8)(e:Int)(t:Bool)(m:List UInt8)(f:Int)(S:Dyadic)(B:Nat)(hS:az (s,l,e)-az (t,m,f)=S)(w:World)(hx:Fit B (s,l,e))(hy:Fit B (t,m,f))(hB:B+2<=268435456)(hT:aH w):
 Calls Tryz.prog 98 #[.agg #[ag s,ah l,af e],.agg #[ag t,ah m,af f]] w λe w'=>e=.returned (bL S)/\Bw w w':=by
 obtain⟨D,hD⟩:=aG (-az (t,m,f));have Hn:Hid (Fit B (au (dN D),nt (dN D).natAbs,dE D)):=by rw[<-hD];exact(hy.2.neg).fit zo
 have HS:Hid (az (s,l,e)+az (au (dN D),nt (dN D).natAbs,dE D)=S):=by show _+az (canon D)=_;rw[bD,<-hD,<-hS];grind
 obtain⟨Hyo,HD,ui,jA⟩:=dx hy.1 hD hx hy;clear hD hx hy hS;go_enter Tryz.func98,Tryz.ntmps98;have Hb:Hid (Bw w w):=Below.refl _ _;go_wp2_with fail;obtain⟨R,hR⟩:∃R:World->Prop,(λW=>ar W (w.heap.size) 39 [ag s,ah l,af e]/\ar W (w.heap.size+1) 39 [ag t,ah m,af f]/\ar W (w.heap.size+1+1) 39 [ag false,.string (bs []),af 0]/\Bw w W)=R:=⟨_,rfl⟩;first|refine cf R ?hR ?_|refine bZ R ?hR ?_
 case hR=>subst hR;exact⟨(((ar.newAt w _ _ (b:=w.heap.size) rfl).alloc _).alloc _),((ar.newAt (w.alloc _) _ _ (b:=w.heap.size+1) zm).alloc _),(ar.newAt ((w.alloc _).alloc _) _ _ (b:=w.heap.size+1+1) zm),((zl.alloc zj _).alloc zj _)⟩
 subst hR;rintro W ⟨qx,qy,qr,ae⟩;have Hx:=ai qx;clear qx;have Hy:=ai qy;clear qy;have Hr:=ai qr;clear qr;obtain⟨x0,x1,x2⟩:=Hx.out.c3;obtain⟨y0,y1,y2⟩:=Hy.out.c3;obtain⟨r0,aj,r1,ak,r2,aF⟩:=Hr.out.g3;replace Hb:=aB Hb ae;clear ae;refine bR (λw'=>aC w' (w.heap.size) 0 (ag s)/\aC w' (w.heap.size) 1 (ah l)/\aC w' (w.heap.size) 2 (af e)/\aC w' (w.heap.size+1) 0 (ag t)/\aC w' (w.heap.size+1) 1 (ah m)/\aC w' (w.heap.size+1) 2 (af f)) (λi=>Nat.blt i 5) [(0,true),(1,true),(2,false),(3,false),(4,false),(5,false)] zk zk rfl zk zc ⟨x0,x1,x2,y0,y1,y2⟩ ?_;iterate 2 (refine pT rfl rfl ?_ (by intro w' ⟨q0,q1,q2,q3,q4,q5⟩;go_simp;try with_reducible rfl))
 refine aI rfl rfl (λK hK=>?_);go_simp;with_reducible refine(OV t m f D HD.out _ Hyo.out (by first|exact(hT.below Hb.out) |exact aH.drew (hT.below Hb.out) |exact aH.alloc (hT.below Hb.out) _|exact aH.drew (aH.alloc (hT.below Hb.out) _) |exact aH.alloc (aH.drew (hT.below Hb.out)) _)).mono ?_
 rintro e w1 ⟨rfl,hq⟩;have ae:Bw W w1:=by first|exact hq|exact aW hq
 clear x0 x1 x2 y0 y1 y2 r0 aj r1 ak r2 aF;obtain⟨Hx,x0,x1,x2⟩:=aQ Hx ae;obtain⟨Hy,y0,y1,y2⟩:=aQ Hy ae;obtain⟨Hr,r0,aj,r1,ak,r2,aF⟩:=aN Hr ae;replace Hb:=aB Hb ae;clear ae;refine hK _ _ (λ_=>⟨x0,x1,x2,y0,y1,y2⟩) ?_;clear hK K
 refine aI rfl rfl (λK hK=>?_);go_simp;refine hK _ _ (λ_=>⟨aL x0,aL x1,aL x2,aL y0,aL y1,aL y2⟩) ?_;clear hK K
 refine bV (λW1=>ar W1 (w1.heap.size) 39 [ag s,ah l,af e,ag (au (dN D)),ah (nt (dN D).natAbs),af (dE D)]/\Bw w1 W1) (by first|exact fe|exact fg) ?_;rintro W1 ⟨qv,ae⟩;clear x0 x1 x2 y0 y1 y2 r0 aj r1 ak r2 aF;have anx:=Hx.out.lt;have anC:=Hy.out.lt;have GX:=Hr.out.lt;replace Hx:=kB Hx ae;replace Hy:=kB Hy ae;replace Hr:=kB Hr ae;have Hv:=ai qv;clear qv;obtain⟨x0,x1,x2⟩:=Hx.out.c3;obtain⟨y0,y1,y2⟩:=Hy.out.c3;obtain⟨r0,aj,r1,ak,r2,aF⟩:=Hr.out.g3;obtain⟨v0,v1,v2,v3,v4,v5⟩:=Hv.out.c6;replace Hb:=aB Hb ae;clear ae;refine aI rfl rfl (λK hK=>?_);go_simp;with_reducible refine(Cq s l e (au (dN D)) (nt (dN D).natAbs) (dE D) S B HS.out w1.heap.size 2 39 _ ui.out Hn.out hB Hv.out (by first|exact(hT.below Hb.out) |exact aH.drew (hT.below Hb.out) |exact aH.alloc (hT.below Hb.out) _|exact aH.drew (aH.alloc (hT.below Hb.out) _) |exact aH.alloc (aH.drew (hT.below Hb.out)) _)).mono ?_
 rintro e w2 ⟨rfl,hq⟩;have ae:Bw W1 w2:=by first|exact hq|exact aW hq
 clear x0 x1 x2 y0 y1 y2 r0 aj r1 ak r2 aF v0 v1 v2 v3 v4 v5;obtain⟨Hx,x0,x1,x2⟩:=aQ Hx ae;obtain⟨Hy,y0,y1,y2⟩:=aQ Hy ae;obtain⟨Hr,r0,aj,r1,ak,r2,aF⟩:=aN Hr ae;obtain⟨Hv,v0,v1,v2,v3,v4,v5⟩:=fU Hv ae;replace Hb:=aB Hb ae;clear ae;refine hK _ _ (λ_=>⟨x0,x1,x2,y0,y1,y2⟩) ?_;clear hK K
 refine aI rfl rfl (λK hK=>?_);go_simp;refine hK _ _ (λh=>absurd h zd) ?_;clear hK K
 clear x0 x1 x2 y0 y1 y2 r0 aj r1 ak r2 aF v0 v1 v2 v3 v4 v5;refine bV (bC w2 (w.heap.size+1+1) 0 [ag (au (dN S)),ah (nt (dN S).natAbs),af (dE S)]) bJ ?_;intro w3 hs;replace Hx:=kS Hx hs zo;replace Hy:=kS Hy hs zo;replace Hr:=bP Hr hs;replace Hv:=kS Hv hs zo;obtain⟨x0,x1,x2⟩:=Hx.out.c3;obtain⟨y0,y1,y2⟩:=Hy.out.c3;obtain⟨r0,aj,r1,ak,r2,aF⟩:=Hr.out.g3;obtain⟨v0,v1,v2,v3,v4,v5⟩:=Hv.out.c6;replace Hb:=bS Hb hs ZS;clear hs;simp only[bi];go_wp2;exact bodyPost_ret (v:=bL S) (by simp[results,Tryz.results98,go_sem,r0,r1,r2]) rfl ⟨rfl,df⟩
theorem OZ (n k:Int):bA (Dyadic.ofIntWithPrec n k)=eQ n:=by have h:=Td (au n) (nt n.natAbs) (-k);rw[vF,eX,Int.neg_neg]at h;exact h.symm
theorem vD (s:Bool)(l:List UInt8)(e:Int)(t:Bool)(m:List UInt8)(f:Int)(c:Int)(hc:bA (az (s,l,e)-az (t,m,f))=c)(w:World)(hx:Ok (s,l,e))(hy:Ok (t,m,f))(hT:aH w):
 Calls Tryz.prog 25 #[.agg #[ag s,ah l,af e],.agg #[ag t,ah m,af f]] w λe w'=>e=.returned (af c)/\Bw w w':=by
 obtain⟨g,X,Y,hg,hX,hY,eA,eB,lX,lY,hg1,hg2⟩:=abn hx hy _ _ rfl rfl;have Qx:eQ (X-Y)=c:=by rw[<-hc,eA,eB,show ∀a b:Dyadic,a-b=a+ -b from λa b=>by grind,Ii,AP,OZ];rfl
 obtain⟨u,hu⟩:=aG (bA (az (s,l,e)));obtain⟨v,hv⟩:=aG (bA (az (t,m,f)));have hu2:eQ X=u:=by rw[<-hu,eA,OZ]
 have hv2:eQ Y=v:=by rw[<-hv,eB,OZ]
 have ru: -1<=u/\u<=1:=by rw[<-hu2];unfold eQ;split<;>(try split)<;>omega
 have rv: -1<=v/\v<=1:=by rw[<-hv2];unfold eQ;split<;>(try split)<;>omega
 have BL:Hid (∀W,aH W->Calls Tryz.prog 66 #[.agg #[ag s,ah l,af e],.agg #[ag t,ah m,af f]] W λex w'=>ex=.returned (.agg #[af g,ag (au X),ah (nt X.natAbs),ag (au Y),ah (nt Y.natAbs)])/\Bw W w'):=λW hW=>
  aa5 s l e t m f _ _ rfl rfl g X Y hg hX hY W hx hy hW
 have yJ:Hid (∀W,Calls Tryz.prog 67 #[cX X,cX Y] W λex w'=>ex=.returned (af c)/\Bw W w'):=λW=>by
  have:=arJ (au X) (nt X.natAbs) (au Y) (nt Y.natAbs) W zo zo (by rw[eX,eX,Int.sub_eq_add_neg];exact Nat.le_trans (VR X (-Y) 17179869183 lX (by rw[Int.natAbs_neg];exact lY)) zd)
  rw[eX,eX,Qx]at this;exact this
 have hcl:¬u=v->max (-1) (min 1 (u-v))=c:=by intro hne;rw[<-Qx];rw[<-hu2,<-hv2]at hne⊢;unfold eQ at*;split<;>split<;>(try split)<;>(try split)<;>(try split)<;>omega
 have hwr:IntKind.i64.wrap (u-v)=u-v:=by rw[IntKind.wrap_i64];omega
 obtain⟨Hu,Hv,ui,jA⟩:=dx hu hv hx hy;clear hu hv hu2 hv2 hx hy Qx hc eA eB hX hY hg;go_enter Tryz.func25,Tryz.ntmps25;have Hb:Hid (Bw w w):=Below.refl _ _;go_wp2_with fail;obtain⟨R,hR⟩:∃R:World->Prop,(λW=>ar W (w.heap.size) 39 [ag s,ah l,af e]/\ar W (w.heap.size+1) 39 [ag t,ah m,af f]/\Bw w W)=R:=⟨_,rfl⟩;first|refine cf R ?hR ?_|refine bZ R ?hR ?_
 case hR=>subst hR;exact⟨((ar.newAt w _ _ (b:=w.heap.size) rfl).alloc _),(ar.newAt (w.alloc _) _ _ (b:=w.heap.size+1) zm),(zl.alloc zj _)⟩
 subst hR;rintro W ⟨qx,qy,ae⟩;have Hx:=ai qx;clear qx;have Hy:=ai qy;clear qy;obtain⟨x0,x1,x2⟩:=Hx.out.c3;obtain⟨y0,y1,y2⟩:=Hy.out.c3;replace Hb:=aB Hb ae;clear ae;refine bR (λw'=>aC w' (w.heap.size) 0 (ag s)/\aC w' (w.heap.size) 1 (ah l)/\aC w' (w.heap.size) 2 (af e)/\aC w' (w.heap.size+1) 0 (ag t)/\aC w' (w.heap.size+1) 1 (ah m)/\aC w' (w.heap.size+1) 2 (af f)) (λi=>Nat.blt i 100000) [(0,true),(2,true),(1,false),(3,false),(4,true),(5,true)] zk zk rfl zk zc ⟨x0,x1,x2,y0,y1,y2⟩ ?_;iterate 2 (refine pT rfl rfl ?_ (by intro w' ⟨q0,q1,q2,q3,q4,q5⟩;go_simp;try with_reducible rfl))
 refine aI rfl rfl (λK hK=>?_);go_simp;with_reducible refine(oV s l e u Hu.out _ ui.out).mono ?_
 rintro e w1 ⟨rfl,hq⟩;have ae:Bw W w1:=by first|exact hq|exact aW hq
 clear x0 x1 x2 y0 y1 y2;obtain⟨Hx,x0,x1,x2⟩:=aQ Hx ae;obtain⟨Hy,y0,y1,y2⟩:=aQ Hy ae;replace Hb:=aB Hb ae;clear ae;refine hK _ _ (λ_=>⟨x0,x1,x2,y0,y1,y2⟩) ?_;clear hK K
 refine aI rfl rfl (λK hK=>?_);go_simp;with_reducible refine(oV t m f v Hv.out _ jA.out).mono ?_
 rintro e w2 ⟨rfl,hq⟩;have ae:Bw w1 w2:=by first|exact hq|exact aW hq
 clear x0 x1 x2 y0 y1 y2;obtain⟨Hx,x0,x1,x2⟩:=aQ Hx ae;obtain⟨Hy,y0,y1,y2⟩:=aQ Hy ae;replace Hb:=aB Hb ae;clear ae;refine hK _ _ (λ_=>⟨x0,x1,x2,y0,y1,y2⟩) ?_;clear hK K
 iterate 2 (refine pT rfl rfl ?_)
 simp only[bi];by_cases vW:u=v
 . subst vW;clear hcl;go_wp2_with fail;have HT:=ai (hT.below Hb.out);go_wp2_with fail;refine(BL.out _ HT.out).mono ?_;rintro e w3 ⟨rfl,ae⟩;clear x0 x1 x2 y0 y1 y2;obtain⟨Hx,x0,x1,x2⟩:=aQ Hx ae;obtain⟨Hy,y0,y1,y2⟩:=aQ Hy ae;replace Hb:=aB Hb ae;clear ae;have anA:=Hx.out.lt;have av4:=Hy.out.lt;go_wp2_with fail;obtain⟨R,hR⟩:∃R:World->Prop,(λW4=>ar W4 (w3.heap.size) 100 [af g,ag (au X),ah (nt X.natAbs),ag (au Y),ah (nt Y.natAbs)]/\Bw w3 W4)=R:=⟨_,rfl⟩;first|refine cf R ?hR ?_|refine bZ R ?hR ?_
   case hR=>subst hR;exact⟨(ar.newAt w3 _ _ (b:=w3.heap.size) rfl),zl⟩
   subst hR;rintro W4 ⟨qp,ae⟩;have Hp:=ai qp;clear qp x0 x1 x2;obtain⟨Hx,x0,x1,x2⟩:=aQ Hx ae;clear y0 y1 y2;obtain⟨Hy,y0,y1,y2⟩:=aQ Hy ae;obtain⟨p0,p1,p2,p3,p4⟩:=Hp.out.c5;replace Hb:=aB Hb ae;clear ae;go_wp2_with fail;refine(yJ.out _).mono ?_;rintro e w5 ⟨rfl,ae⟩;clear x0 x1 x2 y0 y1 y2 p0 p1 p2 p3 p4;obtain⟨Hx,x0,x1,x2⟩:=aQ Hx ae;obtain⟨Hy,y0,y1,y2⟩:=aQ Hy ae;replace Hp:=kB Hp ae;obtain⟨p0,p1,p2,p3,p4⟩:=Hp.out.c5;replace Hb:=aB Hb ae;clear ae;go_wp2;go_ret;exact⟨rfl,Hb.out⟩
 . have hcl:=hcl vW;have aun:(u !=v)=true:=by simp[vW]
   go_wp2;go_ret;exact⟨rfl,Hb.out⟩
theorem ajl (s:Bool)(l:List UInt8)(e:Int)(D:Dyadic)(hD:(if bA (az (s,l,e))<0 then-az (s,l,e)else az (s,l,e))=D)(w:World)(hx:Ok (s,l,e))(hT:aH w):
 Calls Tryz.prog 145 #[.agg #[ag s,ah l,af e]] w λex w'=>ex=.returned (bL D)/\Bw w w':=by
 obtain⟨u,hu⟩:=aG (bA (az (s,l,e)));have ui:=ai hx;clear hx;have Hu:=ai hu;rw[hu]at hD;clear hu;by_cases h:u<0
 . rw[if_pos h]at hD;have HD:=ai hD;clear hD;go_enter Tryz.func145,Tryz.ntmps145;have Hb:Hid (Bw w w):=Below.refl _ _;go_wp2_with fail;obtain⟨R,hR⟩:∃R:World->Prop,(λW=>ar W (w.heap.size) 39 [ag s,ah l,af e]/\ar W (w.heap.size+1) 39 [ag false,.string (bs []),af 0]/\Bw w W)=R:=⟨_,rfl⟩;first|refine cf R ?hR ?_|refine bZ R ?hR ?_
   case hR=>subst hR;exact⟨((ar.newAt w _ _ (b:=w.heap.size) rfl).alloc _),(ar.newAt (w.alloc _) _ _ (b:=w.heap.size+1) zm),(zl.alloc zj _)⟩
   subst hR;rintro W ⟨qx,qr,ae⟩;have Hx:=ai qx;clear qx;have Hr:=ai qr;clear qr;obtain⟨x0,x1,x2⟩:=Hx.out.c3;obtain⟨r0,aj,r1,ak,r2,aF⟩:=Hr.out.g3;replace Hb:=aB Hb ae;clear ae;go_wp2_with fail;refine(oV s l e u Hu.out _ ui.out).mono ?_;rintro e w1 ⟨rfl,ae⟩;clear x0 x1 x2 r0 aj r1 ak r2 aF;obtain⟨Hx,x0,x1,x2⟩:=aQ Hx ae;obtain⟨Hr,r0,aj,r1,ak,r2,aF⟩:=aN Hr ae;replace Hb:=aB Hb ae;clear ae;have HT:=ai (hT.below Hb.out);go_wp2_with fail;refine(OV s l e D HD.out _ ui.out HT.out).mono ?_;rintro e w2 ⟨rfl,ae⟩;clear x0 x1 x2 r0 aj r1 ak r2 aF;obtain⟨Hx,x0,x1,x2⟩:=aQ Hx ae;obtain⟨Hr,r0,aj,r1,ak,r2,aF⟩:=aN Hr ae;replace Hb:=aB Hb ae;clear ae;go_wp2;exact bodyPost_ret (v:=bL D) (by simp[results,Tryz.results145,go_sem,r0,r1,r2]) rfl ⟨rfl,df⟩
 . rw[if_neg h]at hD;have HD:=ai hD;clear hD;have h2:0<=u:=by omega
   go_enter Tryz.func145,Tryz.ntmps145;have Hb:Hid (Bw w w):=Below.refl _ _;go_wp2_with fail;obtain⟨R,hR⟩:∃R:World->Prop,(λW=>ar W (w.heap.size) 39 [ag s,ah l,af e]/\ar W (w.heap.size+1) 39 [ag false,.string (bs []),af 0]/\Bw w W)=R:=⟨_,rfl⟩;first|refine cf R ?hR ?_|refine bZ R ?hR ?_
   case hR=>subst hR;exact⟨((ar.newAt w _ _ (b:=w.heap.size) rfl).alloc _),(ar.newAt (w.alloc _) _ _ (b:=w.heap.size+1) zm),(zl.alloc zj _)⟩
   subst hR;rintro W ⟨qx,qr,ae⟩;have Hx:=ai qx;clear qx;have Hr:=ai qr;clear qr;obtain⟨x0,x1,x2⟩:=Hx.out.c3;obtain⟨r0,aj,r1,ak,r2,aF⟩:=Hr.out.g3;replace Hb:=aB Hb ae;clear ae;go_wp2_with fail;refine(oV s l e u Hu.out _ ui.out).mono ?_;rintro e w1 ⟨rfl,ae⟩;clear x0 x1 x2 r0 aj r1 ak r2 aF;obtain⟨Hx,x0,x1,x2⟩:=aQ Hx ae;obtain⟨Hr,r0,aj,r1,ak,r2,aF⟩:=aN Hr ae;replace Hb:=aB Hb ae;clear ae;have HT:=ai (hT.below Hb.out);go_wp2_with fail;refine(sV s l e D HD.out _ ui.out HT.out).mono ?_;rintro e w2 ⟨rfl,ae⟩;clear x0 x1 x2 r0 aj r1 ak r2 aF;obtain⟨Hx,x0,x1,x2⟩:=aQ Hx ae;obtain⟨Hr,r0,aj,r1,ak,r2,aF⟩:=aN Hr ae;replace Hb:=aB Hb ae;clear ae;go_wp2;exact bodyPost_ret (v:=bL D) (by simp[results,Tryz.results145,go_sem,r0,r1,r2]) rfl ⟨rfl,df⟩
end Go.Proofs.YtoopepmmepmfnaaGreatDoor
namespace Go.Proofs.YtoopepmmepmfnaaGreatDoor
theorem aoI (n k:Int):Dyadic.ofIntWithPrec n k<0↔n<0:=by
 rw[<-Dyadic.toRat_lt_toRat_iff,Dyadic.toRat_ofIntWithPrec_eq_mul_two_pow,Dyadic.toRat_zero];have h2:(0:Rat)<2^(-k):=Rat.zpow_pos zd;constructor
 . intro h;by_cases h3:n<0
   . exact h3
   . exfalso
     have h4:(0:Rat)<=(n:Rat):=by exact_mod_cast Int.not_lt.1 h3
     have h5:=Rat.mul_nonneg h4 (Rat.le_of_lt h2);grind
 . intro h;have h4:(n:Rat)<0:=by exact_mod_cast h
   have:=Rat.mul_lt_mul_of_pos_right h4 h2;grind
theorem zG (X:Dyadic):bA X<0↔X<0:=by
 conv=>rhs;rw[uQ X]
 rw[aoI];unfold bA eQ;split
 . rename_i h;simp[h]
 . rename_i h
   split<;>simp<;>omega
theorem WX (X:Dyadic):bA X=0↔X=0:=by
 constructor
 . intro h;have h1:dN X=0:=by
    unfold bA eQ at h;by_cases h1:dN X<0
    . rw[if_pos h1]at h;cases h
    . rw[if_neg h1]at h;by_cases h2:dN X=0
      . exact h2
      . rw[if_neg h2]at h;cases h
   have h2:=uQ X;rw[h1,yq]at h2;exact h2
 . rintro rfl;rfl
def ol (X:Dyadic):Dyadic:=Dyadic.ofIntWithPrec (bA X) 0
theorem Tb (X:Dyadic):ol X=if X<0 then-1 else if X=0 then 0 else 1:=by
 unfold ol;have h1:=zG X;have h2:=WX X;have h3:bA X= -1\/bA X=0\/bA X=1:=by
  unfold bA eQ;split
  . exact .inl rfl
  . split
    . exact .inr (.inl rfl)
    . exact .inr (.inr rfl)
 rcases h3 with h|h|h
 . rw[if_pos (h1.1 zo),h];rfl
 . rw[if_neg (λh4=>by have:=h1.2 h4;omega),if_pos (h2.1 h),h];rfl
 . rw[if_neg (λh4=>by have:=h1.2 h4;omega),if_neg (λh4=>by have:=h2.2 h4;omega),h];rfl
def jb (n:Nat)(p:Nat->Nat->Dyadic)(x:Nat->Dyadic)(k:Nat):Dyadic:=ol (dw n p) *dw n (oC p k x)
def gK (e:Nat->Nat->Dyadic)(r c:Nat):Nat->Nat->Dyadic:=λa b=>e (if a<r then a else a+1) (if b<c then b else b+1)
def CX (n:Nat)(e:Nat->Nat->Dyadic)(y:Nat->Dyadic)(i:Nat):Nat->Dyadic
 |0=>0
 |k+1=>CX n e y i k+y k* (if(k+i)%2=1 then-cH (n-1) (gK e i k)else cH (n-1) (gK e i k))
theorem amO (n:Nat)(hn:1<=n)(bO:n<=4)(e:Nat->Nat->Dyadic)(y:Nat->Dyadic)(i:Nat)(hi:i<n):CX n e y i n=cH n λa b=>if a=i then y b else e a b:=by
 have hc:(n=1/\i=0)\/(n=2/\i=0)\/(n=2/\i=1)\/(n=3/\i=0)\/(n=3/\i=1)\/(n=3/\i=2)\/(n=4/\i=0)\/(n=4/\i=1)\/(n=4/\i=2)\/(n=4/\i=3):=by omega
 rcases hc with⟨rfl,rfl⟩ |⟨rfl,rfl⟩ |⟨rfl,rfl⟩ |⟨rfl,rfl⟩ |⟨rfl,rfl⟩ |⟨rfl,rfl⟩ |⟨rfl,rfl⟩ |⟨rfl,rfl⟩ |⟨rfl,rfl⟩ |⟨rfl,rfl⟩<;>(simp[CX,cH,gK];try grind)
theorem aj1 (n:Nat)(p:Nat->Nat->Dyadic)(x:Nat->Dyadic)(i:Nat):dw n (oC p (i+1) x)=cH n λa b=>if a=i then x b-p 0 b else p (a+1) b-p 0 b:=by
 unfold dw oC;congr 1;funext a b
 by_cases h:a=i
 . rw[if_pos h,if_pos zo,if_neg zo]
 . rw[if_neg h,if_neg zo,if_neg zo]
def fC (f:Nat->Dyadic):Nat->Dyadic
 |0=>0
 |k+1=>fC f k+f k
theorem ar5 (n:Nat)(hn:1<=n)(bO:n<=4)(p:Nat->Nat->Dyadic)(x:Nat->Dyadic):dw n (oC p 0 x)=dw n p-fC (λi=>dw n (oC p (i+1) x)) n:=by
 have hc:n=1\/n=2\/n=3\/n=4:=by omega
 rcases hc with rfl|rfl|rfl|rfl<;>(simp[fC,dw,cH,oC];grind)
end Go.Proofs.YtoopepmmepmfnaaGreatDoor
namespace Go.Proofs.YtoopepmmepmfnaaGreatDoor
open Go.RowKit
attribute [local go_sem ↓] Go.wp_at_zero Go.wp_at_succ
def gp (l:List UInt8)(v:Int):Bool:=(l.all λc=>decide (c.toNat<=127))&&decide ((l.length:Int)=v)
theorem LR (l:List UInt8)(v:Int)(w:World)(hl:l.length<=9223372036854775807):
 Calls Tryz.prog 187 #[ah l,af v] w λe w'=>e=.returned (ag (gp l v))/\Bw w w':=by
 obtain⟨n,hn⟩:=aG l.length;have hsz:(bs l).size=n:=by rw[oP,hn]
 obtain⟨M,hM⟩:=aG (gp l v);rw[hM];obtain⟨HM,Hn⟩:=aO hM hn;rw[hn]at hl;clear hM hn;go_enter Tryz.func187,Tryz.ntmps187;have Hb:Hid (Bw w w):=Below.refl _ _;go_wp2_with fail;go_loopw[8] (λx wr=>∃k:Nat,k<=n/\x=af (k:Int)/\((l.take k).all λc=>decide (c.toNat<=127))=true/\Bw w wr) (λx _=>n-(intOf x).toNat);case atStart=>exact⟨0,Nat.zero_le _,rfl,rfl,Hb.out⟩
 case round=>
  clear Hb;obtain⟨k,hk,rfl,hall,pb⟩:=hrel;obtain⟨sA,Hb⟩:=aO hall pb;clear hall pb;by_cases hlt:k<n
  . have hk2:k<l.length:=by rw[Hn.out];exact hlt
    have ix:=Aw l (k:Int) k hk2 rfl;obtain⟨c,hc⟩:∃c:Nat,(l[k]).toNat=c:=⟨_,rfl⟩;rw[hc]at ix;by_cases h1:127<c
    . have h2:(127:Int)<(c:Int):=by omega
      have Ag:M=false:=by
       rw[<-HM.out];unfold gp;have:(l.all λc=>decide (c.toNat<=127))=false:=by rw[List.all_eq_false];exact⟨l[k],List.getElem_mem hk2,by simp;omega⟩
       rw[this];rfl
      subst Ag;go_wp2;exact bodyPost_ret (v:=ag false) (by simp[results,Tryz.results187,go_sem]) rfl ⟨rfl,df⟩
    . have h2:¬(127:Int)<(c:Int):=by omega
      have bX:Hid (((l.take (k+1)).all λc=>decide (c.toNat<=127))=true):=by
       show _=_
       rw[List.take_succ_eq_append_getElem hk2,List.all_append,sA.out];simp;omega
      clear hc;go_wp2;go_roundw;case rel=>exact⟨k+1,by omega,by go_num,bX.out,Hb.out⟩
      case measure=>simp[intOf];omega
  . obtain rfl:k=n:=by omega
    have hme:M=decide ((k:Int)=v):=by rw[<-HM.out];have h:=sA.out;rw[List.take_of_length_le (by rw[Hn.out];exact Nat.le_refl _)]at h;unfold gp;rw[h,Hn.out,Bool.true_and]
    have Ny:=ai hme;clear hme;go_wp2;refine bodyPost_ret (results_tmp rfl _ _ _) rfl ⟨?_,Hb.out⟩;rw[Ny.out];by_cases h:(k:Int)=v<;>simp[h]
theorem Kj (v:Int)(w:World):
 Calls Tryz.prog 146 #[af v] w λe w'=>e=.returned (ag (decide (0<=v/\v<=12)))/\Bw w w':=by
 have Hb:Hid (Bw w w):=Below.refl _ _;go_enter Tryz.func146,Tryz.ntmps146;by_cases h1:0<=v
 . by_cases h2:v<=12
   . go_wp2;refine bodyPost_ret (results_tmp rfl _ _ _) rfl ⟨?_,Hb.out⟩;simp[h2];omega
   . go_wp2;refine bodyPost_ret (results_tmp rfl _ _ _) rfl ⟨?_,Hb.out⟩;simp[h2]
 . go_wp2;refine bodyPost_ret (results_tmp rfl _ _ _) rfl ⟨?_,Hb.out⟩;simp;omega
end Go.Proofs.YtoopepmmepmfnaaGreatDoor
namespace Go.Proofs.YtoopepmmepmfnaaGreatDoor
theorem aqT (f g:Nat->Dyadic)(n:Nat):fC (λi=>f i+g i) n=fC f n+fC g n:=by
 induction n with
 |zero=>simp[fC]
 |succ n ih=>simp only[fC,ih];grind
theorem ac6 (f:Nat->Dyadic)(c:Dyadic)(n:Nat):fC (λi=>f i*c) n=fC f n*c:=by
 induction n with
 |zero=>simp[fC]
 |succ n ih=>simp only[fC,ih];grind
theorem aqU (f:Nat->Dyadic)(c:Dyadic)(n:Nat):fC (λi=>c*f i) n=c*fC f n:=by
 induction n with
 |zero=>simp[fC]
 |succ n ih=>simp only[fC,ih];grind
theorem ac5 {f g:Nat->Dyadic}(n:Nat)(h:∀k,k<n->f k=g k):fC f n=fC g n:=by
 induction n with
 |zero=>rfl
 |succ n ih=>simp only[fC];rw[ih (λk hk=>h k zo),h n zo]
def ng (d:(Nat->Nat->Dyadic)->Dyadic)(e:Nat->Nat->Dyadic):Nat->Dyadic
 |0=>0
 |k+1=>ng d e k+(if k%2=1 then-(e 0 k*d (gK e 0 k))else e 0 k*d (gK e 0 k))
def oh :Nat->(Nat->Nat->Dyadic)->Dyadic
 |0,_=>1
 |n+1,e=>ng (oh n) e (n+1)
theorem acp (n:Nat)(hn:n<=4)(e:Nat->Nat->Dyadic):oh n e=cH n e:=by
 have h0:∀e,oh 0 e=cH 0 e:=λe=>rfl;have h1:∀e,oh 1 e=cH 1 e:=λe=>by simp[oh,ng,cH];grind
 have h2:∀e,oh 2 e=cH 2 e:=λe=>by
  show ng (oh 1) e 2=_
  rw[show oh 1=cH 1 from funext h1];simp[ng,cH,gK];grind
 have h3:∀e,oh 3 e=cH 3 e:=λe=>by
  show ng (oh 2) e 3=_
  rw[show oh 2=cH 2 from funext h2];simp[ng,cH,gK];grind
 have h4:∀e,oh 4 e=cH 4 e:=λe=>by
  show ng (oh 3) e 4=_
  rw[show oh 3=cH 3 from funext h3];simp[ng,cH,gK];grind
 have hc:n=0\/n=1\/n=2\/n=3\/n=4:=by omega
 rcases hc with rfl|rfl|rfl|rfl|rfl
 . exact h0 e
 . exact h1 e
 . exact h2 e
 . exact h3 e
 . exact h4 e
end Go.Proofs.YtoopepmmepmfnaaGreatDoor
