/- Package whole,on: Sub,Cmp,Mul,Shift. -/
import Derived.Test.YtdaadlblknpipaaGreatDoorZ6
import Derived.Deep.DeepCutAuto
set_option linter.unusedVariables false
set_option linter.unusedSimpArgs false
set_option maxRecDepth 100000
set_option maxHeartbeats 16000000
namespace Go.Proofs.YtdaadlblknpipaaGreatDoor
open Go.RowKit
attribute [local go_sem ↓] Go.wp_at_zero Go.wp_at_succ
theorem XE (s:Bool)(l:List UInt8)(t:Bool)(m:List UInt8)(b cap:Nat)(ty:TypeId)(w:World)(hl:l.length<=34359738368)(hm:m.length<=34359738368)
 (ha:ai w b ty [.bool s,.string (bs l),.bool t,.string (bs m)]):
 Calls Tryz.prog 76 #[.slice (some ⟨b,0,none⟩) 2 cap] w λe w'=>e=.returned (cB (iv s l+iv t m))/\Bw w w':=by
 have:=akq [(s,l),(t,m)] (some ⟨b,0,none⟩) cap w (by simp[hl,hm]) zm (At.an6 ha);have e:jX [(s,l),(t,m)]=iv s l+iv t m:=by simp[jX]
 rw[e]at this;exact this
theorem CN (s:Bool)(m:List UInt8)(B:Nat)(hm:m.length<=B):(nt (-(iv s m)).natAbs).length<=B:=by rw[Int.natAbs_neg,mr];exact il (Nat.lt_of_lt_of_le (fD m) (Nat.pow_le_pow_right zd hm))
theorem GJ (s:Bool)(l:List UInt8)(N:Int)(hN: -(iv s l)=N)(w:World)(hl:l.length<=1099511627776):
 Calls Tryz.prog 107 #[.agg #[.bool s,.string (bs l)]] w λe w'=>e=.returned (cB N)/\Bw w w':=by
 subst hN;exact XI s l w hl
theorem Ol (s:Bool)(l:List UInt8)(t:Bool)(m:List UInt8)(w:World)(hl:l.length<=34359738368)(hm:m.length<=34359738368):
 Calls Tryz.prog 109 #[.agg #[.bool s,.string (bs l)],.agg #[.bool t,.string (bs m)]] w λe w'=>e=.returned (cB (iv s l-iv t m))/\Bw w w':=by
 have hm2:=CN t m 34359738368 hm;have He:Hid (iv s l+iv (au (-(iv t m))) (nt (-(iv t m)).natAbs)=iv s l-iv t m):=by show _=_;rw[eV];omega
 generalize hN: -(iv t m)=N at*;have HN:=ah hN;clear hN;go_enter Tryz.func109,Tryz.ntmps109;have Hb:Hid (Bw w w):=Below.refl _ _;go_wp2_with fail;obtain⟨R,hR⟩:∃R:World->Prop,(λW=>ai W (w.heap.size) 28 [.bool s,.string (bs l)]/\ai W (w.heap.size+1) 28 [.bool t,.string (bs m)]/\ai W (w.heap.size+1+1) 28 [.bool false,.string (bs [])]/\Bw w W)=R:=⟨_,rfl⟩;first|refine bG R ?hR ?_|refine bF R ?hR ?_
 case hR=>subst hR;exact⟨(((ai.newAt w _ _ (b:=w.heap.size) rfl).alloc _).alloc _),((ai.newAt (w.alloc _) _ _ (b:=w.heap.size+1) zm).alloc _),(ai.newAt ((w.alloc _).alloc _) _ _ (b:=w.heap.size+1+1) zm),((zl.alloc zj _).alloc zj _)⟩
 subst hR;rintro W ⟨qx,qy,qr,ae⟩;have Hx:=ah qx;clear qx;have Hy:=ah qy;clear qy;have Hr:=ah qr;clear qr;obtain⟨x0,x1⟩:=Hx.out.c2;obtain⟨y0,y1⟩:=Hy.out.c2;obtain⟨r0,aj,r1,ar⟩:=Hr.out.g2;replace Hb:=az Hb ae;clear ae;have MV:w.heap.size≠w.heap.size+1+1:=by omega
 have VZ:w.heap.size+1≠w.heap.size+1+1:=by omega
 go_region_held3 (λw'=>w'.cell? ⟨w.heap.size,0,none⟩=some (.bool s)/\w'.cell? ⟨w.heap.size,1,none⟩=some (.string (bs l))/\w'.cell? ⟨w.heap.size+1,0,none⟩=some (.bool t)/\w'.cell? ⟨w.heap.size+1,1,none⟩=some (.string (bs m))) (((try dsimp only);go_split_ands;(repeat' apply And.intro)<;>(first|exact True.intro|with_reducible assumption| ((with_reducible refine fc zg ?_);(repeat(with_reducible refine fc zg ?_));with_reducible assumption) |exact cell_later (by with_reducible assumption) (by with_reducible assumption) |exact aI (by with_reducible assumption) |go_keep))) (first| (go_at_call 107;(with_reducible refine(GJ t m N HN.out _ zo).mono ?_);rintro e w1 ⟨rfl,hq⟩;have hw1:Bw W w1:=(by first|exact aO hq|exact hq|exact nR hq|exact oU hq|exact rQ hq);clear hq;have jM:=ah (Hx.out.below hw1);have xA:w1.cell? ⟨w.heap.size,0,none⟩=some (.bool s):=jM.out.cell 0;have xB:w1.cell? ⟨w.heap.size,1,none⟩=some (.string (bs l)):=jM.out.cell 1;have nP:=ah (Hy.out.below hw1);have Dw:w1.cell? ⟨w.heap.size+1,0,none⟩=some (.bool t):=nP.out.cell 0;have Dx:w1.cell? ⟨w.heap.size+1,1,none⟩=some (.string (bs m)):=nP.out.cell 1;have gq:=ah (Hr.out.below hw1);have xo:w1.cell? ⟨w.heap.size+1+1,0,none⟩=some (.bool false):=gq.out.cell 0;have vO:w1.frozen? ⟨w.heap.size+1+1,0,none⟩=false:=gq.out.free 0;have xp:w1.cell? ⟨w.heap.size+1+1,1,none⟩=some (.string (bs [])):=gq.out.cell 1;have vP:w1.frozen? ⟨w.heap.size+1+1,1,none⟩=false:=gq.out.free 1) | (go_at_call 76;(with_reducible refine(XE s l (au N) (nt N.natAbs) w1.heap.size 2 28 _ hl hm2 (by first|exact ai.drew (ai.new _ _ _) |exact ai.new _ _ _)).mono ?_);rintro e w2 ⟨rfl,hq⟩;have hw2:Bw w1 w2:=(by first|exact aO hq|exact hq|exact nR hq|exact oU hq|exact rQ hq);clear hq;have vE:=ah (jM.out.below hw2);have Ot:w2.cell? ⟨w.heap.size,0,none⟩=some (.bool s):=vE.out.cell 0;have Ou:w2.cell? ⟨w.heap.size,1,none⟩=some (.string (bs l)):=vE.out.cell 1;have JO:=ah (nP.out.below hw2);have akR:w2.cell? ⟨w.heap.size+1,0,none⟩=some (.bool t):=JO.out.cell 0;have akS:w2.cell? ⟨w.heap.size+1,1,none⟩=some (.string (bs m)):=JO.out.cell 1;have oN:=ah (gq.out.below hw2);have Ns:w2.cell? ⟨w.heap.size+1+1,0,none⟩=some (.bool false):=oN.out.cell 0;have KE:w2.frozen? ⟨w.heap.size+1+1,0,none⟩=false:=oN.out.free 0;have Nt:w2.cell? ⟨w.heap.size+1+1,1,none⟩=some (.string (bs [])):=oN.out.cell 1;have KF:w2.frozen? ⟨w.heap.size+1+1,1,none⟩=false:=oN.out.free 1))
 replace Hb:=ah (aK Hb.out hw1);clear hw1;replace Hb:=ah (aK Hb.out hw2);clear hw2 x0 x1 y0 y1 r0 aj r1 ar;replace Hx:=vE;clear jM xA xB Ot Ou;replace Hy:=JO;clear nP Dw Dx akR akS;replace Hr:=oN;clear gq xo vO xp vP Ns KE Nt KF;obtain⟨x0,x1⟩:=Hx.out.c2;obtain⟨y0,y1⟩:=Hy.out.c2;obtain⟨r0,aj,r1,ar⟩:=Hr.out.g2;rw[He.out];go_wp2;refine bodyPost_ret (v:=cB (iv s l-iv t m)) (by simp[results,Tryz.results109,go_sem,r0,r1]) rfl ⟨rfl,?_⟩;(repeat first|exact Hb.out| (refine Below.setCell ?_ (by have:=Hb.out.size;first| (dsimp only;omega) | (show _<=_;omega) | (simp<;>omega)) _) | (refine Below.alloc ?_ zt _) |refine Below.drew ?_)
theorem akt (s:Bool)(l:List UInt8)(t:Bool)(m:List UInt8)(w:World)(hl:l.length<=34359738368)(hm:m.length<=34359738368)(hd:(nt (iv s l-iv t m).natAbs).length<=1099511627776):
 Calls Tryz.prog 72 #[.agg #[.bool s,.string (bs l)],.agg #[.bool t,.string (bs m)]] w λe w'=>e=.returned (.int .i64 (dP (iv s l-iv t m)))/\Bw w w':=by
 have Hi:=ah (eV (iv s l-iv t m));go_enter Tryz.func72,Tryz.ntmps72;have Hb:Hid (Bw w w):=Below.refl _ _;go_wp2_with fail;obtain⟨R,hR⟩:∃R:World->Prop,(λW=>ai W (w.heap.size) 28 [.bool s,.string (bs l)]/\ai W (w.heap.size+1) 28 [.bool t,.string (bs m)]/\Bw w W)=R:=⟨_,rfl⟩;first|refine bG R ?hR ?_|refine bF R ?hR ?_
 case hR=>subst hR;exact⟨((ai.newAt w _ _ (b:=w.heap.size) rfl).alloc _),(ai.newAt (w.alloc _) _ _ (b:=w.heap.size+1) zm),(zl.alloc zj _)⟩
 subst hR;rintro W ⟨qx,qy,ae⟩;have Hx:=ah qx;clear qx;have Hy:=ah qy;clear qy;obtain⟨x0,x1⟩:=Hx.out.c2;obtain⟨y0,y1⟩:=Hy.out.c2;replace Hb:=az Hb ae;clear ae;go_wp2_with fail;refine(Ol s l t m _ hl hm).mono ?_;rintro e w1 ⟨rfl,ae⟩;clear x0 x1 y0 y1;replace Hx:=kB Hx ae;replace Hy:=kB Hy ae;obtain⟨x0,x1⟩:=Hx.out.c2;obtain⟨y0,y1⟩:=Hy.out.c2;replace Hb:=az Hb ae;clear ae;go_wp2_with fail;refine(Dq (au (iv s l-iv t m)) (nt (iv s l-iv t m).natAbs) _ hd).mono ?_;rintro e w2 ⟨rfl,ae⟩;clear x0 x1 y0 y1;replace Hx:=kB Hx ae;replace Hy:=kB Hy ae;obtain⟨x0,x1⟩:=Hx.out.c2;obtain⟨y0,y1⟩:=Hy.out.c2;replace Hb:=az Hb ae;clear ae;rw[Hi.out];go_wp2;go_ret;exact⟨rfl,Hb.out⟩
theorem Oj (s:Bool)(l:List UInt8)(n:Nat)(w:World)(hl:l.length<=68719476736)(hn:n<=549755813888):
 Calls Tryz.prog 106 #[.agg #[.bool s,.string (bs l)],.int .i64 (n:Int)] w λe w'=>e=.returned (cB (iv s l*2^n))/\Bw w w':=by
 have hlen:(nt (nv l*2^n)).length<=1099511627776:=by
  have h1:nv l*2^n<2^(8*l.length+n):=by rw[Nat.pow_add,Nat.pow_mul];exact Nat.mul_lt_mul_of_pos_right (fD l) (Nat.pow_pos zd)
  have h2:=fO h1;rw[ahz];omega
 have He:Hid (iv s (nt (nv l*2^n))=iv s l*2^n):=by
  show _=_
  rw[lF];unfold iv;cases s<;>simp[Int.natCast_mul,Int.natCast_pow,Int.neg_mul]
 go_enter Tryz.func106,Tryz.ntmps106;have Hb:Hid (Bw w w):=Below.refl _ _;go_wp2_with fail;obtain⟨R,hR⟩:∃R:World->Prop,(λW=>ai W (w.heap.size) 28 [.bool s,.string (bs l)]/\ai W (w.heap.size+1) 28 [.bool false,.string (bs [])]/\Bw w W)=R:=⟨_,rfl⟩;first|refine bG R ?hR ?_|refine bF R ?hR ?_
 case hR=>subst hR;exact⟨((ai.newAt w _ _ (b:=w.heap.size) rfl).alloc _),(ai.newAt (w.alloc _) _ _ (b:=w.heap.size+1) zm),(zl.alloc zj _)⟩
 subst hR;rintro W ⟨qx,qr,ae⟩;have Hx:=ah qx;clear qx;have Hr:=ah qr;clear qr;obtain⟨x0,x1⟩:=Hx.out.c2;obtain⟨r0,aj,r1,ar⟩:=Hr.out.g2;replace Hb:=az Hb ae;clear ae;have MV:w.heap.size≠w.heap.size+1:=by omega
 go_region_held3 (λw'=>w'.cell? ⟨w.heap.size,0,none⟩=some (.bool s)/\w'.cell? ⟨w.heap.size,1,none⟩=some (.string (bs l))) (((try dsimp only);go_split_ands;(repeat' apply And.intro)<;>(first|exact True.intro|with_reducible assumption| ((with_reducible refine fc zg ?_);(repeat(with_reducible refine fc zg ?_));with_reducible assumption) |exact cell_later (by with_reducible assumption) (by with_reducible assumption) |exact aI (by with_reducible assumption) |go_keep))) (first| (go_at_call 143;(with_reducible refine(ahn l n _ hl hn).mono ?_);rintro e w1 ⟨rfl,hq⟩;have hw1:Bw W w1:=(by first|exact aO hq|exact hq|exact nR hq|exact oU hq|exact rQ hq);clear hq;have jM:=ah (Hx.out.below hw1);have xA:w1.cell? ⟨w.heap.size,0,none⟩=some (.bool s):=jM.out.cell 0;have xB:w1.cell? ⟨w.heap.size,1,none⟩=some (.string (bs l)):=jM.out.cell 1;have gq:=ah (Hr.out.below hw1);have xo:w1.cell? ⟨w.heap.size+1,0,none⟩=some (.bool false):=gq.out.cell 0;have vO:w1.frozen? ⟨w.heap.size+1,0,none⟩=false:=gq.out.free 0;have xp:w1.cell? ⟨w.heap.size+1,1,none⟩=some (.string (bs [])):=gq.out.cell 1;have vP:w1.frozen? ⟨w.heap.size+1,1,none⟩=false:=gq.out.free 1) | (go_at_call 112;(with_reducible refine(uA (nt (nv l*2^n)) s _ hlen).mono ?_);rintro e w2 ⟨rfl,hq⟩;have hw2:Bw w1 w2:=(by first|exact aO hq|exact hq|exact nR hq|exact oU hq|exact rQ hq);clear hq;have vE:=ah (jM.out.below hw2);have Ot:w2.cell? ⟨w.heap.size,0,none⟩=some (.bool s):=vE.out.cell 0;have Ou:w2.cell? ⟨w.heap.size,1,none⟩=some (.string (bs l)):=vE.out.cell 1;have oN:=ah (gq.out.below hw2);have Ns:w2.cell? ⟨w.heap.size+1,0,none⟩=some (.bool false):=oN.out.cell 0;have KE:w2.frozen? ⟨w.heap.size+1,0,none⟩=false:=oN.out.free 0;have Nt:w2.cell? ⟨w.heap.size+1,1,none⟩=some (.string (bs [])):=oN.out.cell 1;have KF:w2.frozen? ⟨w.heap.size+1,1,none⟩=false:=oN.out.free 1))
 replace Hb:=ah (aK Hb.out hw1);clear hw1;replace Hb:=ah (aK Hb.out hw2);clear hw2 x0 x1 r0 aj r1 ar;replace Hx:=vE;clear jM xA xB Ot Ou;replace Hr:=oN;clear gq xo vO xp vP Ns KE Nt KF;obtain⟨x0,x1⟩:=Hx.out.c2;obtain⟨r0,aj,r1,ar⟩:=Hr.out.g2;rw[He.out];go_wp2;refine bodyPost_ret (v:=cB (iv s l*2^n)) (by simp[results,Tryz.results106,go_sem,r0,r1]) rfl ⟨rfl,?_⟩;(repeat first|exact Hb.out| (refine Below.setCell ?_ (by have:=Hb.out.size;first| (dsimp only;omega) | (show _<=_;omega) | (simp<;>omega)) _) | (refine Below.alloc ?_ zt _) |refine Below.drew ?_)
theorem Oh (n N:Int)(hN:n=N)(w:World)(h0: -9223372036854775808<=n)(h1:n<=9223372036854775807):
 Calls Tryz.prog 74 #[.int .i64 n] w λe w'=>e=.returned (cB N)/\Bw w w':=by
 subst hN;exact Og n w h0 h1
def gj :List (Bool×List UInt8)->Int
 |[]=>1
 |x::xs=>iv x.1 x.2*gj xs
theorem afV (xs ys:List (Bool×List UInt8)):gj (xs++ys)=gj xs*gj ys:=by
 induction xs with
 |nil=>simp[gj]
 |cons x xs ih=>simp[gj,ih,Int.mul_assoc]
theorem afY (xs:List (Bool×List UInt8))(k:Nat)(hk:k<xs.length):gj (xs.take (k+1))=gj (xs.take k) *iv xs[k].1 xs[k].2:=by rw[List.take_succ_eq_append_getElem hk,afV];simp[gj]
def mY (xs:List (Bool×List UInt8)):Nat:=(xs.map λx=>x.2.length).sum
theorem afU (xs:List (Bool×List UInt8))(k:Nat):mY (xs.take k)<=mY xs:=by
 unfold mY;induction xs generalizing k with
 |nil=>simp
 | cons x xs ih=>cases k with
   |zero=>simp
   |succ k=>simp only[List.take_succ_cons,List.map_cons,List.sum_cons];have:=ih k;omega
theorem afT (xs:List (Bool×List UInt8))(x)(h:x∈xs):x.2.length<=mY xs:=by
 unfold mY;induction xs with
 |nil=>simp at h
 | cons y xs ih=>
   simp at h⊢;rcases h with h|h
   . subst h;omega
   . have:=ih h;omega
theorem afX (xs:List (Bool×List UInt8)):(gj xs).natAbs<=256^mY xs:=by
 induction xs with
 |nil=>simp[gj,mY]
 | cons x xs ih=>
   simp only[gj,Int.natAbs_mul,mr];have h1:=fD x.2;have:mY (x::xs)=x.2.length+mY xs:=by simp[mY]
   rw[this,Nat.pow_add];exact Nat.mul_le_mul (Nat.le_of_lt h1) ih
theorem afW (xs:List (Bool×List UInt8))(N:Nat)(h:mY xs+1<=N):(nt (gj xs).natAbs).length<=N:=by refine il (Nat.lt_of_le_of_lt (afX xs) ?_);exact Nat.pow_lt_pow_right zd zo
theorem akw (xs:List (Bool×List UInt8))(a:Option Addr)(cap:Nat)(w:World)(hl:mY xs<=34359738368)(hx:xs.length<=1048576)
 (ha:At w a (xs.flatMap FZ)):
 Calls Tryz.prog 73 #[.slice a xs.length cap] w λe w'=>e=.returned (cB (gj xs))/\Bw w w':=by
 have Hl:=ah hl;clear hl;have Ha:=ah ha;clear ha;have zS:Hid (∀k,(nt (gj (xs.take k)).natAbs).length<=68719476736):=λk=>afW _ _ (by have:=afU xs k;have:=Hl.out;omega);obtain⟨one,hone⟩:∃one:Int,1=one:=⟨_,rfl⟩;have AA:=ah hone;clear hone;go_enter Tryz.func73,Tryz.ntmps73;have Hb:Hid (Bw w w):=Below.refl _ _;go_wp2_with fail;obtain⟨R,hR⟩:∃R:World->Prop,(λW=>ai W (w.heap.size) 28 [.bool false,.string (bs [])]/\Bw w W)=R:=⟨_,rfl⟩;first|refine bG R ?hR ?_|refine bF R ?hR ?_
 case hR=>subst hR;exact⟨(ai.newAt w _ _ (b:=w.heap.size) rfl),zl⟩
 subst hR;rintro W ⟨qr,ae⟩;have Hr:=ah qr;clear qr;obtain⟨r0,aj,r1,ar⟩:=Hr.out.g2;replace Hb:=az Hb ae;clear ae;go_wp2_with fail;refine(Oh 1 one AA.out _ zo zo).mono ?_;rintro e w1 ⟨rfl,ae⟩;clear r0 aj r1 ar;replace Hr:=kB Hr ae;obtain⟨r0,aj,r1,ar⟩:=Hr.out.g2;replace Hb:=az Hb ae;clear ae;go_wp2_with fail;refine(GL (nt one.natAbs) (au one) _).mono ?_;rintro e w2 ⟨rfl,ae⟩;clear r0 aj r1 ar;replace Hr:=kB Hr ae;obtain⟨r0,aj,r1,ar⟩:=Hr.out.g2;replace Hb:=az Hb ae;clear ae;have amo:w.heap.size<w2.heap.size:=Hr.out.lt;have wU:=Hr.out.lt;go_wp2_with fail;obtain⟨R,hR⟩:∃R:World->Prop,(λW2=>ai W2 (w2.heap.size) 137 [.string (bs (nt one.natAbs)),.bool (au one)]/\Bw w2 W2)=R:=⟨_,rfl⟩;first|refine bG R ?hR ?_|refine bF R ?hR ?_
 case hR=>subst hR;exact⟨(ai.newAt w2 _ _ (b:=w2.heap.size) rfl),zl⟩
 subst hR;rintro W2 ⟨qs,ae⟩;have Hs:=ah qs;clear qs r0 aj r1 ar;replace Hr:=kB Hr ae;obtain⟨r0,aj,r1,ar⟩:=Hr.out.g2;obtain⟨s0,bM,s1,bN⟩:=Hs.out.g2;replace Hb:=az Hb ae;clear ae
 go_loopw[5,10] (λ_ i wr=>∃(k:Nat) (t:Bool),k<=xs.length/\i=.int .i64 k/\iv t (nt (gj (xs.take k)).natAbs)=gj (xs.take k)/\ai wr w.heap.size 28 [.bool false,.string (bs [])]/\
  ai wr w2.heap.size 137 [.string (bs (nt (gj (xs.take k)).natAbs)),.bool t]/\Bw w wr) (λ_ i _=>xs.length-(intOf i).toNat)
 case atStart=>
  have e:gj (xs.take 0)=one:=by rw[<-AA.out];simp[gj]
  refine⟨0,au one,Nat.zero_le _,rfl,?_,Hr.out,?_,Hb.out⟩
  . rw[e];exact eV one
  . rw[e];exact Hs.out
 case round=>
  obtain⟨k,t,hk,rfl,lA,qr,qs,hb⟩:=hrel;replace Hr:=ah qr;replace Hs:=ah qs;replace Hb:=ah hb;have ko:=ah lA;clear qr qs hb lA r0 r1 aj ar s0 s1 bM bN;by_cases hlt:k<xs.length
  . obtain⟨b,o,hab,hcs⟩:=(Ha.out.below Hb.out).elem (f:=FZ) (sz:=2) (λ_=>rfl) zd k hlt;have hc0:wr.cell? ⟨b,o+k*2,none⟩=some (.bool xs[k].1):=hcs 0 zd;have hc1:wr.cell? ⟨b,o+k*2+1,none⟩=some (.string (bs xs[k].2)):=hcs 1 zd;have bA:=sL xs.length cap k (k:Int) hab hlt rfl;have bS:=ah (afY xs k hlt);have jH:Hid (xs[k].2.length<=34359738368):=by have:=afT xs _ (List.getElem_mem hlt);have:=Hl.out;show _<=_;omega
    have js:=ah (zS.out k);clear hcs hab;generalize xs[k]=x at*;obtain⟨t1,l1⟩:=x;generalize hS:gj (xs.take k)=S at*;have HS:=ah hS;clear hS;obtain⟨r0,aj,r1,ar⟩:=Hr.out.g2;obtain⟨s0,bM,s1,bN⟩:=Hs.out.g2;have CM:=Hr.out.lt;have MM:=Hs.out.lt;go_wp2_with fail;obtain⟨R,hR⟩:∃R:World->Prop,(λW1=>ai W1 (wr.heap.size) 28 [.bool t1,.string (bs l1)]/\Bw wr W1)=R:=⟨_,rfl⟩;first|refine bG R ?hR ?_|refine bF R ?hR ?_
    case hR=>subst hR;exact⟨(ai.newAt wr _ _ (b:=wr.heap.size) rfl),zl⟩
    subst hR;rintro W1 ⟨qa,ae⟩;have Ha:=ah qa;clear qa r0 aj r1 ar;replace Hr:=kB Hr ae;obtain⟨r0,aj,r1,ar⟩:=Hr.out.g2;clear s0 bM s1 bN;replace Hs:=kB Hs ae;obtain⟨s0,bM,s1,bN⟩:=Hs.out.g2;obtain⟨a0,a1⟩:=Ha.out.c2;replace Hb:=az Hb ae;clear ae;go_region_with (first| (go_at_call 110;refine(GL l1 t1 _).mono ?_;rintro e w3 ⟨rfl,hq⟩;have hw3:Bw W1 w3:=aO hq;clear hq;have NJ:=cell_later hw3 s0;have NK:=cell_later hw3 s1;have aed:=(Hs.out.below hw3).free 0;have aef:=(Hs.out.below hw3).free 1) | (go_at_call 111;refine(aj6 (nt S.natAbs) l1 t t1 _ js.out (by have:=jH.out;omega)).mono ?_;rintro e w4 ⟨rfl,hw4⟩;have ajs:=cell_later hw4 NJ;have ajv:=cell_later hw4 NK;have aee:=((Hs.out.below hw3).below hw4).free 0;have aeg:=((Hs.out.below hw3).below hw4).free 1))
    all_goals
     go_wp2
     go_roundw
     case rel=>
      have hq:=af3 t (nt S.natAbs) t1 l1;rw[ko.out,<-bS.out]at hq;have hq2:nv (nt S.natAbs) *nv l1=(gj (xs.take (k+1))).natAbs:=by rw[bS.out,Int.natAbs_mul,mr,iq]
      rw[hq2]at hq⊢;refine⟨k+1,_,by omega,by go_num,hq,((((Hr.out.below hw3).below hw4).an5 ⟨w2.heap.size,0,none⟩ zp _).an5 ⟨w2.heap.size,1,none⟩ zp _),((((Hs.out.below hw3).below hw4).set 0 _).set 1 _),?_⟩;exact((aK (aK Hb.out hw3) hw4).setCell zp _).setCell zp _
     case measure=>simp[intOf];omega
  . obtain rfl:k=xs.length:=by omega
    rw[List.take_length]at Hs ko;have js:=zS.out xs.length;rw[List.take_length]at js;obtain⟨r0,aj,r1,ar⟩:=Hr.out.g2;obtain⟨s0,bM,s1,bN⟩:=Hs.out.g2;go_wp2_with fail;refine(uA (nt (gj xs).natAbs) t _ zo).mono ?_;rintro e w3 ⟨rfl,ae⟩;clear r0 aj r1 ar s0 bM s1 bN;replace Hr:=kB Hr ae;replace Hs:=kB Hs ae;obtain⟨r0,aj,r1,ar⟩:=Hr.out.g2;obtain⟨s0,bM,s1,bN⟩:=Hs.out.g2;replace Hb:=az Hb ae;clear ae;rw[ko.out];go_wp2;refine bodyPost_ret (v:=cB (gj xs)) (by simp[results,Tryz.results73,go_sem,r0,r1]) rfl ⟨rfl,?_⟩;(repeat first|exact Hb.out| (refine Below.setCell ?_ (by have:=Hb.out.size;first| (dsimp only;omega) | (show _<=_;omega) | (simp<;>omega)) _) | (refine Below.alloc ?_ zt _) |refine Below.drew ?_)
theorem Xx (v:Nat)(h:0<v):∃m,v=2^tz v* (2*m+1):=by
 induction v using Nat.strongRecOn with
 | _ v ih=>
   by_cases he:v%2=0
   . obtain⟨u,rfl⟩:∃u,v=2*u:=⟨v/2,by omega⟩;obtain⟨m,hm⟩:=ih u zo zo;refine⟨m,?_⟩;have e:tz (2*u)=tz u+1:=by unfold tz;rw[show((2*u:Nat):Int)=2* (u:Int)by omega];exact Int.trailingZeros_two_mul zo
     rw[e,Nat.pow_succ];conv=>lhs;rw[hm]
     rw[Nat.mul_comm (2^tz u) 2,Nat.mul_assoc]
   . refine⟨v/2,?_⟩;have e:tz v=0:=by unfold tz;exact Int.trailingZeros_eq_zero_of_mod_eq zo
     rw[e];omega
theorem Xv (v k:Nat)(h:0<v):tz v<k↔v%2^k≠0:=by
 obtain⟨m,hm⟩:=Xx v h;generalize tz v=c at*;constructor
 . intro hc h0;have hd:2^k∣v:=Nat.dvd_of_mod_eq_zero h0;have hd2:2^(c+1)∣v:=Nat.dvd_trans (Nat.pow_dvd_pow 2 hc) hd;rw[hm,Nat.pow_succ]at hd2;have:=Nat.dvd_of_mul_dvd_mul_left (Nat.pow_pos zd) hd2;omega
 . intro hne;rcases Nat.lt_or_ge c k with h1|h1
   . exact h1
   . exfalso;apply hne
     rw[hm];exact Nat.mod_eq_zero_of_dvd (Nat.dvd_trans (Nat.pow_dvd_pow 2 h1) (Nat.dvd_mul_right _ _))
theorem ahp (v k:Nat)(h:v%2^k=0): -(v:Int)/2^k= -((v/2^k:Nat):Int):=by
 obtain⟨q,rfl⟩:=Nat.dvd_of_mod_eq_zero h;have hp:=Nat.pow_pos (n:=k) (show 0<2 by decide);rw[Nat.mul_div_cancel_left _ hp];have e: -((2^k*q:Nat):Int)=2^k* (-(q:Int)):=by simp[Int.natCast_mul,Int.natCast_pow,Int.mul_neg]
 rw[e,Int.mul_ediv_cancel_left];have:((2^k:Nat):Int)≠0:=by omega
 simpa[Int.natCast_pow]using this
theorem ahq (v k:Nat)(h:v%2^k≠0): -(v:Int)/2^k= -((v/2^k:Nat):Int)-1:=by
 have hp:=Nat.pow_pos (n:=k) (show 0<2 by decide);have e:=(Nat.mod_add_div v (2^k)).symm;have hr:=Nat.mod_lt v hp;rw[show((2:Int)^k)=((2^k:Nat):Int)by simp[Int.natCast_pow]];generalize v%2^k=r at*;generalize v/2^k=q at*;generalize 2^k=p at*;subst e;have e2: -((r+p*q:Nat):Int)=((p:Int)-r)+p* (-(q:Int)-1):=by rw[Int.natCast_add,Int.natCast_mul,Int.mul_sub,Int.mul_neg,Int.mul_one];omega
 rw[e2,Int.add_mul_ediv_left _ _ zo,Int.ediv_eq_zero_of_lt zo zo];omega
theorem ahy (l:List UInt8)(k B:Nat)(hl:l.length<=B):(nt (nv l/2^k)).length<=B:=il (Nat.lt_of_le_of_lt (Nat.div_le_self _ _) (Nat.lt_of_lt_of_le (fD l) (Nat.pow_le_pow_right zd hl)))
theorem XJ (s:Bool)(l:List UInt8)(k:Nat)(w:World)(hl:l.length<=34359738368)(hk:0<k)(hk2:k<=1099511627776)(hT:aF w):
 Calls Tryz.prog 106 #[.agg #[.bool s,.string (bs l)],.int .i64 (-(k:Int))] w λe w'=>e=.returned (cB (iv s l/2^k))/\Bw w w':=by
 have hmax:max (-(k:Int)) (-1099511627776)= -(k:Int):=by omega
 have hlen:(nt (nv l/2^k)).length<=34359738368:=ahy l k _ hl;obtain⟨Z,hZ⟩:=aC (nv l/2^k);have FV:∀W,Calls Tryz.prog 144 #[.string (bs l),.int .i64 (k:Int)] W λe w'=>e=.returned (.string (bs (nt Z)))/\Bw W w':=λW=>by rw[<-hZ];exact aho l k W zo hk2
 rw[hZ]at hlen;have HZ:=ah hZ;clear hZ;have aaq:=ah FV;clear FV;obtain⟨M,hM⟩:=aC (iv s (nt Z));have HM:=ah hM;clear hM;have TX:∀W,Calls Tryz.prog 112 #[.agg #[.string (bs (nt Z)),.bool s]] W λe w'=>e=.returned (cB M)/\Bw W w':=λW=>by have:=uA (nt Z) s W zo;rw[HM.out]at this;exact this
 have ZB:=ah TX;clear TX;go_enter Tryz.func106,Tryz.ntmps106;have Hb:Hid (Bw w w):=Below.refl _ _;go_upto_region 4 with fail
 go_wp2_with fail;obtain⟨R,hR⟩:∃R:World->Prop,(λW=>ai W (w.heap.size) 28 [.bool s,.string (bs l)]/\ai W (w.heap.size+1) 28 [.bool false,.string (bs [])]/\Bw w W)=R:=⟨_,rfl⟩;first|refine bG R ?hR ?_|refine bF R ?hR ?_
 case hR=>subst hR;exact⟨((ai.newAt w _ _ (b:=w.heap.size) rfl).alloc _),(ai.newAt (w.alloc _) _ _ (b:=w.heap.size+1) zm),(zl.alloc zj _)⟩
 subst hR;rintro W ⟨qx,qr,ae⟩;have Hx:=ah qx;clear qx;have Hr:=ah qr;clear qr;obtain⟨x0,x1⟩:=Hx.out.c2;obtain⟨r0,aj,r1,ar⟩:=Hr.out.g2;replace Hb:=az Hb ae;clear ae;go_cut[5] (λs5 wx=>∃g:Nat,s5=.pointer (some ⟨g,0,none⟩)/\w.heap.size+1<g/\ai wx w.heap.size 28 [.bool s,.string (bs l)]/\ai wx (w.heap.size+1) 28 [.bool false,.string (bs [])]/\ai wx g 28 [.bool (au M),.string (bs (nt M.natAbs))]/\Bw w wx);case first=>
  have hxW:w.heap.size<W.heap.size:=Hx.out.lt;have hrW:w.heap.size+1<W.heap.size:=Hr.out.lt;have hwk:IntKind.i64.wrap (k:Int)=(k:Int):=by rw[IntKind.wrap_i64];omega
  go_region_held3 (λw'=>w'.cell? ⟨w.heap.size,0,none⟩=some (.bool s)/\w'.cell? ⟨w.heap.size,1,none⟩=some (.string (bs l))) (((try dsimp only);go_split_ands;(repeat' apply And.intro)<;>(first|with_reducible assumption|exact aI (by with_reducible assumption) |exact Kf (by with_reducible assumption) |exact Kf (aI (by with_reducible assumption)) | ((with_reducible refine fc zf ?_);(repeat(with_reducible refine fc zf ?_));first|with_reducible assumption|exact aI (by with_reducible assumption) |exact Kf (by with_reducible assumption)) |go_keep))) (first| (go_at_call 144;(with_reducible refine(aaq.out _).mono ?_);rintro e w1 ⟨rfl,hq⟩;(first| (have hw1:Bw W w1:=aO hq) | (have hw1:Bw W w1:=rQ hq;have Aw:=ah (ai.below (ai.drew (ai.new W 28 [.bool false,.string (bs [])])) hq);have anC:w1.cell? ⟨W.heap.size,0,none⟩=some (.bool false):=Aw.out.cell 0;have anD:w1.cell? ⟨W.heap.size,1,none⟩=some (.string (bs [])):=Aw.out.cell 1;have als:=Aw.out.free 0;have alu:=Aw.out.free 1));clear hq;have zs1:=hw1.size;obtain⟨JN,aal⟩:=aM (Hx.out.below hw1) (Hr.out.below hw1);have anR:w1.cell? ⟨w.heap.size,0,none⟩=some (.bool s):=JN.out.cell 0;have anT:w1.cell? ⟨w.heap.size,1,none⟩=some (.string (bs l)):=JN.out.cell 1) | (go_at_call 112;(with_reducible refine(ZB.out _).mono ?_);rintro e w2 ⟨rfl,hq⟩;(first| (have hw2:Bw w1 w2:=hq;(try(have oL:=ah (ai.below Aw.out hq);have aha:w2.cell? ⟨W.heap.size,0,none⟩=some (.bool false):=oL.out.cell 0;have ahd:w2.cell? ⟨W.heap.size,1,none⟩=some (.string (bs [])):=oL.out.cell 1;have ad2:=oL.out.free 0;have ad3:=oL.out.free 1))) | (have hw2:Bw w1 w2:=oU hq;have oL:=ah (ai.below (ai.new w1 28 [.bool false,.string (bs [])]) hq);have aha:w2.cell? ⟨w1.heap.size,0,none⟩=some (.bool false):=oL.out.cell 0;have ahd:w2.cell? ⟨w1.heap.size,1,none⟩=some (.string (bs [])):=oL.out.cell 1;have ad2:=oL.out.free 0;have ad3:=oL.out.free 1));clear hq;have zs2:=hw2.size;obtain⟨AU,Js⟩:=aM (JN.out.below hw2) (aal.out.below hw2);have anS:w2.cell? ⟨w.heap.size,0,none⟩=some (.bool s):=AU.out.cell 0;have anU:w2.cell? ⟨w.heap.size,1,none⟩=some (.string (bs l)):=AU.out.cell 1))
  all_goals(go_wp2_with fail;go_meet)
  . exact⟨w2.heap.size,rfl,by omega,AU.out.alloc _,Js.out.alloc _,ai.new _ _ _,(aK (aK Hb.out hw1) hw2).alloc zo _⟩
  . exact⟨w1.heap.size,rfl,by omega,((AU.out.an5 ⟨w1.heap.size,0,none⟩ (by first| (dsimp only;omega) |omega| (simp<;>omega)) _).an5 ⟨w1.heap.size,1,none⟩ (by first| (dsimp only;omega) |omega| (simp<;>omega)) _),((Js.out.an5 ⟨w1.heap.size,0,none⟩ (by first| (dsimp only;omega) |omega| (simp<;>omega)) _).an5 ⟨w1.heap.size,1,none⟩ (by first| (dsimp only;omega) |omega| (simp<;>omega)) _),((oL.out.set 0 _).set 1 _),((aK (aK Hb.out hw1) hw2).setCell (by first| (dsimp only;omega) |omega| (simp<;>omega)) _).setCell (by first| (dsimp only;omega) |omega| (simp<;>omega)) _⟩
  . exact⟨W.heap.size,rfl,hrW,((AU.out.an5 ⟨W.heap.size,0,none⟩ (by first| (dsimp only;omega) |omega| (simp<;>omega)) _).an5 ⟨W.heap.size,1,none⟩ (by first| (dsimp only;omega) |omega| (simp<;>omega)) _),((Js.out.an5 ⟨W.heap.size,0,none⟩ (by first| (dsimp only;omega) |omega| (simp<;>omega)) _).an5 ⟨W.heap.size,1,none⟩ (by first| (dsimp only;omega) |omega| (simp<;>omega)) _),((oL.out.set 0 _).set 1 _),((aK (aK Hb.out hw1) hw2).setCell (by first| (dsimp only;omega) |omega| (simp<;>omega)) _).setCell (by first| (dsimp only;omega) |omega| (simp<;>omega)) _⟩
 case rest=>
  obtain⟨g,rfl,hg,qx,qr,qn,qb⟩:=hcut;replace Hx:=ah qx;replace Hr:=ah qr;have Hn:=ah qn;replace Hb:=ah qb;clear qx qr qn qb x0 x1 r0 r1 aj ar;cases s
  . obtain ⟨x0,x1⟩:=Hx.out.c2;obtain⟨r0,aj,r1,ar⟩:=Hr.out.g2;obtain⟨n0,n1⟩:=Hn.out.c2;have fN:Hid (iv false l/2^k=M):=by
     show _=_
     rw[<-HM.out,<-HZ.out,lF];unfold iv;simp[Int.natCast_pow]
    go_wp2;refine bodyPost_ret (v:=cB M) (by simp[results,Tryz.results106,go_sem,r0,r1]) rfl ⟨by rw[fN.out],?_⟩;(repeat first|exact Hb.out| (refine Below.setCell ?_ (by have:=Hb.out.size;first| (dsimp only;omega) | (show _<=_;omega) | (simp<;>omega)) _) | (refine Below.alloc ?_ zt _) |refine Below.drew ?_)
  . obtain⟨x0,x1⟩:=Hx.out.c2;obtain⟨r0,aj,r1,ar⟩:=Hr.out.g2;obtain⟨n0,n1⟩:=Hn.out.c2;have nE:Hid (l.length<=68719476736):=by show _<=_;omega
    by_cases h0:nv l=0
    . have hb0:bu (nv l)=0:=by rw[h0];rfl
      have fN:Hid (iv true l/2^k=M):=by
       show _=_
       rw[<-HM.out,<-HZ.out,lF,h0];unfold iv;simp[h0]
      have iw:=ah hb0;clear hb0;go_wp2_with fail;refine(MS l _ nE.out).mono ?_;rintro e w3 ⟨rfl,ae⟩;clear x0 x1 r0 aj r1 ar n0 n1;replace Hx:=kB Hx ae;replace Hr:=kB Hr ae;replace Hn:=kB Hn ae;obtain⟨x0,x1⟩:=Hx.out.c2;obtain⟨r0,aj,r1,ar⟩:=Hr.out.g2;obtain⟨n0,n1⟩:=Hn.out.c2;replace Hb:=az Hb ae;clear ae;rw[iw.out];go_wp2;refine bodyPost_ret (v:=cB M) (by simp[results,Tryz.results106,go_sem,r0,r1]) rfl ⟨by rw[fN.out],?_⟩;(repeat first|exact Hb.out| (refine Below.setCell ?_ (by have:=Hb.out.size;first| (dsimp only;omega) | (show _<=_;omega) | (simp<;>omega)) _) | (refine Below.alloc ?_ zt _) |refine Below.drew ?_)
    . have hbp:0<bu (nv l):=Bf zo;have zW:Hid (aF wc):=hT.below Hb.out;by_cases hz:tz (nv l)<k
      . have fN:Hid (iv true l/2^k=M-1):=by
         show _=_
         rw[<-HM.out,<-HZ.out,lF];have:=(Xv (nv l) k zo).1 hz;unfold iv;simp only[if_true];exact ahq _ _ this
        have Yi:Hid ((nt M.natAbs).length<=34359738368):=by show _<=_;rw[<-HM.out,mr,iq];exact hlen
        obtain⟨one,hone⟩:∃one:Int,1=one:=⟨_,rfl⟩;have ZQ:Hid ((nt one.natAbs).length<=34359738368):=by show _<=_;rw[<-hone];exact Nat.le_trans (il (k:=1) zd) zd
        have AA:=ah hone;clear hone;have aas:Hid (iv (au M) (nt M.natAbs)-iv (au one) (nt one.natAbs)=M-1):=by show _=_;rw[eV,eV,<-AA.out]
        go_wp2_with fail;refine(MS l _ nE.out).mono ?_;rintro e w3 ⟨rfl,ae⟩;clear x0 x1 r0 aj r1 ar n0 n1;replace Hx:=kB Hx ae;replace Hr:=kB Hr ae;replace Hn:=kB Hn ae;obtain⟨x0,x1⟩:=Hx.out.c2;obtain⟨r0,aj,r1,ar⟩:=Hr.out.g2;obtain⟨n0,n1⟩:=Hn.out.c2;replace Hb:=az Hb ae;clear ae;replace zW:=ah (hT.below Hb.out);go_wp2_with fail;refine(MU l _ nE.out zW.out).mono ?_;rintro e w4 ⟨rfl,ae⟩;clear x0 x1 r0 aj r1 ar n0 n1;replace Hx:=kB Hx ae;replace Hr:=kB Hr ae;replace Hn:=kB Hn ae;obtain⟨x0,x1⟩:=Hx.out.c2;obtain⟨r0,aj,r1,ar⟩:=Hr.out.g2;obtain⟨n0,n1⟩:=Hn.out.c2;replace Hb:=az Hb ae;clear ae;go_wp2_with fail;have nen:g≠w.heap.size+1:=by omega
        go_region_held3 (λw'=>w'.cell? ⟨g,0,none⟩=some (.bool (au M))/\w'.cell? ⟨g,1,none⟩=some (.string (bs (nt M.natAbs)))) (((try dsimp only);go_split_ands;(repeat' apply And.intro)<;>(first|exact True.intro|with_reducible assumption| ((with_reducible refine fc zg ?_);(repeat(with_reducible refine fc zg ?_));with_reducible assumption) |exact cell_later (by with_reducible assumption) (by with_reducible assumption) |exact aI (by with_reducible assumption) |go_keep))) (first| (go_at_call 74;(with_reducible refine(Oh 1 one AA.out _ zo zo).mono ?_);rintro e w5 ⟨rfl,hq⟩;have bI:Bw w4 w5:=(by first|exact aO hq|exact hq|exact nR hq|exact oU hq|exact rQ hq);clear hq;obtain⟨Qq,xU⟩:=aM (Hx.out.below bI) (Hr.out.below bI);have aiF:w5.cell? ⟨w.heap.size+1,0,none⟩=some (.bool false):=xU.out.cell 0;have ad7:w5.frozen? ⟨w.heap.size+1,0,none⟩=false:=xU.out.free 0;have aiH:w5.cell? ⟨w.heap.size+1,1,none⟩=some (.string (bs [])):=xU.out.cell 1;have ad9:w5.frozen? ⟨w.heap.size+1,1,none⟩=false:=xU.out.free 1;have Ea:=ah (Hn.out.below bI);have ahb:w5.cell? ⟨g,0,none⟩=some (.bool (au M)):=Ea.out.cell 0;have ahe:w5.cell? ⟨g,1,none⟩=some (.string (bs (nt M.natAbs))):=Ea.out.cell 1) | (go_at_call 109;(with_reducible refine(Ol (au M) (nt M.natAbs) (au one) (nt one.natAbs) _ Yi.out ZQ.out).mono ?_);rintro e w6 ⟨rfl,hq⟩;have CF:Bw w5 w6:=(by first|exact aO hq|exact hq|exact nR hq|exact oU hq|exact rQ hq);clear hq;obtain⟨aaJ,AH⟩:=aM (Qq.out.below CF) (xU.out.below CF);have aiG:w6.cell? ⟨w.heap.size+1,0,none⟩=some (.bool false):=AH.out.cell 0;have ad8:w6.frozen? ⟨w.heap.size+1,0,none⟩=false:=AH.out.free 0;have aiI:w6.cell? ⟨w.heap.size+1,1,none⟩=some (.string (bs [])):=AH.out.cell 1;have aea:w6.frozen? ⟨w.heap.size+1,1,none⟩=false:=AH.out.free 1;have Jh:=ah (Ea.out.below CF);have ahc:w6.cell? ⟨g,0,none⟩=some (.bool (au M)):=Jh.out.cell 0;have ahf:w6.cell? ⟨g,1,none⟩=some (.string (bs (nt M.natAbs))):=Jh.out.cell 1))
        replace Hb:=ah (aK Hb.out bI);clear bI;replace Hb:=ah (aK Hb.out CF);clear CF x0 x1 r0 aj r1 ar n0 n1;replace Hx:=aaJ;clear Qq;replace Hr:=AH;clear xU aiF ad7 aiH ad9 aiG ad8 aiI aea;replace Hn:=Jh;clear Ea ahb ahe ahc ahf;obtain⟨x0,x1⟩:=Hx.out.c2;obtain⟨r0,aj,r1,ar⟩:=Hr.out.g2;obtain⟨n0,n1⟩:=Hn.out.c2;rw[aas.out];go_wp2;refine bodyPost_ret (v:=cB (M-1)) (by simp[results,Tryz.results106,go_sem,r0,r1]) rfl ⟨by rw[fN.out],?_⟩;(repeat first|exact Hb.out| (refine Below.setCell ?_ (by have:=Hb.out.size;first| (dsimp only;omega) | (show _<=_;omega) | (simp<;>omega)) _) | (refine Below.alloc ?_ zt _) |refine Below.drew ?_)
      . have fN:Hid (iv true l/2^k=M):=by
         show _=_
         rw[<-HM.out,<-HZ.out,lF];have h2:nv l%2^k=0:=by
          rcases Nat.eq_zero_or_pos (nv l%2^k)with h|h
          . exact h
          . exact absurd ((Xv (nv l) k zo).2 zo) hz
         unfold iv;simp only[if_true];exact ahp _ _ h2
        go_wp2_with fail;refine(MS l _ nE.out).mono ?_;rintro e w3 ⟨rfl,ae⟩;clear x0 x1 r0 aj r1 ar n0 n1;replace Hx:=kB Hx ae;replace Hr:=kB Hr ae;replace Hn:=kB Hn ae;obtain⟨x0,x1⟩:=Hx.out.c2;obtain⟨r0,aj,r1,ar⟩:=Hr.out.g2;obtain⟨n0,n1⟩:=Hn.out.c2;replace Hb:=az Hb ae;clear ae;replace zW:=ah (hT.below Hb.out);go_wp2_with fail;refine(MU l _ nE.out zW.out).mono ?_;rintro e w4 ⟨rfl,ae⟩;clear x0 x1 r0 aj r1 ar n0 n1;replace Hx:=kB Hx ae;replace Hr:=kB Hr ae;replace Hn:=kB Hn ae;obtain⟨x0,x1⟩:=Hx.out.c2;obtain⟨r0,aj,r1,ar⟩:=Hr.out.g2;obtain⟨n0,n1⟩:=Hn.out.c2;replace Hb:=az Hb ae;clear ae;go_wp2;refine bodyPost_ret (v:=cB M) (by simp[results,Tryz.results106,go_sem,r0,r1]) rfl ⟨by rw[fN.out],?_⟩;(repeat first|exact Hb.out| (refine Below.setCell ?_ (by have:=Hb.out.size;first| (dsimp only;omega) | (show _<=_;omega) | (simp<;>omega)) _) | (refine Below.alloc ?_ zt _) |refine Below.drew ?_)
end Go.Proofs.YtdaadlblknpipaaGreatDoor
