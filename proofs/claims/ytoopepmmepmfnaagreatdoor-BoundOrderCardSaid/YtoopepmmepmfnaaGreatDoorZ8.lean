/- Package whole,on: Sub,Cmp,Mul,Shift. -/
import Derived.Test.YtoopepmmepmfnaaGreatDoorZ6
import Derived.Deep.DeepCutAuto
set_option linter.unusedVariables false
set_option linter.unusedSimpArgs false
set_option maxRecDepth 100000
set_option maxHeartbeats 16000000
namespace Go.Proofs.YtoopepmmepmfnaaGreatDoor
open Go.RowKit
attribute [local go_sem ↓] Go.wp_at_zero Go.wp_at_succ
theorem ZI (s:Bool)(l:List UInt8)(t:Bool)(m:List UInt8)(b cap:Nat)(ty:TypeId)(w:World)(hl:l.length<=34359738368)(hm:m.length<=34359738368)
 (ha:aj w b ty [.bool s,.string (bs l),.bool t,.string (bs m)]):
 Calls Tryz.prog 68 #[.slice (some ⟨b,0,none⟩) 2 cap] w λe w'=>e=.returned (bZ (iv s l+iv t m))/\Bw w w':=by
 have:=amS [(s,l),(t,m)] (some ⟨b,0,none⟩) cap w (by simp[hl,hm]) zm (At.arc ha);have e:jJ [(s,l),(t,m)]=iv s l+iv t m:=by simp[jJ]
 rw[e]at this;exact this
theorem CU (s:Bool)(m:List UInt8)(B:Nat)(hm:m.length<=B):(nt (-(iv s m)).natAbs).length<=B:=by rw[Int.natAbs_neg,ot];exact iM (Nat.lt_of_lt_of_le (fT m) (Nat.pow_le_pow_right zd hm))
theorem Iu (s:Bool)(l:List UInt8)(N:Int)(hN: -(iv s l)=N)(w:World)(hl:l.length<=1099511627776):
 Calls Tryz.prog 78 #[.agg #[.bool s,.string (bs l)]] w λe w'=>e=.returned (bZ N)/\Bw w w':=by
 subst hN;exact ZM s l w hl
theorem Iy (s:Bool)(l:List UInt8)(t:Bool)(m:List UInt8)(w:World)(hl:l.length<=34359738368)(hm:m.length<=34359738368):
 Calls Tryz.prog 37 #[.agg #[.bool s,.string (bs l)],.agg #[.bool t,.string (bs m)]] w λe w'=>e=.returned (bZ (iv s l-iv t m))/\Bw w w':=by
 have hm2:=CU t m 34359738368 hm;have He:Hid (iv s l+iv (ai (-(iv t m))) (nt (-(iv t m)).natAbs)=iv s l-iv t m):=by show _=_;rw[dz];omega
 generalize hN: -(iv t m)=N at*;have HN:=af hN;clear hN;go_enter Tryz.func37,Tryz.ntmps37;have Hb:Hid (Bw w w):=Below.refl _ _;go_wp2_with fail;obtain⟨R,hR⟩:∃R:World->Prop,(λW=>aj W (w.heap.size) 32 [.bool s,.string (bs l)]/\aj W (w.heap.size+1) 32 [.bool t,.string (bs m)]/\aj W (w.heap.size+1+1) 32 [.bool false,.string (bs [])]/\Bw w W)=R:=⟨_,rfl⟩;first|refine bP R ?hR ?_|refine bO R ?hR ?_
 case hR=>subst hR;exact⟨(((aj.newAt w _ _ (b:=w.heap.size) rfl).alloc _).alloc _),((aj.newAt (w.alloc _) _ _ (b:=w.heap.size+1) zm).alloc _),(aj.newAt ((w.alloc _).alloc _) _ _ (b:=w.heap.size+1+1) zm),((zl.alloc zj _).alloc zj _)⟩
 subst hR;rintro W ⟨qx,qy,qr,ae⟩;have Hx:=af qx;clear qx;have Hy:=af qy;clear qy;have Hr:=af qr;clear qr;obtain⟨x0,x1⟩:=Hx.out.c2;obtain⟨y0,y1⟩:=Hy.out.c2;obtain⟨r0,ag,r1,ah⟩:=Hr.out.g2;replace Hb:=ak Hb ae;clear ae;have NV:w.heap.size≠w.heap.size+1+1:=by omega
 have XF:w.heap.size+1≠w.heap.size+1+1:=by omega
 go_region_held3 (λw'=>w'.cell? ⟨w.heap.size,0,none⟩=some (.bool s)/\w'.cell? ⟨w.heap.size,1,none⟩=some (.string (bs l))/\w'.cell? ⟨w.heap.size+1,0,none⟩=some (.bool t)/\w'.cell? ⟨w.heap.size+1,1,none⟩=some (.string (bs m))) (((try dsimp only);go_split_ands;(repeat' apply And.intro)<;>(first|exact True.intro|with_reducible assumption| ((with_reducible refine fq zg ?_);(repeat(with_reducible refine fq zg ?_));with_reducible assumption) |exact cell_later (by with_reducible assumption) (by with_reducible assumption) |exact aJ (by with_reducible assumption) |go_keep))) (first| (go_at_call 78;(with_reducible refine(Iu t m N HN.out _ zo).mono ?_);rintro e w1 ⟨rfl,hq⟩;have hw1:Bw W w1:=(by first|exact aO hq|exact hq|exact oY hq|exact oX hq|exact sD hq);clear hq;have jw:=af (Hx.out.below hw1);have xH:w1.cell? ⟨w.heap.size,0,none⟩=some (.bool s):=jw.out.cell 0;have xI:w1.cell? ⟨w.heap.size,1,none⟩=some (.string (bs l)):=jw.out.cell 1;have nJ:=af (Hy.out.below hw1);have Dx:w1.cell? ⟨w.heap.size+1,0,none⟩=some (.bool t):=nJ.out.cell 0;have Dy:w1.cell? ⟨w.heap.size+1,1,none⟩=some (.string (bs m)):=nJ.out.cell 1;have gu:=af (Hr.out.below hw1);have xC:w1.cell? ⟨w.heap.size+1+1,0,none⟩=some (.bool false):=gu.out.cell 0;have wj:w1.frozen? ⟨w.heap.size+1+1,0,none⟩=false:=gu.out.free 0;have xD:w1.cell? ⟨w.heap.size+1+1,1,none⟩=some (.string (bs [])):=gu.out.cell 1;have wm:w1.frozen? ⟨w.heap.size+1+1,1,none⟩=false:=gu.out.free 1) | (go_at_call 68;(with_reducible refine(ZI s l (ai N) (nt N.natAbs) w1.heap.size 2 32 _ hl hm2 (by first|exact aj.drew (aj.new _ _ _) |exact aj.new _ _ _)).mono ?_);rintro e w2 ⟨rfl,hq⟩;have hw2:Bw w1 w2:=(by first|exact aO hq|exact hq|exact oY hq|exact oX hq|exact sD hq);clear hq;have vU:=af (jw.out.below hw2);have Pn:w2.cell? ⟨w.heap.size,0,none⟩=some (.bool s):=vU.out.cell 0;have Pp:w2.cell? ⟨w.heap.size,1,none⟩=some (.string (bs l)):=vU.out.cell 1;have Kp:=af (nJ.out.below hw2);have ane:w2.cell? ⟨w.heap.size+1,0,none⟩=some (.bool t):=Kp.out.cell 0;have anf:w2.cell? ⟨w.heap.size+1,1,none⟩=some (.string (bs m)):=Kp.out.cell 1;have oM:=af (gu.out.below hw2);have Oq:w2.cell? ⟨w.heap.size+1+1,0,none⟩=some (.bool false):=oM.out.cell 0;have Lt:w2.frozen? ⟨w.heap.size+1+1,0,none⟩=false:=oM.out.free 0;have Ot:w2.cell? ⟨w.heap.size+1+1,1,none⟩=some (.string (bs [])):=oM.out.cell 1;have Lu:w2.frozen? ⟨w.heap.size+1+1,1,none⟩=false:=oM.out.free 1))
 replace Hb:=af (aH Hb.out hw1);clear hw1;replace Hb:=af (aH Hb.out hw2);clear hw2 x0 x1 y0 y1 r0 ag r1 ah;replace Hx:=vU;clear jw xH xI Pn Pp;replace Hy:=Kp;clear nJ Dx Dy ane anf;replace Hr:=oM;clear gu xC wj xD wm Oq Lt Ot Lu;obtain⟨x0,x1⟩:=Hx.out.c2;obtain⟨y0,y1⟩:=Hy.out.c2;obtain⟨r0,ag,r1,ah⟩:=Hr.out.g2;rw[He.out];go_wp2;refine bodyPost_ret (v:=bZ (iv s l-iv t m)) (by simp[results,Tryz.results37,go_sem,r0,r1]) rfl ⟨rfl,?_⟩;(repeat first|exact Hb.out| (refine Below.setCell ?_ (by have:=Hb.out.size;first| (dsimp only;omega) | (show _<=_;omega) | (simp<;>omega)) _) | (refine Below.alloc ?_ zt _) |refine Below.drew ?_)
theorem amV (s:Bool)(l:List UInt8)(t:Bool)(m:List UInt8)(w:World)(hl:l.length<=34359738368)(hm:m.length<=34359738368)(hd:(nt (iv s l-iv t m).natAbs).length<=1099511627776):
 Calls Tryz.prog 67 #[.agg #[.bool s,.string (bs l)],.agg #[.bool t,.string (bs m)]] w λe w'=>e=.returned (.int .i64 (dF (iv s l-iv t m)))/\Bw w w':=by
 have Hi:=af (dz (iv s l-iv t m));go_enter Tryz.func67,Tryz.ntmps67;have Hb:Hid (Bw w w):=Below.refl _ _;go_wp2_with fail;obtain⟨R,hR⟩:∃R:World->Prop,(λW=>aj W (w.heap.size) 32 [.bool s,.string (bs l)]/\aj W (w.heap.size+1) 32 [.bool t,.string (bs m)]/\Bw w W)=R:=⟨_,rfl⟩;first|refine bP R ?hR ?_|refine bO R ?hR ?_
 case hR=>subst hR;exact⟨((aj.newAt w _ _ (b:=w.heap.size) rfl).alloc _),(aj.newAt (w.alloc _) _ _ (b:=w.heap.size+1) zm),(zl.alloc zj _)⟩
 subst hR;rintro W ⟨qx,qy,ae⟩;have Hx:=af qx;clear qx;have Hy:=af qy;clear qy;obtain⟨x0,x1⟩:=Hx.out.c2;obtain⟨y0,y1⟩:=Hy.out.c2;replace Hb:=ak Hb ae;clear ae;go_wp2_with fail;refine(Iy s l t m _ hl hm).mono ?_;rintro e w1 ⟨rfl,ae⟩;clear x0 x1 y0 y1;replace Hx:=kB Hx ae;replace Hy:=kB Hy ae;obtain⟨x0,x1⟩:=Hx.out.c2;obtain⟨y0,y1⟩:=Hy.out.c2;replace Hb:=ak Hb ae;clear ae;go_wp2_with fail;refine(Ds (ai (iv s l-iv t m)) (nt (iv s l-iv t m).natAbs) _ hd).mono ?_;rintro e w2 ⟨rfl,ae⟩;clear x0 x1 y0 y1;replace Hx:=kB Hx ae;replace Hy:=kB Hy ae;obtain⟨x0,x1⟩:=Hx.out.c2;obtain⟨y0,y1⟩:=Hy.out.c2;replace Hb:=ak Hb ae;clear ae;rw[Hi.out];go_wp2;go_ret;exact⟨rfl,Hb.out⟩
theorem Ix (s:Bool)(l:List UInt8)(n:Nat)(w:World)(hl:l.length<=68719476736)(hn:n<=549755813888):
 Calls Tryz.prog 38 #[.agg #[.bool s,.string (bs l)],.int .i64 (n:Int)] w λe w'=>e=.returned (bZ (iv s l*2^n))/\Bw w w':=by
 have hlen:(nt (nv l*2^n)).length<=1099511627776:=by
  have h1:nv l*2^n<2^(8*l.length+n):=by rw[Nat.pow_add,Nat.pow_mul];exact Nat.mul_lt_mul_of_pos_right (fT l) (Nat.pow_pos zd)
  have h2:=gv h1;rw[akk];omega
 have He:Hid (iv s (nt (nv l*2^n))=iv s l*2^n):=by
  show _=_
  rw[mX];unfold iv;cases s<;>simp[Int.natCast_mul,Int.natCast_pow,Int.neg_mul]
 go_enter Tryz.func38,Tryz.ntmps38;have Hb:Hid (Bw w w):=Below.refl _ _;go_wp2_with fail;obtain⟨R,hR⟩:∃R:World->Prop,(λW=>aj W (w.heap.size) 32 [.bool s,.string (bs l)]/\aj W (w.heap.size+1) 32 [.bool false,.string (bs [])]/\Bw w W)=R:=⟨_,rfl⟩;first|refine bP R ?hR ?_|refine bO R ?hR ?_
 case hR=>subst hR;exact⟨((aj.newAt w _ _ (b:=w.heap.size) rfl).alloc _),(aj.newAt (w.alloc _) _ _ (b:=w.heap.size+1) zm),(zl.alloc zj _)⟩
 subst hR;rintro W ⟨qx,qr,ae⟩;have Hx:=af qx;clear qx;have Hr:=af qr;clear qr;obtain⟨x0,x1⟩:=Hx.out.c2;obtain⟨r0,ag,r1,ah⟩:=Hr.out.g2;replace Hb:=ak Hb ae;clear ae;have NV:w.heap.size≠w.heap.size+1:=by omega
 go_region_held3 (λw'=>w'.cell? ⟨w.heap.size,0,none⟩=some (.bool s)/\w'.cell? ⟨w.heap.size,1,none⟩=some (.string (bs l))) (((try dsimp only);go_split_ands;(repeat' apply And.intro)<;>(first|exact True.intro|with_reducible assumption| ((with_reducible refine fq zg ?_);(repeat(with_reducible refine fq zg ?_));with_reducible assumption) |exact cell_later (by with_reducible assumption) (by with_reducible assumption) |exact aJ (by with_reducible assumption) |go_keep))) (first| (go_at_call 79;(with_reducible refine(aka l n _ hl hn).mono ?_);rintro e w1 ⟨rfl,hq⟩;have hw1:Bw W w1:=(by first|exact aO hq|exact hq|exact oY hq|exact oX hq|exact sD hq);clear hq;have jw:=af (Hx.out.below hw1);have xH:w1.cell? ⟨w.heap.size,0,none⟩=some (.bool s):=jw.out.cell 0;have xI:w1.cell? ⟨w.heap.size,1,none⟩=some (.string (bs l)):=jw.out.cell 1;have gu:=af (Hr.out.below hw1);have xC:w1.cell? ⟨w.heap.size+1,0,none⟩=some (.bool false):=gu.out.cell 0;have wj:w1.frozen? ⟨w.heap.size+1,0,none⟩=false:=gu.out.free 0;have xD:w1.cell? ⟨w.heap.size+1,1,none⟩=some (.string (bs [])):=gu.out.cell 1;have wm:w1.frozen? ⟨w.heap.size+1,1,none⟩=false:=gu.out.free 1) | (go_at_call 77;(with_reducible refine(uX (nt (nv l*2^n)) s _ hlen).mono ?_);rintro e w2 ⟨rfl,hq⟩;have hw2:Bw w1 w2:=(by first|exact aO hq|exact hq|exact oY hq|exact oX hq|exact sD hq);clear hq;have vU:=af (jw.out.below hw2);have Pn:w2.cell? ⟨w.heap.size,0,none⟩=some (.bool s):=vU.out.cell 0;have Pp:w2.cell? ⟨w.heap.size,1,none⟩=some (.string (bs l)):=vU.out.cell 1;have oM:=af (gu.out.below hw2);have Oq:w2.cell? ⟨w.heap.size+1,0,none⟩=some (.bool false):=oM.out.cell 0;have Lt:w2.frozen? ⟨w.heap.size+1,0,none⟩=false:=oM.out.free 0;have Ot:w2.cell? ⟨w.heap.size+1,1,none⟩=some (.string (bs [])):=oM.out.cell 1;have Lu:w2.frozen? ⟨w.heap.size+1,1,none⟩=false:=oM.out.free 1))
 replace Hb:=af (aH Hb.out hw1);clear hw1;replace Hb:=af (aH Hb.out hw2);clear hw2 x0 x1 r0 ag r1 ah;replace Hx:=vU;clear jw xH xI Pn Pp;replace Hr:=oM;clear gu xC wj xD wm Oq Lt Ot Lu;obtain⟨x0,x1⟩:=Hx.out.c2;obtain⟨r0,ag,r1,ah⟩:=Hr.out.g2;rw[He.out];go_wp2;refine bodyPost_ret (v:=bZ (iv s l*2^n)) (by simp[results,Tryz.results38,go_sem,r0,r1]) rfl ⟨rfl,?_⟩;(repeat first|exact Hb.out| (refine Below.setCell ?_ (by have:=Hb.out.size;first| (dsimp only;omega) | (show _<=_;omega) | (simp<;>omega)) _) | (refine Below.alloc ?_ zt _) |refine Below.drew ?_)
theorem Iw (n N:Int)(hN:n=N)(w:World)(h0: -9223372036854775808<=n)(h1:n<=9223372036854775807):
 Calls Tryz.prog 36 #[.int .i64 n] w λe w'=>e=.returned (bZ N)/\Bw w w':=by
 subst hN;exact Ph n w h0 h1
def fX :List (Bool×List UInt8)->Int
 |[]=>1
 |x::xs=>iv x.1 x.2*fX xs
theorem aio (xs ys:List (Bool×List UInt8)):fX (xs++ys)=fX xs*fX ys:=by
 induction xs with
 |nil=>simp[fX]
 |cons x xs ih=>simp[fX,ih,Int.mul_assoc]
theorem air (xs:List (Bool×List UInt8))(k:Nat)(hk:k<xs.length):fX (xs.take (k+1))=fX (xs.take k) *iv xs[k].1 xs[k].2:=by rw[List.take_succ_eq_append_getElem hk,aio];simp[fX]
def mW (xs:List (Bool×List UInt8)):Nat:=(xs.map λx=>x.2.length).sum
theorem aim (xs:List (Bool×List UInt8))(k:Nat):mW (xs.take k)<=mW xs:=by
 unfold mW;induction xs generalizing k with
 |nil=>simp
 | cons x xs ih=>cases k with
   |zero=>simp
   |succ k=>simp only[List.take_succ_cons,List.map_cons,List.sum_cons];have:=ih k;omega
theorem ail (xs:List (Bool×List UInt8))(x)(h:x∈xs):x.2.length<=mW xs:=by
 unfold mW;induction xs with
 |nil=>simp at h
 | cons y xs ih=>
   simp at h⊢;rcases h with h|h
   . subst h;omega
   . have:=ih h;omega
theorem aiq (xs:List (Bool×List UInt8)):(fX xs).natAbs<=256^mW xs:=by
 induction xs with
 |nil=>simp[fX,mW]
 | cons x xs ih=>
   simp only[fX,Int.natAbs_mul,ot];have h1:=fT x.2;have:mW (x::xs)=x.2.length+mW xs:=by simp[mW]
   rw[this,Nat.pow_add];exact Nat.mul_le_mul (Nat.le_of_lt h1) ih
theorem aip (xs:List (Bool×List UInt8))(N:Nat)(h:mW xs+1<=N):(nt (fX xs).natAbs).length<=N:=by refine iM (Nat.lt_of_le_of_lt (aiq xs) ?_);exact Nat.pow_lt_pow_right zd zo
theorem amY (xs:List (Bool×List UInt8))(a:Option Addr)(cap:Nat)(w:World)(hl:mW xs<=34359738368)(hx:xs.length<=1048576)
 (ha:At w a (xs.flatMap Gt)):
 Calls Tryz.prog 88 #[.slice a xs.length cap] w λe w'=>e=.returned (bZ (fX xs))/\Bw w w':=by
 have Hl:=af hl;clear hl;have Ha:=af ha;clear ha;have Ae:Hid (∀k,(nt (fX (xs.take k)).natAbs).length<=68719476736):=λk=>aip _ _ (by have:=aim xs k;have:=Hl.out;omega);obtain⟨one,hone⟩:∃one:Int,1=one:=⟨_,rfl⟩;have AR:=af hone;clear hone;go_enter Tryz.func88,Tryz.ntmps88;have Hb:Hid (Bw w w):=Below.refl _ _;go_wp2_with fail;obtain⟨R,hR⟩:∃R:World->Prop,(λW=>aj W (w.heap.size) 32 [.bool false,.string (bs [])]/\Bw w W)=R:=⟨_,rfl⟩;first|refine bP R ?hR ?_|refine bO R ?hR ?_
 case hR=>subst hR;exact⟨(aj.newAt w _ _ (b:=w.heap.size) rfl),zl⟩
 subst hR;rintro W ⟨qr,ae⟩;have Hr:=af qr;clear qr;obtain⟨r0,ag,r1,ah⟩:=Hr.out.g2;replace Hb:=ak Hb ae;clear ae;go_wp2_with fail;refine(Iw 1 one AR.out _ zo zo).mono ?_;rintro e w1 ⟨rfl,ae⟩;clear r0 ag r1 ah;replace Hr:=kB Hr ae;obtain⟨r0,ag,r1,ah⟩:=Hr.out.g2;replace Hb:=ak Hb ae;clear ae;go_wp2_with fail;refine(Iz (nt one.natAbs) (ai one) _).mono ?_;rintro e w2 ⟨rfl,ae⟩;clear r0 ag r1 ah;replace Hr:=kB Hr ae;obtain⟨r0,ag,r1,ah⟩:=Hr.out.g2;replace Hb:=ak Hb ae;clear ae;have aoY:w.heap.size<w2.heap.size:=Hr.out.lt;have ov:=Hr.out.lt;go_wp2_with fail;obtain⟨R,hR⟩:∃R:World->Prop,(λW2=>aj W2 (w2.heap.size) 112 [.string (bs (nt one.natAbs)),.bool (ai one)]/\Bw w2 W2)=R:=⟨_,rfl⟩;first|refine bP R ?hR ?_|refine bO R ?hR ?_
 case hR=>subst hR;exact⟨(aj.newAt w2 _ _ (b:=w2.heap.size) rfl),zl⟩
 subst hR;rintro W2 ⟨qs,ae⟩;have Hs:=af qs;clear qs r0 ag r1 ah;replace Hr:=kB Hr ae;obtain⟨r0,ag,r1,ah⟩:=Hr.out.g2;obtain⟨s0,aZ,s1,bf⟩:=Hs.out.g2;replace Hb:=ak Hb ae;clear ae
 go_loopw[5,10] (λ_ i wr=>∃(k:Nat) (t:Bool),k<=xs.length/\i=.int .i64 k/\iv t (nt (fX (xs.take k)).natAbs)=fX (xs.take k)/\aj wr w.heap.size 32 [.bool false,.string (bs [])]/\
  aj wr w2.heap.size 112 [.string (bs (nt (fX (xs.take k)).natAbs)),.bool t]/\Bw w wr) (λ_ i _=>xs.length-(intOf i).toNat)
 case atStart=>
  have e:fX (xs.take 0)=one:=by rw[<-AR.out];simp[fX]
  refine⟨0,ai one,Nat.zero_le _,rfl,?_,Hr.out,?_,Hb.out⟩
  . rw[e];exact dz one
  . rw[e];exact Hs.out
 case round=>
  obtain⟨k,t,hk,rfl,rF,qr,qs,hb⟩:=hrel;replace Hr:=af qr;replace Hs:=af qs;replace Hb:=af hb;have lD:=af rF;clear qr qs hb rF r0 r1 ag ah s0 s1 aZ bf;by_cases hlt:k<xs.length
  . obtain⟨b,o,hab,hcs⟩:=(Ha.out.below Hb.out).elem (f:=Gt) (sz:=2) (λ_=>rfl) zd k hlt;have hc0:wr.cell? ⟨b,o+k*2,none⟩=some (.bool xs[k].1):=hcs 0 zd;have hc1:wr.cell? ⟨b,o+k*2+1,none⟩=some (.string (bs xs[k].2)):=hcs 1 zd;have bD:=sZ xs.length cap k (k:Int) hab hlt rfl;have cn:=af (air xs k hlt);have jv:Hid (xs[k].2.length<=34359738368):=by have:=ail xs _ (List.getElem_mem hlt);have:=Hl.out;show _<=_;omega
    have jf:=af (Ae.out k);clear hcs hab;generalize xs[k]=x at*;obtain⟨t1,l1⟩:=x;generalize hS:fX (xs.take k)=S at*;have HS:=af hS;clear hS;obtain⟨r0,ag,r1,ah⟩:=Hr.out.g2;obtain⟨s0,aZ,s1,bf⟩:=Hs.out.g2;have CR:=Hr.out.lt;have NP:=Hs.out.lt;go_wp2_with fail;obtain⟨R,hR⟩:∃R:World->Prop,(λW1=>aj W1 (wr.heap.size) 32 [.bool t1,.string (bs l1)]/\Bw wr W1)=R:=⟨_,rfl⟩;first|refine bP R ?hR ?_|refine bO R ?hR ?_
    case hR=>subst hR;exact⟨(aj.newAt wr _ _ (b:=wr.heap.size) rfl),zl⟩
    subst hR;rintro W1 ⟨qa,ae⟩;have Ha:=af qa;clear qa r0 ag r1 ah;replace Hr:=kB Hr ae;obtain⟨r0,ag,r1,ah⟩:=Hr.out.g2;clear s0 aZ s1 bf;replace Hs:=kB Hs ae;obtain⟨s0,aZ,s1,bf⟩:=Hs.out.g2;obtain⟨a0,a1⟩:=Ha.out.c2;replace Hb:=ak Hb ae;clear ae;go_region_with (first| (go_at_call 114;refine(Iz l1 t1 _).mono ?_;rintro e w3 ⟨rfl,hq⟩;have hw3:Bw W1 w3:=aO hq;clear hq;have Oz:=cell_later hw3 s0;have OB:=cell_later hw3 s1;have agM:=(Hs.out.below hw3).free 0;have agO:=(Hs.out.below hw3).free 1) | (go_at_call 136;refine(amx (nt S.natAbs) l1 t t1 _ jf.out (by have:=jv.out;omega)).mono ?_;rintro e w4 ⟨rfl,hw4⟩;have alF:=cell_later hw4 Oz;have alI:=cell_later hw4 OB;have agN:=((Hs.out.below hw3).below hw4).free 0;have agP:=((Hs.out.below hw3).below hw4).free 1))
    all_goals
     go_wp2
     go_roundw
     case rel=>
      have hq:=aiw t (nt S.natAbs) t1 l1;rw[lD.out,<-cn.out]at hq;have hq2:nv (nt S.natAbs) *nv l1=(fX (xs.take (k+1))).natAbs:=by rw[cn.out,Int.natAbs_mul,ot,ic]
      rw[hq2]at hq⊢;refine⟨k+1,_,by omega,by go_num,hq,((((Hr.out.below hw3).below hw4).ard ⟨w2.heap.size,0,none⟩ zp _).ard ⟨w2.heap.size,1,none⟩ zp _),((((Hs.out.below hw3).below hw4).set 0 _).set 1 _),?_⟩;exact((aH (aH Hb.out hw3) hw4).setCell zp _).setCell zp _
     case measure=>simp[intOf];omega
  . obtain rfl:k=xs.length:=by omega
    rw[List.take_length]at Hs lD;have jf:=Ae.out xs.length;rw[List.take_length]at jf;obtain⟨r0,ag,r1,ah⟩:=Hr.out.g2;obtain⟨s0,aZ,s1,bf⟩:=Hs.out.g2;go_wp2_with fail;refine(uX (nt (fX xs).natAbs) t _ zo).mono ?_;rintro e w3 ⟨rfl,ae⟩;clear r0 ag r1 ah s0 aZ s1 bf;replace Hr:=kB Hr ae;replace Hs:=kB Hs ae;obtain⟨r0,ag,r1,ah⟩:=Hr.out.g2;obtain⟨s0,aZ,s1,bf⟩:=Hs.out.g2;replace Hb:=ak Hb ae;clear ae;rw[lD.out];go_wp2;refine bodyPost_ret (v:=bZ (fX xs)) (by simp[results,Tryz.results88,go_sem,r0,r1]) rfl ⟨rfl,?_⟩;(repeat first|exact Hb.out| (refine Below.setCell ?_ (by have:=Hb.out.size;first| (dsimp only;omega) | (show _<=_;omega) | (simp<;>omega)) _) | (refine Below.alloc ?_ zt _) |refine Below.drew ?_)
theorem Zz (v:Nat)(h:0<v):∃m,v=2^tz v* (2*m+1):=by
 induction v using Nat.strongRecOn with
 | _ v ih=>
   by_cases he:v%2=0
   . obtain⟨u,rfl⟩:∃u,v=2*u:=⟨v/2,by omega⟩;obtain⟨m,hm⟩:=ih u zo zo;refine⟨m,?_⟩;have e:tz (2*u)=tz u+1:=by unfold tz;rw[show((2*u:Nat):Int)=2* (u:Int)by omega];exact Int.trailingZeros_two_mul zo
     rw[e,Nat.pow_succ];conv=>lhs;rw[hm]
     rw[Nat.mul_comm (2^tz u) 2,Nat.mul_assoc]
   . refine⟨v/2,?_⟩;have e:tz v=0:=by unfold tz;exact Int.trailingZeros_eq_zero_of_mod_eq zo
     rw[e];omega
theorem Zx (v k:Nat)(h:0<v):tz v<k↔v%2^k≠0:=by
 obtain⟨m,hm⟩:=Zz v h;generalize tz v=c at*;constructor
 . intro hc h0;have hd:2^k∣v:=Nat.dvd_of_mod_eq_zero h0;have hd2:2^(c+1)∣v:=Nat.dvd_trans (Nat.pow_dvd_pow 2 hc) hd;rw[hm,Nat.pow_succ]at hd2;have:=Nat.dvd_of_mul_dvd_mul_left (Nat.pow_pos zd) hd2;omega
 . intro hne;rcases Nat.lt_or_ge c k with h1|h1
   . exact h1
   . exfalso;apply hne
     rw[hm];exact Nat.mod_eq_zero_of_dvd (Nat.dvd_trans (Nat.pow_dvd_pow 2 h1) (Nat.dvd_mul_right _ _))
theorem akc (v k:Nat)(h:v%2^k=0): -(v:Int)/2^k= -((v/2^k:Nat):Int):=by
 obtain⟨q,rfl⟩:=Nat.dvd_of_mod_eq_zero h;have hp:=Nat.pow_pos (n:=k) (show 0<2 by decide);rw[Nat.mul_div_cancel_left _ hp];have e: -((2^k*q:Nat):Int)=2^k* (-(q:Int)):=by simp[Int.natCast_mul,Int.natCast_pow,Int.mul_neg]
 rw[e,Int.mul_ediv_cancel_left];have:((2^k:Nat):Int)≠0:=by omega
 simpa[Int.natCast_pow]using this
theorem akd (v k:Nat)(h:v%2^k≠0): -(v:Int)/2^k= -((v/2^k:Nat):Int)-1:=by
 have hp:=Nat.pow_pos (n:=k) (show 0<2 by decide);have e:=(Nat.mod_add_div v (2^k)).symm;have hr:=Nat.mod_lt v hp;rw[show((2:Int)^k)=((2^k:Nat):Int)by simp[Int.natCast_pow]];generalize v%2^k=r at*;generalize v/2^k=q at*;generalize 2^k=p at*;subst e;have e2: -((r+p*q:Nat):Int)=((p:Int)-r)+p* (-(q:Int)-1):=by rw[Int.natCast_add,Int.natCast_mul,Int.mul_sub,Int.mul_neg,Int.mul_one];omega
 rw[e2,Int.add_mul_ediv_left _ _ zo,Int.ediv_eq_zero_of_lt zo zo];omega
theorem akj (l:List UInt8)(k B:Nat)(hl:l.length<=B):(nt (nv l/2^k)).length<=B:=iM (Nat.lt_of_le_of_lt (Nat.div_le_self _ _) (Nat.lt_of_lt_of_le (fT l) (Nat.pow_le_pow_right zd hl)))
theorem ZO (s:Bool)(l:List UInt8)(k:Nat)(w:World)(hl:l.length<=34359738368)(hk:0<k)(hk2:k<=1099511627776)(hT:az w):
 Calls Tryz.prog 38 #[.agg #[.bool s,.string (bs l)],.int .i64 (-(k:Int))] w λe w'=>e=.returned (bZ (iv s l/2^k))/\Bw w w':=by
 have hmax:max (-(k:Int)) (-1099511627776)= -(k:Int):=by omega
 have hlen:(nt (nv l/2^k)).length<=34359738368:=akj l k _ hl;obtain⟨Z,hZ⟩:=aB (nv l/2^k);have Gl:∀W,Calls Tryz.prog 80 #[.string (bs l),.int .i64 (k:Int)] W λe w'=>e=.returned (.string (bs (nt Z)))/\Bw W w':=λW=>by rw[<-hZ];exact akb l k W zo hk2
 rw[hZ]at hlen;have HZ:=af hZ;clear hZ;have acS:=af Gl;clear Gl;obtain⟨M,hM⟩:=aB (iv s (nt Z));have HM:=af hM;clear hM;have Vu:∀W,Calls Tryz.prog 77 #[.agg #[.string (bs (nt Z)),.bool s]] W λe w'=>e=.returned (bZ M)/\Bw W w':=λW=>by have:=uX (nt Z) s W zo;rw[HM.out]at this;exact this
 have aca:=af Vu;clear Vu;go_enter Tryz.func38,Tryz.ntmps38;have Hb:Hid (Bw w w):=Below.refl _ _;go_upto_region 4 with fail
 go_wp2_with fail;obtain⟨R,hR⟩:∃R:World->Prop,(λW=>aj W (w.heap.size) 32 [.bool s,.string (bs l)]/\aj W (w.heap.size+1) 32 [.bool false,.string (bs [])]/\Bw w W)=R:=⟨_,rfl⟩;first|refine bP R ?hR ?_|refine bO R ?hR ?_
 case hR=>subst hR;exact⟨((aj.newAt w _ _ (b:=w.heap.size) rfl).alloc _),(aj.newAt (w.alloc _) _ _ (b:=w.heap.size+1) zm),(zl.alloc zj _)⟩
 subst hR;rintro W ⟨qx,qr,ae⟩;have Hx:=af qx;clear qx;have Hr:=af qr;clear qr;obtain⟨x0,x1⟩:=Hx.out.c2;obtain⟨r0,ag,r1,ah⟩:=Hr.out.g2;replace Hb:=ak Hb ae;clear ae;go_cut[5] (λs5 wx=>∃g:Nat,s5=.pointer (some ⟨g,0,none⟩)/\w.heap.size+1<g/\aj wx w.heap.size 32 [.bool s,.string (bs l)]/\aj wx (w.heap.size+1) 32 [.bool false,.string (bs [])]/\aj wx g 32 [.bool (ai M),.string (bs (nt M.natAbs))]/\Bw w wx);case first=>
  have hxW:w.heap.size<W.heap.size:=Hx.out.lt;have hrW:w.heap.size+1<W.heap.size:=Hr.out.lt;have hwk:IntKind.i64.wrap (k:Int)=(k:Int):=by rw[IntKind.wrap_i64];omega
  go_region_held3 (λw'=>w'.cell? ⟨w.heap.size,0,none⟩=some (.bool s)/\w'.cell? ⟨w.heap.size,1,none⟩=some (.string (bs l))) (((try dsimp only);go_split_ands;(repeat' apply And.intro)<;>(first|with_reducible assumption|exact aJ (by with_reducible assumption) |exact KH (by with_reducible assumption) |exact KH (aJ (by with_reducible assumption)) | ((with_reducible refine fq zf ?_);(repeat(with_reducible refine fq zf ?_));first|with_reducible assumption|exact aJ (by with_reducible assumption) |exact KH (by with_reducible assumption)) |go_keep))) (first| (go_at_call 80;(with_reducible refine(acS.out _).mono ?_);rintro e w1 ⟨rfl,hq⟩;(first| (have hw1:Bw W w1:=aO hq) | (have hw1:Bw W w1:=sD hq;have AK:=af (aj.below (aj.drew (aj.new W 32 [.bool false,.string (bs [])])) hq);have aqw:w1.cell? ⟨W.heap.size,0,none⟩=some (.bool false):=AK.out.cell 0;have aqx:w1.cell? ⟨W.heap.size,1,none⟩=some (.string (bs [])):=AK.out.cell 1;have anS:=AK.out.free 0;have anT:=AK.out.free 1));clear hq;have zs1:=hw1.size;obtain⟨Ko,acL⟩:=aI (Hx.out.below hw1) (Hr.out.below hw1);have aqH:w1.cell? ⟨w.heap.size,0,none⟩=some (.bool s):=Ko.out.cell 0;have aqP:w1.cell? ⟨w.heap.size,1,none⟩=some (.string (bs l)):=Ko.out.cell 1) | (go_at_call 77;(with_reducible refine(aca.out _).mono ?_);rintro e w2 ⟨rfl,hq⟩;(first| (have hw2:Bw w1 w2:=hq;(try(have oK:=af (aj.below AK.out hq);have ajX:w2.cell? ⟨W.heap.size,0,none⟩=some (.bool false):=oK.out.cell 0;have aj0:w2.cell? ⟨W.heap.size,1,none⟩=some (.string (bs [])):=oK.out.cell 1;have agB:=oK.out.free 0;have agC:=oK.out.free 1))) | (have hw2:Bw w1 w2:=oX hq;have oK:=af (aj.below (aj.new w1 32 [.bool false,.string (bs [])]) hq);have ajX:w2.cell? ⟨w1.heap.size,0,none⟩=some (.bool false):=oK.out.cell 0;have aj0:w2.cell? ⟨w1.heap.size,1,none⟩=some (.string (bs [])):=oK.out.cell 1;have agB:=oK.out.free 0;have agC:=oK.out.free 1));clear hq;have zs2:=hw2.size;obtain⟨Bc,JZ⟩:=aI (Ko.out.below hw2) (acL.out.below hw2);have aqI:w2.cell? ⟨w.heap.size,0,none⟩=some (.bool s):=Bc.out.cell 0;have aqQ:w2.cell? ⟨w.heap.size,1,none⟩=some (.string (bs l)):=Bc.out.cell 1))
  all_goals(go_wp2_with fail;go_meet)
  . exact⟨w2.heap.size,rfl,by omega,Bc.out.alloc _,JZ.out.alloc _,aj.new _ _ _,(aH (aH Hb.out hw1) hw2).alloc zo _⟩
  . exact⟨w1.heap.size,rfl,by omega,((Bc.out.ard ⟨w1.heap.size,0,none⟩ (by first| (dsimp only;omega) |omega| (simp<;>omega)) _).ard ⟨w1.heap.size,1,none⟩ (by first| (dsimp only;omega) |omega| (simp<;>omega)) _),((JZ.out.ard ⟨w1.heap.size,0,none⟩ (by first| (dsimp only;omega) |omega| (simp<;>omega)) _).ard ⟨w1.heap.size,1,none⟩ (by first| (dsimp only;omega) |omega| (simp<;>omega)) _),((oK.out.set 0 _).set 1 _),((aH (aH Hb.out hw1) hw2).setCell (by first| (dsimp only;omega) |omega| (simp<;>omega)) _).setCell (by first| (dsimp only;omega) |omega| (simp<;>omega)) _⟩
  . exact⟨W.heap.size,rfl,hrW,((Bc.out.ard ⟨W.heap.size,0,none⟩ (by first| (dsimp only;omega) |omega| (simp<;>omega)) _).ard ⟨W.heap.size,1,none⟩ (by first| (dsimp only;omega) |omega| (simp<;>omega)) _),((JZ.out.ard ⟨W.heap.size,0,none⟩ (by first| (dsimp only;omega) |omega| (simp<;>omega)) _).ard ⟨W.heap.size,1,none⟩ (by first| (dsimp only;omega) |omega| (simp<;>omega)) _),((oK.out.set 0 _).set 1 _),((aH (aH Hb.out hw1) hw2).setCell (by first| (dsimp only;omega) |omega| (simp<;>omega)) _).setCell (by first| (dsimp only;omega) |omega| (simp<;>omega)) _⟩
 case rest=>
  obtain⟨g,rfl,hg,qx,qr,qn,qb⟩:=hcut;replace Hx:=af qx;replace Hr:=af qr;have Hn:=af qn;replace Hb:=af qb;clear qx qr qn qb x0 x1 r0 r1 ag ah;cases s
  . obtain ⟨x0,x1⟩:=Hx.out.c2;obtain⟨r0,ag,r1,ah⟩:=Hr.out.g2;obtain⟨n0,n1⟩:=Hn.out.c2;have fJ:Hid (iv false l/2^k=M):=by
     show _=_
     rw[<-HM.out,<-HZ.out,mX];unfold iv;simp[Int.natCast_pow]
    go_wp2;refine bodyPost_ret (v:=bZ M) (by simp[results,Tryz.results38,go_sem,r0,r1]) rfl ⟨by rw[fJ.out],?_⟩;(repeat first|exact Hb.out| (refine Below.setCell ?_ (by have:=Hb.out.size;first| (dsimp only;omega) | (show _<=_;omega) | (simp<;>omega)) _) | (refine Below.alloc ?_ zt _) |refine Below.drew ?_)
  . obtain⟨x0,x1⟩:=Hx.out.c2;obtain⟨r0,ag,r1,ah⟩:=Hr.out.g2;obtain⟨n0,n1⟩:=Hn.out.c2;have nE:Hid (l.length<=68719476736):=by show _<=_;omega
    by_cases h0:nv l=0
    . have hb0:bC (nv l)=0:=by rw[h0];rfl
      have fJ:Hid (iv true l/2^k=M):=by
       show _=_
       rw[<-HM.out,<-HZ.out,mX,h0];unfold iv;simp[h0]
      have gU:=af hb0;clear hb0;go_wp2_with fail;refine(NT l _ nE.out).mono ?_;rintro e w3 ⟨rfl,ae⟩;clear x0 x1 r0 ag r1 ah n0 n1;replace Hx:=kB Hx ae;replace Hr:=kB Hr ae;replace Hn:=kB Hn ae;obtain⟨x0,x1⟩:=Hx.out.c2;obtain⟨r0,ag,r1,ah⟩:=Hr.out.g2;obtain⟨n0,n1⟩:=Hn.out.c2;replace Hb:=ak Hb ae;clear ae;rw[gU.out];go_wp2;refine bodyPost_ret (v:=bZ M) (by simp[results,Tryz.results38,go_sem,r0,r1]) rfl ⟨by rw[fJ.out],?_⟩;(repeat first|exact Hb.out| (refine Below.setCell ?_ (by have:=Hb.out.size;first| (dsimp only;omega) | (show _<=_;omega) | (simp<;>omega)) _) | (refine Below.alloc ?_ zt _) |refine Below.drew ?_)
    . have hbp:0<bC (nv l):=Bq zo;have Ah:Hid (az wc):=hT.below Hb.out;by_cases hz:tz (nv l)<k
      . have fJ:Hid (iv true l/2^k=M-1):=by
         show _=_
         rw[<-HM.out,<-HZ.out,mX];have:=(Zx (nv l) k zo).1 hz;unfold iv;simp only[if_true];exact akd _ _ this
        have HMl:Hid ((nt M.natAbs).length<=34359738368):=by show _<=_;rw[<-HM.out,ot,ic];exact hlen
        obtain⟨one,hone⟩:∃one:Int,1=one:=⟨_,rfl⟩;have Hol:Hid ((nt one.natAbs).length<=34359738368):=by show _<=_;rw[<-hone];exact Nat.le_trans (iM (k:=1) zd) zd
        have AR:=af hone;clear hone;have acY:Hid (iv (ai M) (nt M.natAbs)-iv (ai one) (nt one.natAbs)=M-1):=by show _=_;rw[dz,dz,<-AR.out]
        go_wp2_with fail;refine(NT l _ nE.out).mono ?_;rintro e w3 ⟨rfl,ae⟩;clear x0 x1 r0 ag r1 ah n0 n1;replace Hx:=kB Hx ae;replace Hr:=kB Hr ae;replace Hn:=kB Hn ae;obtain⟨x0,x1⟩:=Hx.out.c2;obtain⟨r0,ag,r1,ah⟩:=Hr.out.g2;obtain⟨n0,n1⟩:=Hn.out.c2;replace Hb:=ak Hb ae;clear ae;replace Ah:=af (hT.below Hb.out);go_wp2_with fail;refine(NU l _ nE.out Ah.out).mono ?_;rintro e w4 ⟨rfl,ae⟩;clear x0 x1 r0 ag r1 ah n0 n1;replace Hx:=kB Hx ae;replace Hr:=kB Hr ae;replace Hn:=kB Hn ae;obtain⟨x0,x1⟩:=Hx.out.c2;obtain⟨r0,ag,r1,ah⟩:=Hr.out.g2;obtain⟨n0,n1⟩:=Hn.out.c2;replace Hb:=ak Hb ae;clear ae;go_wp2_with fail;have nen:g≠w.heap.size+1:=by omega
        go_region_held3 (λw'=>w'.cell? ⟨g,0,none⟩=some (.bool (ai M))/\w'.cell? ⟨g,1,none⟩=some (.string (bs (nt M.natAbs)))) (((try dsimp only);go_split_ands;(repeat' apply And.intro)<;>(first|exact True.intro|with_reducible assumption| ((with_reducible refine fq zg ?_);(repeat(with_reducible refine fq zg ?_));with_reducible assumption) |exact cell_later (by with_reducible assumption) (by with_reducible assumption) |exact aJ (by with_reducible assumption) |go_keep))) (first| (go_at_call 36;(with_reducible refine(Iw 1 one AR.out _ zo zo).mono ?_);rintro e w5 ⟨rfl,hq⟩;have cF:Bw w4 w5:=(by first|exact aO hq|exact hq|exact oY hq|exact oX hq|exact sD hq);clear hq;obtain⟨Rj,yc⟩:=aI (Hx.out.below cF) (Hr.out.below cF);have ak5:w5.cell? ⟨w.heap.size+1,0,none⟩=some (.bool false):=yc.out.cell 0;have agI:w5.frozen? ⟨w.heap.size+1,0,none⟩=false:=yc.out.free 0;have ala:w5.cell? ⟨w.heap.size+1,1,none⟩=some (.string (bs [])):=yc.out.cell 1;have agK:w5.frozen? ⟨w.heap.size+1,1,none⟩=false:=yc.out.free 1;have Ed:=af (Hn.out.below cF);have ajY:w5.cell? ⟨g,0,none⟩=some (.bool (ai M)):=Ed.out.cell 0;have aj1:w5.cell? ⟨g,1,none⟩=some (.string (bs (nt M.natAbs))):=Ed.out.cell 1) | (go_at_call 37;(with_reducible refine(Iy (ai M) (nt M.natAbs) (ai one) (nt one.natAbs) _ HMl.out Hol.out).mono ?_);rintro e w6 ⟨rfl,hq⟩;have CJ:Bw w5 w6:=(by first|exact aO hq|exact hq|exact oY hq|exact oX hq|exact sD hq);clear hq;obtain⟨adm,AW⟩:=aI (Rj.out.below CJ) (yc.out.below CJ);have ak6:w6.cell? ⟨w.heap.size+1,0,none⟩=some (.bool false):=AW.out.cell 0;have agJ:w6.frozen? ⟨w.heap.size+1,0,none⟩=false:=AW.out.free 0;have alb:w6.cell? ⟨w.heap.size+1,1,none⟩=some (.string (bs [])):=AW.out.cell 1;have agL:w6.frozen? ⟨w.heap.size+1,1,none⟩=false:=AW.out.free 1;have JQ:=af (Ed.out.below CJ);have ajZ:w6.cell? ⟨g,0,none⟩=some (.bool (ai M)):=JQ.out.cell 0;have aj2:w6.cell? ⟨g,1,none⟩=some (.string (bs (nt M.natAbs))):=JQ.out.cell 1))
        replace Hb:=af (aH Hb.out cF);clear cF;replace Hb:=af (aH Hb.out CJ);clear CJ x0 x1 r0 ag r1 ah n0 n1;replace Hx:=adm;clear Rj;replace Hr:=AW;clear yc ak5 agI ala agK ak6 agJ alb agL;replace Hn:=JQ;clear Ed ajY aj1 ajZ aj2;obtain⟨x0,x1⟩:=Hx.out.c2;obtain⟨r0,ag,r1,ah⟩:=Hr.out.g2;obtain⟨n0,n1⟩:=Hn.out.c2;rw[acY.out];go_wp2;refine bodyPost_ret (v:=bZ (M-1)) (by simp[results,Tryz.results38,go_sem,r0,r1]) rfl ⟨by rw[fJ.out],?_⟩;(repeat first|exact Hb.out| (refine Below.setCell ?_ (by have:=Hb.out.size;first| (dsimp only;omega) | (show _<=_;omega) | (simp<;>omega)) _) | (refine Below.alloc ?_ zt _) |refine Below.drew ?_)
      . have fJ:Hid (iv true l/2^k=M):=by
         show _=_
         rw[<-HM.out,<-HZ.out,mX];have h2:nv l%2^k=0:=by
          rcases Nat.eq_zero_or_pos (nv l%2^k)with h|h
          . exact h
          . exact absurd ((Zx (nv l) k zo).2 zo) hz
         unfold iv;simp only[if_true];exact akc _ _ h2
        go_wp2_with fail;refine(NT l _ nE.out).mono ?_;rintro e w3 ⟨rfl,ae⟩;clear x0 x1 r0 ag r1 ah n0 n1;replace Hx:=kB Hx ae;replace Hr:=kB Hr ae;replace Hn:=kB Hn ae;obtain⟨x0,x1⟩:=Hx.out.c2;obtain⟨r0,ag,r1,ah⟩:=Hr.out.g2;obtain⟨n0,n1⟩:=Hn.out.c2;replace Hb:=ak Hb ae;clear ae;replace Ah:=af (hT.below Hb.out);go_wp2_with fail;refine(NU l _ nE.out Ah.out).mono ?_;rintro e w4 ⟨rfl,ae⟩;clear x0 x1 r0 ag r1 ah n0 n1;replace Hx:=kB Hx ae;replace Hr:=kB Hr ae;replace Hn:=kB Hn ae;obtain⟨x0,x1⟩:=Hx.out.c2;obtain⟨r0,ag,r1,ah⟩:=Hr.out.g2;obtain⟨n0,n1⟩:=Hn.out.c2;replace Hb:=ak Hb ae;clear ae;go_wp2;refine bodyPost_ret (v:=bZ M) (by simp[results,Tryz.results38,go_sem,r0,r1]) rfl ⟨by rw[fJ.out],?_⟩;(repeat first|exact Hb.out| (refine Below.setCell ?_ (by have:=Hb.out.size;first| (dsimp only;omega) | (show _<=_;omega) | (simp<;>omega)) _) | (refine Below.alloc ?_ zt _) |refine Below.drew ?_)
end Go.Proofs.YtoopepmmepmfnaaGreatDoor
