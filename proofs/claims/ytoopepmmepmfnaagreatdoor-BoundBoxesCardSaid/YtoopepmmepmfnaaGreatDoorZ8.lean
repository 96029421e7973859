/- Package whole,on: Sub,Cmp,Mul,Shift. -/
import Derived.Test.YtoopepmmepmfnaaGreatDoorZ6
import Derived.Deep.DeepCutAuto
set_option linter.unusedVariables false
set_option linter.unusedSimpArgs false
set_option maxRecDepth 100000
set_option maxHeartbeats 16000000
namespace Go.Proofs.YtoopepmmepmfnaaGreatDoor
open Go.RowKit
attribute [local go_sem ↓] Go.wp_at_zero Go.wp_at_succ
theorem ZU (s:Bool)(l:List UInt8)(t:Bool)(m:List UInt8)(b cap:Nat)(ty:TypeId)(w:World)(hl:l.length<=34359738368)(hm:m.length<=34359738368)
 (ha:aj w b ty [.bool s,.string (bs l),.bool t,.string (bs m)]):
 Calls Tryz.prog 68 #[.slice (some ⟨b,0,none⟩) 2 cap] w λe w'=>e=.returned (cn (iv s l+iv t m))/\Bw w w':=by
 have:=am4 [(s,l),(t,m)] (some ⟨b,0,none⟩) cap w (by simp[hl,hm]) zm (At.arA ha);have e:jR [(s,l),(t,m)]=iv s l+iv t m:=by simp[jR]
 rw[e]at this;exact this
theorem CV (s:Bool)(m:List UInt8)(B:Nat)(hm:m.length<=B):(nt (-(iv s m)).natAbs).length<=B:=by rw[Int.natAbs_neg,mF];exact iq (Nat.lt_of_lt_of_le (eY m) (Nat.pow_le_pow_right zd hm))
theorem IE (s:Bool)(l:List UInt8)(N:Int)(hN: -(iv s l)=N)(w:World)(hl:l.length<=1099511627776):
 Calls Tryz.prog 78 #[.agg #[.bool s,.string (bs l)]] w λe w'=>e=.returned (cn N)/\Bw w w':=by
 subst hN;exact ZY s l w hl
theorem II (s:Bool)(l:List UInt8)(t:Bool)(m:List UInt8)(w:World)(hl:l.length<=34359738368)(hm:m.length<=34359738368):
 Calls Tryz.prog 37 #[.agg #[.bool s,.string (bs l)],.agg #[.bool t,.string (bs m)]] w λe w'=>e=.returned (cn (iv s l-iv t m))/\Bw w w':=by
 have hm2:=CV t m 34359738368 hm;have He:Hid (iv s l+iv (ai (-(iv t m))) (nt (-(iv t m)).natAbs)=iv s l-iv t m):=by show _=_;rw[dI];omega
 generalize hN: -(iv t m)=N at*;have HN:=af hN;clear hN;go_enter Tryz.func37,Tryz.ntmps37;have Hb:Hid (Bw w w):=Below.refl _ _;go_wp2_with fail;obtain⟨R,hR⟩:∃R:World->Prop,(λW=>aj W (w.heap.size) 32 [.bool s,.string (bs l)]/\aj W (w.heap.size+1) 32 [.bool t,.string (bs m)]/\aj W (w.heap.size+1+1) 32 [.bool false,.string (bs [])]/\Bw w W)=R:=⟨_,rfl⟩;first|refine bQ R ?hR ?_|refine bP R ?hR ?_
 case hR=>subst hR;exact⟨(((aj.newAt w _ _ (b:=w.heap.size) rfl).alloc _).alloc _),((aj.newAt (w.alloc _) _ _ (b:=w.heap.size+1) zm).alloc _),(aj.newAt ((w.alloc _).alloc _) _ _ (b:=w.heap.size+1+1) zm),((zl.alloc zj _).alloc zj _)⟩
 subst hR;rintro W ⟨qx,qy,qr,ae⟩;have Hx:=af qx;clear qx;have Hy:=af qy;clear qy;have Hr:=af qr;clear qr;obtain⟨x0,x1⟩:=Hx.out.c2;obtain⟨y0,y1⟩:=Hy.out.c2;obtain⟨r0,ag,r1,ah⟩:=Hr.out.g2;replace Hb:=ak Hb ae;clear ae;have Oz:w.heap.size≠w.heap.size+1+1:=by omega
 have XV:w.heap.size+1≠w.heap.size+1+1:=by omega
 go_region_held3 (λw'=>w'.cell? ⟨w.heap.size,0,none⟩=some (.bool s)/\w'.cell? ⟨w.heap.size,1,none⟩=some (.string (bs l))/\w'.cell? ⟨w.heap.size+1,0,none⟩=some (.bool t)/\w'.cell? ⟨w.heap.size+1,1,none⟩=some (.string (bs m))) (((try dsimp only);go_split_ands;(repeat' apply And.intro)<;>(first|exact True.intro|with_reducible assumption| ((with_reducible refine fp zg ?_);(repeat(with_reducible refine fp zg ?_));with_reducible assumption) |exact cell_later (by with_reducible assumption) (by with_reducible assumption) |exact aJ (by with_reducible assumption) |go_keep))) (first| (go_at_call 78;(with_reducible refine(IE t m N HN.out _ zo).mono ?_);rintro e w1 ⟨rfl,hq⟩;have hw1:Bw W w1:=(by first|exact aM hq|exact hq|exact pu hq|exact pq hq|exact sK hq);clear hq;have jE:=af (Hx.out.below hw1);have xJ:w1.cell? ⟨w.heap.size,0,none⟩=some (.bool s):=jE.out.cell 0;have xK:w1.cell? ⟨w.heap.size,1,none⟩=some (.string (bs l)):=jE.out.cell 1;have nX:=af (Hy.out.below hw1);have DC:w1.cell? ⟨w.heap.size+1,0,none⟩=some (.bool t):=nX.out.cell 0;have DF:w1.cell? ⟨w.heap.size+1,1,none⟩=some (.string (bs m)):=nX.out.cell 1;have gu:=af (Hr.out.below hw1);have xD:w1.cell? ⟨w.heap.size+1+1,0,none⟩=some (.bool false):=gu.out.cell 0;have wm:w1.frozen? ⟨w.heap.size+1+1,0,none⟩=false:=gu.out.free 0;have xE:w1.cell? ⟨w.heap.size+1+1,1,none⟩=some (.string (bs [])):=gu.out.cell 1;have wn:w1.frozen? ⟨w.heap.size+1+1,1,none⟩=false:=gu.out.free 1) | (go_at_call 68;(with_reducible refine(ZU s l (ai N) (nt N.natAbs) w1.heap.size 2 32 _ hl hm2 (by first|exact aj.drew (aj.new _ _ _) |exact aj.new _ _ _)).mono ?_);rintro e w2 ⟨rfl,hq⟩;have hw2:Bw w1 w2:=(by first|exact aM hq|exact hq|exact pu hq|exact pq hq|exact sK hq);clear hq;have vW:=af (jE.out.below hw2);have PP:w2.cell? ⟨w.heap.size,0,none⟩=some (.bool s):=vW.out.cell 0;have PR:w2.cell? ⟨w.heap.size,1,none⟩=some (.string (bs l)):=vW.out.cell 1;have KG:=af (nX.out.below hw2);have anq:w2.cell? ⟨w.heap.size+1,0,none⟩=some (.bool t):=KG.out.cell 0;have anr:w2.cell? ⟨w.heap.size+1,1,none⟩=some (.string (bs m)):=KG.out.cell 1;have oW:=af (gu.out.below hw2);have OV:w2.cell? ⟨w.heap.size+1+1,0,none⟩=some (.bool false):=oW.out.cell 0;have LU:w2.frozen? ⟨w.heap.size+1+1,0,none⟩=false:=oW.out.free 0;have OW:w2.cell? ⟨w.heap.size+1+1,1,none⟩=some (.string (bs [])):=oW.out.cell 1;have LV:w2.frozen? ⟨w.heap.size+1+1,1,none⟩=false:=oW.out.free 1))
 replace Hb:=af (aH Hb.out hw1);clear hw1;replace Hb:=af (aH Hb.out hw2);clear hw2 x0 x1 y0 y1 r0 ag r1 ah;replace Hx:=vW;clear jE xJ xK PP PR;replace Hy:=KG;clear nX DC DF anq anr;replace Hr:=oW;clear gu xD wm xE wn OV LU OW LV;obtain⟨x0,x1⟩:=Hx.out.c2;obtain⟨y0,y1⟩:=Hy.out.c2;obtain⟨r0,ag,r1,ah⟩:=Hr.out.g2;rw[He.out];go_wp2;refine bodyPost_ret (v:=cn (iv s l-iv t m)) (by simp[results,Tryz.results37,go_sem,r0,r1]) rfl ⟨rfl,?_⟩;(repeat first|exact Hb.out| (refine Below.setCell ?_ (by have:=Hb.out.size;first| (dsimp only;omega) | (show _<=_;omega) | (simp<;>omega)) _) | (refine Below.alloc ?_ zt _) |refine Below.drew ?_)
theorem am7 (s:Bool)(l:List UInt8)(t:Bool)(m:List UInt8)(w:World)(hl:l.length<=34359738368)(hm:m.length<=34359738368)(hd:(nt (iv s l-iv t m).natAbs).length<=1099511627776):
 Calls Tryz.prog 67 #[.agg #[.bool s,.string (bs l)],.agg #[.bool t,.string (bs m)]] w λe w'=>e=.returned (.int .i64 (dD (iv s l-iv t m)))/\Bw w w':=by
 have Hi:=af (dI (iv s l-iv t m));go_enter Tryz.func67,Tryz.ntmps67;have Hb:Hid (Bw w w):=Below.refl _ _;go_wp2_with fail;obtain⟨R,hR⟩:∃R:World->Prop,(λW=>aj W (w.heap.size) 32 [.bool s,.string (bs l)]/\aj W (w.heap.size+1) 32 [.bool t,.string (bs m)]/\Bw w W)=R:=⟨_,rfl⟩;first|refine bQ R ?hR ?_|refine bP R ?hR ?_
 case hR=>subst hR;exact⟨((aj.newAt w _ _ (b:=w.heap.size) rfl).alloc _),(aj.newAt (w.alloc _) _ _ (b:=w.heap.size+1) zm),(zl.alloc zj _)⟩
 subst hR;rintro W ⟨qx,qy,ae⟩;have Hx:=af qx;clear qx;have Hy:=af qy;clear qy;obtain⟨x0,x1⟩:=Hx.out.c2;obtain⟨y0,y1⟩:=Hy.out.c2;replace Hb:=ak Hb ae;clear ae;go_wp2_with fail;refine(II s l t m _ hl hm).mono ?_;rintro e w1 ⟨rfl,ae⟩;clear x0 x1 y0 y1;replace Hx:=kB Hx ae;replace Hy:=kB Hy ae;obtain⟨x0,x1⟩:=Hx.out.c2;obtain⟨y0,y1⟩:=Hy.out.c2;replace Hb:=ak Hb ae;clear ae;go_wp2_with fail;refine(Dw (ai (iv s l-iv t m)) (nt (iv s l-iv t m).natAbs) _ hd).mono ?_;rintro e w2 ⟨rfl,ae⟩;clear x0 x1 y0 y1;replace Hx:=kB Hx ae;replace Hy:=kB Hy ae;obtain⟨x0,x1⟩:=Hx.out.c2;obtain⟨y0,y1⟩:=Hy.out.c2;replace Hb:=ak Hb ae;clear ae;rw[Hi.out];go_wp2;go_ret;exact⟨rfl,Hb.out⟩
theorem IH (s:Bool)(l:List UInt8)(n:Nat)(w:World)(hl:l.length<=68719476736)(hn:n<=549755813888):
 Calls Tryz.prog 38 #[.agg #[.bool s,.string (bs l)],.int .i64 (n:Int)] w λe w'=>e=.returned (cn (iv s l*2^n))/\Bw w w':=by
 have hlen:(nt (nv l*2^n)).length<=1099511627776:=by
  have h1:nv l*2^n<2^(8*l.length+n):=by rw[Nat.pow_add,Nat.pow_mul];exact Nat.mul_lt_mul_of_pos_right (eY l) (Nat.pow_pos zd)
  have h2:=fH h1;rw[ako];omega
 have He:Hid (iv s (nt (nv l*2^n))=iv s l*2^n):=by
  show _=_
  rw[lF];unfold iv;cases s<;>simp[Int.natCast_mul,Int.natCast_pow,Int.neg_mul]
 go_enter Tryz.func38,Tryz.ntmps38;have Hb:Hid (Bw w w):=Below.refl _ _;go_wp2_with fail;obtain⟨R,hR⟩:∃R:World->Prop,(λW=>aj W (w.heap.size) 32 [.bool s,.string (bs l)]/\aj W (w.heap.size+1) 32 [.bool false,.string (bs [])]/\Bw w W)=R:=⟨_,rfl⟩;first|refine bQ R ?hR ?_|refine bP R ?hR ?_
 case hR=>subst hR;exact⟨((aj.newAt w _ _ (b:=w.heap.size) rfl).alloc _),(aj.newAt (w.alloc _) _ _ (b:=w.heap.size+1) zm),(zl.alloc zj _)⟩
 subst hR;rintro W ⟨qx,qr,ae⟩;have Hx:=af qx;clear qx;have Hr:=af qr;clear qr;obtain⟨x0,x1⟩:=Hx.out.c2;obtain⟨r0,ag,r1,ah⟩:=Hr.out.g2;replace Hb:=ak Hb ae;clear ae;have Oz:w.heap.size≠w.heap.size+1:=by omega
 go_region_held3 (λw'=>w'.cell? ⟨w.heap.size,0,none⟩=some (.bool s)/\w'.cell? ⟨w.heap.size,1,none⟩=some (.string (bs l))) (((try dsimp only);go_split_ands;(repeat' apply And.intro)<;>(first|exact True.intro|with_reducible assumption| ((with_reducible refine fp zg ?_);(repeat(with_reducible refine fp zg ?_));with_reducible assumption) |exact cell_later (by with_reducible assumption) (by with_reducible assumption) |exact aJ (by with_reducible assumption) |go_keep))) (first| (go_at_call 79;(with_reducible refine(ake l n _ hl hn).mono ?_);rintro e w1 ⟨rfl,hq⟩;have hw1:Bw W w1:=(by first|exact aM hq|exact hq|exact pu hq|exact pq hq|exact sK hq);clear hq;have jE:=af (Hx.out.below hw1);have xJ:w1.cell? ⟨w.heap.size,0,none⟩=some (.bool s):=jE.out.cell 0;have xK:w1.cell? ⟨w.heap.size,1,none⟩=some (.string (bs l)):=jE.out.cell 1;have gu:=af (Hr.out.below hw1);have xD:w1.cell? ⟨w.heap.size+1,0,none⟩=some (.bool false):=gu.out.cell 0;have wm:w1.frozen? ⟨w.heap.size+1,0,none⟩=false:=gu.out.free 0;have xE:w1.cell? ⟨w.heap.size+1,1,none⟩=some (.string (bs [])):=gu.out.cell 1;have wn:w1.frozen? ⟨w.heap.size+1,1,none⟩=false:=gu.out.free 1) | (go_at_call 77;(with_reducible refine(ve (nt (nv l*2^n)) s _ hlen).mono ?_);rintro e w2 ⟨rfl,hq⟩;have hw2:Bw w1 w2:=(by first|exact aM hq|exact hq|exact pu hq|exact pq hq|exact sK hq);clear hq;have vW:=af (jE.out.below hw2);have PP:w2.cell? ⟨w.heap.size,0,none⟩=some (.bool s):=vW.out.cell 0;have PR:w2.cell? ⟨w.heap.size,1,none⟩=some (.string (bs l)):=vW.out.cell 1;have oW:=af (gu.out.below hw2);have OV:w2.cell? ⟨w.heap.size+1,0,none⟩=some (.bool false):=oW.out.cell 0;have LU:w2.frozen? ⟨w.heap.size+1,0,none⟩=false:=oW.out.free 0;have OW:w2.cell? ⟨w.heap.size+1,1,none⟩=some (.string (bs [])):=oW.out.cell 1;have LV:w2.frozen? ⟨w.heap.size+1,1,none⟩=false:=oW.out.free 1))
 replace Hb:=af (aH Hb.out hw1);clear hw1;replace Hb:=af (aH Hb.out hw2);clear hw2 x0 x1 r0 ag r1 ah;replace Hx:=vW;clear jE xJ xK PP PR;replace Hr:=oW;clear gu xD wm xE wn OV LU OW LV;obtain⟨x0,x1⟩:=Hx.out.c2;obtain⟨r0,ag,r1,ah⟩:=Hr.out.g2;rw[He.out];go_wp2;refine bodyPost_ret (v:=cn (iv s l*2^n)) (by simp[results,Tryz.results38,go_sem,r0,r1]) rfl ⟨rfl,?_⟩;(repeat first|exact Hb.out| (refine Below.setCell ?_ (by have:=Hb.out.size;first| (dsimp only;omega) | (show _<=_;omega) | (simp<;>omega)) _) | (refine Below.alloc ?_ zt _) |refine Below.drew ?_)
theorem IG (n N:Int)(hN:n=N)(w:World)(h0: -9223372036854775808<=n)(h1:n<=9223372036854775807):
 Calls Tryz.prog 36 #[.int .i64 n] w λe w'=>e=.returned (cn N)/\Bw w w':=by
 subst hN;exact PK n w h0 h1
def fY :List (Bool×List UInt8)->Int
 |[]=>1
 |x::xs=>iv x.1 x.2*fY xs
theorem aiu (xs ys:List (Bool×List UInt8)):fY (xs++ys)=fY xs*fY ys:=by
 induction xs with
 |nil=>simp[fY]
 |cons x xs ih=>simp[fY,ih,Int.mul_assoc]
theorem aix (xs:List (Bool×List UInt8))(k:Nat)(hk:k<xs.length):fY (xs.take (k+1))=fY (xs.take k) *iv xs[k].1 xs[k].2:=by rw[List.take_succ_eq_append_getElem hk,aiu];simp[fY]
def ny (xs:List (Bool×List UInt8)):Nat:=(xs.map λx=>x.2.length).sum
theorem ais (xs:List (Bool×List UInt8))(k:Nat):ny (xs.take k)<=ny xs:=by
 unfold ny;induction xs generalizing k with
 |nil=>simp
 | cons x xs ih=>cases k with
   |zero=>simp
   |succ k=>simp only[List.take_succ_cons,List.map_cons,List.sum_cons];have:=ih k;omega
theorem air (xs:List (Bool×List UInt8))(x)(h:x∈xs):x.2.length<=ny xs:=by
 unfold ny;induction xs with
 |nil=>simp at h
 | cons y xs ih=>
   simp at h⊢;rcases h with h|h
   . subst h;omega
   . have:=ih h;omega
theorem aiw (xs:List (Bool×List UInt8)):(fY xs).natAbs<=256^ny xs:=by
 induction xs with
 |nil=>simp[fY,ny]
 | cons x xs ih=>
   simp only[fY,Int.natAbs_mul,mF];have h1:=eY x.2;have:ny (x::xs)=x.2.length+ny xs:=by simp[ny]
   rw[this,Nat.pow_add];exact Nat.mul_le_mul (Nat.le_of_lt h1) ih
theorem aiv (xs:List (Bool×List UInt8))(N:Nat)(h:ny xs+1<=N):(nt (fY xs).natAbs).length<=N:=by refine iq (Nat.lt_of_le_of_lt (aiw xs) ?_);exact Nat.pow_lt_pow_right zd zo
theorem ana (xs:List (Bool×List UInt8))(a:Option Addr)(cap:Nat)(w:World)(hl:ny xs<=34359738368)(hx:xs.length<=1048576)
 (ha:At w a (xs.flatMap GD)):
 Calls Tryz.prog 88 #[.slice a xs.length cap] w λe w'=>e=.returned (cn (fY xs))/\Bw w w':=by
 have Hl:=af hl;clear hl;have Ha:=af ha;clear ha;have Ac:Hid (∀k,(nt (fY (xs.take k)).natAbs).length<=68719476736):=λk=>aiv _ _ (by have:=ais xs k;have:=Hl.out;omega);obtain⟨one,hone⟩:∃one:Int,1=one:=⟨_,rfl⟩;have AL:=af hone;clear hone;go_enter Tryz.func88,Tryz.ntmps88;have Hb:Hid (Bw w w):=Below.refl _ _;go_wp2_with fail;obtain⟨R,hR⟩:∃R:World->Prop,(λW=>aj W (w.heap.size) 32 [.bool false,.string (bs [])]/\Bw w W)=R:=⟨_,rfl⟩;first|refine bQ R ?hR ?_|refine bP R ?hR ?_
 case hR=>subst hR;exact⟨(aj.newAt w _ _ (b:=w.heap.size) rfl),zl⟩
 subst hR;rintro W ⟨qr,ae⟩;have Hr:=af qr;clear qr;obtain⟨r0,ag,r1,ah⟩:=Hr.out.g2;replace Hb:=ak Hb ae;clear ae;go_wp2_with fail;refine(IG 1 one AL.out _ zo zo).mono ?_;rintro e w1 ⟨rfl,ae⟩;clear r0 ag r1 ah;replace Hr:=kB Hr ae;obtain⟨r0,ag,r1,ah⟩:=Hr.out.g2;replace Hb:=ak Hb ae;clear ae;go_wp2_with fail;refine(IJ (nt one.natAbs) (ai one) _).mono ?_;rintro e w2 ⟨rfl,ae⟩;clear r0 ag r1 ah;replace Hr:=kB Hr ae;obtain⟨r0,ag,r1,ah⟩:=Hr.out.g2;replace Hb:=ak Hb ae;clear ae;have apa:w.heap.size<w2.heap.size:=Hr.out.lt;have oH:=Hr.out.lt;go_wp2_with fail;obtain⟨R,hR⟩:∃R:World->Prop,(λW2=>aj W2 (w2.heap.size) 112 [.string (bs (nt one.natAbs)),.bool (ai one)]/\Bw w2 W2)=R:=⟨_,rfl⟩;first|refine bQ R ?hR ?_|refine bP R ?hR ?_
 case hR=>subst hR;exact⟨(aj.newAt w2 _ _ (b:=w2.heap.size) rfl),zl⟩
 subst hR;rintro W2 ⟨qs,ae⟩;have Hs:=af qs;clear qs r0 ag r1 ah;replace Hr:=kB Hr ae;obtain⟨r0,ag,r1,ah⟩:=Hr.out.g2;obtain⟨s0,aW,s1,aX⟩:=Hs.out.g2;replace Hb:=ak Hb ae;clear ae
 go_loopw[5,10] (λ_ i wr=>∃(k:Nat) (t:Bool),k<=xs.length/\i=.int .i64 k/\iv t (nt (fY (xs.take k)).natAbs)=fY (xs.take k)/\aj wr w.heap.size 32 [.bool false,.string (bs [])]/\
  aj wr w2.heap.size 112 [.string (bs (nt (fY (xs.take k)).natAbs)),.bool t]/\Bw w wr) (λ_ i _=>xs.length-(intOf i).toNat)
 case atStart=>
  have e:fY (xs.take 0)=one:=by rw[<-AL.out];simp[fY]
  refine⟨0,ai one,Nat.zero_le _,rfl,?_,Hr.out,?_,Hb.out⟩
  . rw[e];exact dI one
  . rw[e];exact Hs.out
 case round=>
  obtain⟨k,t,hk,rfl,rL,qr,qs,hb⟩:=hrel;replace Hr:=af qr;replace Hs:=af qs;replace Hb:=af hb;have lS:=af rL;clear qr qs hb rL r0 r1 ag ah s0 s1 aW aX;by_cases hlt:k<xs.length
  . obtain⟨b,o,hab,hcs⟩:=(Ha.out.below Hb.out).elem (f:=GD) (sz:=2) (λ_=>rfl) zd k hlt;have hc0:wr.cell? ⟨b,o+k*2,none⟩=some (.bool xs[k].1):=hcs 0 zd;have hc1:wr.cell? ⟨b,o+k*2+1,none⟩=some (.string (bs xs[k].2)):=hcs 1 zd;have bB:=tC xs.length cap k (k:Int) hab hlt rfl;have bX:=af (aix xs k hlt);have jD:Hid (xs[k].2.length<=34359738368):=by have:=air xs _ (List.getElem_mem hlt);have:=Hl.out;show _<=_;omega
    have jq:=af (Ac.out k);clear hcs hab;generalize xs[k]=x at*;obtain⟨t1,l1⟩:=x;generalize hS:fY (xs.take k)=S at*;have HS:=af hS;clear hS;obtain⟨r0,ag,r1,ah⟩:=Hr.out.g2;obtain⟨s0,aW,s1,aX⟩:=Hs.out.g2;have CU:=Hr.out.lt;have Ot:=Hs.out.lt;go_wp2_with fail;obtain⟨R,hR⟩:∃R:World->Prop,(λW1=>aj W1 (wr.heap.size) 32 [.bool t1,.string (bs l1)]/\Bw wr W1)=R:=⟨_,rfl⟩;first|refine bQ R ?hR ?_|refine bP R ?hR ?_
    case hR=>subst hR;exact⟨(aj.newAt wr _ _ (b:=wr.heap.size) rfl),zl⟩
    subst hR;rintro W1 ⟨qa,ae⟩;have Ha:=af qa;clear qa r0 ag r1 ah;replace Hr:=kB Hr ae;obtain⟨r0,ag,r1,ah⟩:=Hr.out.g2;clear s0 aW s1 aX;replace Hs:=kB Hs ae;obtain⟨s0,aW,s1,aX⟩:=Hs.out.g2;obtain⟨a0,a1⟩:=Ha.out.c2;replace Hb:=ak Hb ae;clear ae;go_region_with (first| (go_at_call 114;refine(IJ l1 t1 _).mono ?_;rintro e w3 ⟨rfl,hq⟩;have hw3:Bw W1 w3:=aM hq;clear hq;have Pe:=cell_later hw3 s0;have Pg:=cell_later hw3 s1;have agP:=(Hs.out.below hw3).free 0;have agR:=(Hs.out.below hw3).free 1) | (go_at_call 136;refine(amK (nt S.natAbs) l1 t t1 _ jq.out (by have:=jD.out;omega)).mono ?_;rintro e w4 ⟨rfl,hw4⟩;have alT:=cell_later hw4 Pe;have alW:=cell_later hw4 Pg;have agQ:=((Hs.out.below hw3).below hw4).free 0;have agS:=((Hs.out.below hw3).below hw4).free 1))
    all_goals
     go_wp2
     go_roundw
     case rel=>
      have hq:=aiC t (nt S.natAbs) t1 l1;rw[lS.out,<-bX.out]at hq;have hq2:nv (nt S.natAbs) *nv l1=(fY (xs.take (k+1))).natAbs:=by rw[bX.out,Int.natAbs_mul,mF,ir]
      rw[hq2]at hq⊢;refine⟨k+1,_,by omega,by go_num,hq,((((Hr.out.below hw3).below hw4).arB ⟨w2.heap.size,0,none⟩ zp _).arB ⟨w2.heap.size,1,none⟩ zp _),((((Hs.out.below hw3).below hw4).set 0 _).set 1 _),?_⟩;exact((aH (aH Hb.out hw3) hw4).setCell zp _).setCell zp _
     case measure=>simp[intOf];omega
  . obtain rfl:k=xs.length:=by omega
    rw[List.take_length]at Hs lS;have jq:=Ac.out xs.length;rw[List.take_length]at jq;obtain⟨r0,ag,r1,ah⟩:=Hr.out.g2;obtain⟨s0,aW,s1,aX⟩:=Hs.out.g2;go_wp2_with fail;refine(ve (nt (fY xs).natAbs) t _ zo).mono ?_;rintro e w3 ⟨rfl,ae⟩;clear r0 ag r1 ah s0 aW s1 aX;replace Hr:=kB Hr ae;replace Hs:=kB Hs ae;obtain⟨r0,ag,r1,ah⟩:=Hr.out.g2;obtain⟨s0,aW,s1,aX⟩:=Hs.out.g2;replace Hb:=ak Hb ae;clear ae;rw[lS.out];go_wp2;refine bodyPost_ret (v:=cn (fY xs)) (by simp[results,Tryz.results88,go_sem,r0,r1]) rfl ⟨rfl,?_⟩;(repeat first|exact Hb.out| (refine Below.setCell ?_ (by have:=Hb.out.size;first| (dsimp only;omega) | (show _<=_;omega) | (simp<;>omega)) _) | (refine Below.alloc ?_ zt _) |refine Below.drew ?_)
theorem ZL (v:Nat)(h:0<v):∃m,v=2^tz v* (2*m+1):=by
 induction v using Nat.strongRecOn with
 | _ v ih=>
   by_cases he:v%2=0
   . obtain⟨u,rfl⟩:∃u,v=2*u:=⟨v/2,by omega⟩;obtain⟨m,hm⟩:=ih u zo zo;refine⟨m,?_⟩;have e:tz (2*u)=tz u+1:=by unfold tz;rw[show((2*u:Nat):Int)=2* (u:Int)by omega];exact Int.trailingZeros_two_mul zo
     rw[e,Nat.pow_succ];conv=>lhs;rw[hm]
     rw[Nat.mul_comm (2^tz u) 2,Nat.mul_assoc]
   . refine⟨v/2,?_⟩;have e:tz v=0:=by unfold tz;exact Int.trailingZeros_eq_zero_of_mod_eq zo
     rw[e];omega
theorem ZJ (v k:Nat)(h:0<v):tz v<k↔v%2^k≠0:=by
 obtain⟨m,hm⟩:=ZL v h;generalize tz v=c at*;constructor
 . intro hc h0;have hd:2^k∣v:=Nat.dvd_of_mod_eq_zero h0;have hd2:2^(c+1)∣v:=Nat.dvd_trans (Nat.pow_dvd_pow 2 hc) hd;rw[hm,Nat.pow_succ]at hd2;have:=Nat.dvd_of_mul_dvd_mul_left (Nat.pow_pos zd) hd2;omega
 . intro hne;rcases Nat.lt_or_ge c k with h1|h1
   . exact h1
   . exfalso;apply hne
     rw[hm];exact Nat.mod_eq_zero_of_dvd (Nat.dvd_trans (Nat.pow_dvd_pow 2 h1) (Nat.dvd_mul_right _ _))
theorem akg (v k:Nat)(h:v%2^k=0): -(v:Int)/2^k= -((v/2^k:Nat):Int):=by
 obtain⟨q,rfl⟩:=Nat.dvd_of_mod_eq_zero h;have hp:=Nat.pow_pos (n:=k) (show 0<2 by decide);rw[Nat.mul_div_cancel_left _ hp];have e: -((2^k*q:Nat):Int)=2^k* (-(q:Int)):=by simp[Int.natCast_mul,Int.natCast_pow,Int.mul_neg]
 rw[e,Int.mul_ediv_cancel_left];have:((2^k:Nat):Int)≠0:=by omega
 simpa[Int.natCast_pow]using this
theorem akh (v k:Nat)(h:v%2^k≠0): -(v:Int)/2^k= -((v/2^k:Nat):Int)-1:=by
 have hp:=Nat.pow_pos (n:=k) (show 0<2 by decide);have e:=(Nat.mod_add_div v (2^k)).symm;have hr:=Nat.mod_lt v hp;rw[show((2:Int)^k)=((2^k:Nat):Int)by simp[Int.natCast_pow]];generalize v%2^k=r at*;generalize v/2^k=q at*;generalize 2^k=p at*;subst e;have e2: -((r+p*q:Nat):Int)=((p:Int)-r)+p* (-(q:Int)-1):=by rw[Int.natCast_add,Int.natCast_mul,Int.mul_sub,Int.mul_neg,Int.mul_one];omega
 rw[e2,Int.add_mul_ediv_left _ _ zo,Int.ediv_eq_zero_of_lt zo zo];omega
theorem akn (l:List UInt8)(k B:Nat)(hl:l.length<=B):(nt (nv l/2^k)).length<=B:=iq (Nat.lt_of_le_of_lt (Nat.div_le_self _ _) (Nat.lt_of_lt_of_le (eY l) (Nat.pow_le_pow_right zd hl)))
theorem aaa (s:Bool)(l:List UInt8)(k:Nat)(w:World)(hl:l.length<=34359738368)(hk:0<k)(hk2:k<=1099511627776)(hT:az w):
 Calls Tryz.prog 38 #[.agg #[.bool s,.string (bs l)],.int .i64 (-(k:Int))] w λe w'=>e=.returned (cn (iv s l/2^k))/\Bw w w':=by
 have hmax:max (-(k:Int)) (-1099511627776)= -(k:Int):=by omega
 have hlen:(nt (nv l/2^k)).length<=34359738368:=akn l k _ hl;obtain⟨Z,hZ⟩:=aB (nv l/2^k);have Gt:∀W,Calls Tryz.prog 80 #[.string (bs l),.int .i64 (k:Int)] W λe w'=>e=.returned (.string (bs (nt Z)))/\Bw W w':=λW=>by rw[<-hZ];exact akf l k W zo hk2
 rw[hZ]at hlen;have HZ:=af hZ;clear hZ;have acS:=af Gt;clear Gt;obtain⟨M,hM⟩:=aB (iv s (nt Z));have HM:=af hM;clear hM;have VK:∀W,Calls Tryz.prog 77 #[.agg #[.string (bs (nt Z)),.bool s]] W λe w'=>e=.returned (cn M)/\Bw W w':=λW=>by have:=ve (nt Z) s W zo;rw[HM.out]at this;exact this
 have acb:=af VK;clear VK;go_enter Tryz.func38,Tryz.ntmps38;have Hb:Hid (Bw w w):=Below.refl _ _;go_upto_region 4 with fail
 go_wp2_with fail;obtain⟨R,hR⟩:∃R:World->Prop,(λW=>aj W (w.heap.size) 32 [.bool s,.string (bs l)]/\aj W (w.heap.size+1) 32 [.bool false,.string (bs [])]/\Bw w W)=R:=⟨_,rfl⟩;first|refine bQ R ?hR ?_|refine bP R ?hR ?_
 case hR=>subst hR;exact⟨((aj.newAt w _ _ (b:=w.heap.size) rfl).alloc _),(aj.newAt (w.alloc _) _ _ (b:=w.heap.size+1) zm),(zl.alloc zj _)⟩
 subst hR;rintro W ⟨qx,qr,ae⟩;have Hx:=af qx;clear qx;have Hr:=af qr;clear qr;obtain⟨x0,x1⟩:=Hx.out.c2;obtain⟨r0,ag,r1,ah⟩:=Hr.out.g2;replace Hb:=ak Hb ae;clear ae;go_cut[5] (λs5 wx=>∃g:Nat,s5=.pointer (some ⟨g,0,none⟩)/\w.heap.size+1<g/\aj wx w.heap.size 32 [.bool s,.string (bs l)]/\aj wx (w.heap.size+1) 32 [.bool false,.string (bs [])]/\aj wx g 32 [.bool (ai M),.string (bs (nt M.natAbs))]/\Bw w wx);case first=>
  have hxW:w.heap.size<W.heap.size:=Hx.out.lt;have hrW:w.heap.size+1<W.heap.size:=Hr.out.lt;have hwk:IntKind.i64.wrap (k:Int)=(k:Int):=by rw[IntKind.wrap_i64];omega
  go_region_held3 (λw'=>w'.cell? ⟨w.heap.size,0,none⟩=some (.bool s)/\w'.cell? ⟨w.heap.size,1,none⟩=some (.string (bs l))) (((try dsimp only);go_split_ands;(repeat' apply And.intro)<;>(first|with_reducible assumption|exact aJ (by with_reducible assumption) |exact Ld (by with_reducible assumption) |exact Ld (aJ (by with_reducible assumption)) | ((with_reducible refine fp zf ?_);(repeat(with_reducible refine fp zf ?_));first|with_reducible assumption|exact aJ (by with_reducible assumption) |exact Ld (by with_reducible assumption)) |go_keep))) (first| (go_at_call 80;(with_reducible refine(acS.out _).mono ?_);rintro e w1 ⟨rfl,hq⟩;(first| (have hw1:Bw W w1:=aM hq) | (have hw1:Bw W w1:=sK hq;have AH:=af (aj.below (aj.drew (aj.new W 32 [.bool false,.string (bs [])])) hq);have aqM:w1.cell? ⟨W.heap.size,0,none⟩=some (.bool false):=AH.out.cell 0;have aqN:w1.cell? ⟨W.heap.size,1,none⟩=some (.string (bs [])):=AH.out.cell 1;have an3:=AH.out.free 0;have an4:=AH.out.free 1));clear hq;have zs1:=hw1.size;obtain⟨KF,acM⟩:=aI (Hx.out.below hw1) (Hr.out.below hw1);have aq0:w1.cell? ⟨w.heap.size,0,none⟩=some (.bool s):=KF.out.cell 0;have aq8:w1.cell? ⟨w.heap.size,1,none⟩=some (.string (bs l)):=KF.out.cell 1) | (go_at_call 77;(with_reducible refine(acb.out _).mono ?_);rintro e w2 ⟨rfl,hq⟩;(first| (have hw2:Bw w1 w2:=hq;(try(have oU:=af (aj.below AH.out hq);have aj1:w2.cell? ⟨W.heap.size,0,none⟩=some (.bool false):=oU.out.cell 0;have aj4:w2.cell? ⟨W.heap.size,1,none⟩=some (.string (bs [])):=oU.out.cell 1;have agE:=oU.out.free 0;have agF:=oU.out.free 1))) | (have hw2:Bw w1 w2:=pq hq;have oU:=af (aj.below (aj.new w1 32 [.bool false,.string (bs [])]) hq);have aj1:w2.cell? ⟨w1.heap.size,0,none⟩=some (.bool false):=oU.out.cell 0;have aj4:w2.cell? ⟨w1.heap.size,1,none⟩=some (.string (bs [])):=oU.out.cell 1;have agE:=oU.out.free 0;have agF:=oU.out.free 1));clear hq;have zs2:=hw2.size;obtain⟨AY,Kp⟩:=aI (KF.out.below hw2) (acM.out.below hw2);have aq1:w2.cell? ⟨w.heap.size,0,none⟩=some (.bool s):=AY.out.cell 0;have aq9:w2.cell? ⟨w.heap.size,1,none⟩=some (.string (bs l)):=AY.out.cell 1))
  all_goals(go_wp2_with fail;go_meet)
  . exact⟨w2.heap.size,rfl,by omega,AY.out.alloc _,Kp.out.alloc _,aj.new _ _ _,(aH (aH Hb.out hw1) hw2).alloc zo _⟩
  . exact⟨w1.heap.size,rfl,by omega,((AY.out.arB ⟨w1.heap.size,0,none⟩ (by first| (dsimp only;omega) |omega| (simp<;>omega)) _).arB ⟨w1.heap.size,1,none⟩ (by first| (dsimp only;omega) |omega| (simp<;>omega)) _),((Kp.out.arB ⟨w1.heap.size,0,none⟩ (by first| (dsimp only;omega) |omega| (simp<;>omega)) _).arB ⟨w1.heap.size,1,none⟩ (by first| (dsimp only;omega) |omega| (simp<;>omega)) _),((oU.out.set 0 _).set 1 _),((aH (aH Hb.out hw1) hw2).setCell (by first| (dsimp only;omega) |omega| (simp<;>omega)) _).setCell (by first| (dsimp only;omega) |omega| (simp<;>omega)) _⟩
  . exact⟨W.heap.size,rfl,hrW,((AY.out.arB ⟨W.heap.size,0,none⟩ (by first| (dsimp only;omega) |omega| (simp<;>omega)) _).arB ⟨W.heap.size,1,none⟩ (by first| (dsimp only;omega) |omega| (simp<;>omega)) _),((Kp.out.arB ⟨W.heap.size,0,none⟩ (by first| (dsimp only;omega) |omega| (simp<;>omega)) _).arB ⟨W.heap.size,1,none⟩ (by first| (dsimp only;omega) |omega| (simp<;>omega)) _),((oU.out.set 0 _).set 1 _),((aH (aH Hb.out hw1) hw2).setCell (by first| (dsimp only;omega) |omega| (simp<;>omega)) _).setCell (by first| (dsimp only;omega) |omega| (simp<;>omega)) _⟩
 case rest=>
  obtain⟨g,rfl,hg,qx,qr,qn,qb⟩:=hcut;replace Hx:=af qx;replace Hr:=af qr;have Hn:=af qn;replace Hb:=af qb;clear qx qr qn qb x0 x1 r0 r1 ag ah;cases s
  . obtain ⟨x0,x1⟩:=Hx.out.c2;obtain⟨r0,ag,r1,ah⟩:=Hr.out.g2;obtain⟨n0,n1⟩:=Hn.out.c2;have fC:Hid (iv false l/2^k=M):=by
     show _=_
     rw[<-HM.out,<-HZ.out,lF];unfold iv;simp[Int.natCast_pow]
    go_wp2;refine bodyPost_ret (v:=cn M) (by simp[results,Tryz.results38,go_sem,r0,r1]) rfl ⟨by rw[fC.out],?_⟩;(repeat first|exact Hb.out| (refine Below.setCell ?_ (by have:=Hb.out.size;first| (dsimp only;omega) | (show _<=_;omega) | (simp<;>omega)) _) | (refine Below.alloc ?_ zt _) |refine Below.drew ?_)
  . obtain⟨x0,x1⟩:=Hx.out.c2;obtain⟨r0,ag,r1,ah⟩:=Hr.out.g2;obtain⟨n0,n1⟩:=Hn.out.c2;have nS:Hid (l.length<=68719476736):=by show _<=_;omega
    by_cases h0:nv l=0
    . have hb0:bA (nv l)=0:=by rw[h0];rfl
      have fC:Hid (iv true l/2^k=M):=by
       show _=_
       rw[<-HM.out,<-HZ.out,lF,h0];unfold iv;simp[h0]
      have iH:=af hb0;clear hb0;go_wp2_with fail;refine(Ox l _ nS.out).mono ?_;rintro e w3 ⟨rfl,ae⟩;clear x0 x1 r0 ag r1 ah n0 n1;replace Hx:=kB Hx ae;replace Hr:=kB Hr ae;replace Hn:=kB Hn ae;obtain⟨x0,x1⟩:=Hx.out.c2;obtain⟨r0,ag,r1,ah⟩:=Hr.out.g2;obtain⟨n0,n1⟩:=Hn.out.c2;replace Hb:=ak Hb ae;clear ae;rw[iH.out];go_wp2;refine bodyPost_ret (v:=cn M) (by simp[results,Tryz.results38,go_sem,r0,r1]) rfl ⟨by rw[fC.out],?_⟩;(repeat first|exact Hb.out| (refine Below.setCell ?_ (by have:=Hb.out.size;first| (dsimp only;omega) | (show _<=_;omega) | (simp<;>omega)) _) | (refine Below.alloc ?_ zt _) |refine Below.drew ?_)
    . have hbp:0<bA (nv l):=Bj zo;have Ag:Hid (az wc):=hT.below Hb.out;by_cases hz:tz (nv l)<k
      . have fC:Hid (iv true l/2^k=M-1):=by
         show _=_
         rw[<-HM.out,<-HZ.out,lF];have:=(ZJ (nv l) k zo).1 hz;unfold iv;simp only[if_true];exact akh _ _ this
        have HMl:Hid ((nt M.natAbs).length<=34359738368):=by show _<=_;rw[<-HM.out,mF,ir];exact hlen
        obtain⟨one,hone⟩:∃one:Int,1=one:=⟨_,rfl⟩;have Hol:Hid ((nt one.natAbs).length<=34359738368):=by show _<=_;rw[<-hone];exact Nat.le_trans (iq (k:=1) zd) zd
        have AL:=af hone;clear hone;have acY:Hid (iv (ai M) (nt M.natAbs)-iv (ai one) (nt one.natAbs)=M-1):=by show _=_;rw[dI,dI,<-AL.out]
        go_wp2_with fail;refine(Ox l _ nS.out).mono ?_;rintro e w3 ⟨rfl,ae⟩;clear x0 x1 r0 ag r1 ah n0 n1;replace Hx:=kB Hx ae;replace Hr:=kB Hr ae;replace Hn:=kB Hn ae;obtain⟨x0,x1⟩:=Hx.out.c2;obtain⟨r0,ag,r1,ah⟩:=Hr.out.g2;obtain⟨n0,n1⟩:=Hn.out.c2;replace Hb:=ak Hb ae;clear ae;replace Ag:=af (hT.below Hb.out);go_wp2_with fail;refine(Oy l _ nS.out Ag.out).mono ?_;rintro e w4 ⟨rfl,ae⟩;clear x0 x1 r0 ag r1 ah n0 n1;replace Hx:=kB Hx ae;replace Hr:=kB Hr ae;replace Hn:=kB Hn ae;obtain⟨x0,x1⟩:=Hx.out.c2;obtain⟨r0,ag,r1,ah⟩:=Hr.out.g2;obtain⟨n0,n1⟩:=Hn.out.c2;replace Hb:=ak Hb ae;clear ae;go_wp2_with fail;have nen:g≠w.heap.size+1:=by omega
        go_region_held3 (λw'=>w'.cell? ⟨g,0,none⟩=some (.bool (ai M))/\w'.cell? ⟨g,1,none⟩=some (.string (bs (nt M.natAbs)))) (((try dsimp only);go_split_ands;(repeat' apply And.intro)<;>(first|exact True.intro|with_reducible assumption| ((with_reducible refine fp zg ?_);(repeat(with_reducible refine fp zg ?_));with_reducible assumption) |exact cell_later (by with_reducible assumption) (by with_reducible assumption) |exact aJ (by with_reducible assumption) |go_keep))) (first| (go_at_call 36;(with_reducible refine(IG 1 one AL.out _ zo zo).mono ?_);rintro e w5 ⟨rfl,hq⟩;have cH:Bw w4 w5:=(by first|exact aM hq|exact hq|exact pu hq|exact pq hq|exact sK hq);clear hq;obtain⟨RO,yc⟩:=aI (Hx.out.below cH) (Hr.out.below cH);have ale:w5.cell? ⟨w.heap.size+1,0,none⟩=some (.bool false):=yc.out.cell 0;have agL:w5.frozen? ⟨w.heap.size+1,0,none⟩=false:=yc.out.free 0;have alk:w5.cell? ⟨w.heap.size+1,1,none⟩=some (.string (bs [])):=yc.out.cell 1;have agN:w5.frozen? ⟨w.heap.size+1,1,none⟩=false:=yc.out.free 1;have Ei:=af (Hn.out.below cH);have aj2:w5.cell? ⟨g,0,none⟩=some (.bool (ai M)):=Ei.out.cell 0;have aj5:w5.cell? ⟨g,1,none⟩=some (.string (bs (nt M.natAbs))):=Ei.out.cell 1) | (go_at_call 37;(with_reducible refine(II (ai M) (nt M.natAbs) (ai one) (nt one.natAbs) _ HMl.out Hol.out).mono ?_);rintro e w6 ⟨rfl,hq⟩;have CL:Bw w5 w6:=(by first|exact aM hq|exact hq|exact pu hq|exact pq hq|exact sK hq);clear hq;obtain⟨adn,AQ⟩:=aI (RO.out.below CL) (yc.out.below CL);have alf:w6.cell? ⟨w.heap.size+1,0,none⟩=some (.bool false):=AQ.out.cell 0;have agM:w6.frozen? ⟨w.heap.size+1,0,none⟩=false:=AQ.out.free 0;have alm:w6.cell? ⟨w.heap.size+1,1,none⟩=some (.string (bs [])):=AQ.out.cell 1;have agO:w6.frozen? ⟨w.heap.size+1,1,none⟩=false:=AQ.out.free 1;have Kh:=af (Ei.out.below CL);have aj3:w6.cell? ⟨g,0,none⟩=some (.bool (ai M)):=Kh.out.cell 0;have aj6:w6.cell? ⟨g,1,none⟩=some (.string (bs (nt M.natAbs))):=Kh.out.cell 1))
        replace Hb:=af (aH Hb.out cH);clear cH;replace Hb:=af (aH Hb.out CL);clear CL x0 x1 r0 ag r1 ah n0 n1;replace Hx:=adn;clear RO;replace Hr:=AQ;clear yc ale agL alk agN alf agM alm agO;replace Hn:=Kh;clear Ei aj2 aj5 aj3 aj6;obtain⟨x0,x1⟩:=Hx.out.c2;obtain⟨r0,ag,r1,ah⟩:=Hr.out.g2;obtain⟨n0,n1⟩:=Hn.out.c2;rw[acY.out];go_wp2;refine bodyPost_ret (v:=cn (M-1)) (by simp[results,Tryz.results38,go_sem,r0,r1]) rfl ⟨by rw[fC.out],?_⟩;(repeat first|exact Hb.out| (refine Below.setCell ?_ (by have:=Hb.out.size;first| (dsimp only;omega) | (show _<=_;omega) | (simp<;>omega)) _) | (refine Below.alloc ?_ zt _) |refine Below.drew ?_)
      . have fC:Hid (iv true l/2^k=M):=by
         show _=_
         rw[<-HM.out,<-HZ.out,lF];have h2:nv l%2^k=0:=by
          rcases Nat.eq_zero_or_pos (nv l%2^k)with h|h
          . exact h
          . exact absurd ((ZJ (nv l) k zo).2 zo) hz
         unfold iv;simp only[if_true];exact akg _ _ h2
        go_wp2_with fail;refine(Ox l _ nS.out).mono ?_;rintro e w3 ⟨rfl,ae⟩;clear x0 x1 r0 ag r1 ah n0 n1;replace Hx:=kB Hx ae;replace Hr:=kB Hr ae;replace Hn:=kB Hn ae;obtain⟨x0,x1⟩:=Hx.out.c2;obtain⟨r0,ag,r1,ah⟩:=Hr.out.g2;obtain⟨n0,n1⟩:=Hn.out.c2;replace Hb:=ak Hb ae;clear ae;replace Ag:=af (hT.below Hb.out);go_wp2_with fail;refine(Oy l _ nS.out Ag.out).mono ?_;rintro e w4 ⟨rfl,ae⟩;clear x0 x1 r0 ag r1 ah n0 n1;replace Hx:=kB Hx ae;replace Hr:=kB Hr ae;replace Hn:=kB Hn ae;obtain⟨x0,x1⟩:=Hx.out.c2;obtain⟨r0,ag,r1,ah⟩:=Hr.out.g2;obtain⟨n0,n1⟩:=Hn.out.c2;replace Hb:=ak Hb ae;clear ae;go_wp2;refine bodyPost_ret (v:=cn M) (by simp[results,Tryz.results38,go_sem,r0,r1]) rfl ⟨by rw[fC.out],?_⟩;(repeat first|exact Hb.out| (refine Below.setCell ?_ (by have:=Hb.out.size;first| (dsimp only;omega) | (show _<=_;omega) | (simp<;>omega)) _) | (refine Below.alloc ?_ zt _) |refine Below.drew ?_)
end Go.Proofs.YtoopepmmepmfnaaGreatDoor
