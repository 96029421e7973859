/- Package whole,on: Sub,Cmp,Mul,Shift. -/
import Derived.Test.YtdaadlblknpipaaGreatDoorZ6
import Derived.Deep.DeepCutAuto
set_option linter.unusedVariables false
set_option linter.unusedSimpArgs false
set_option maxRecDepth 100000
set_option maxHeartbeats 16000000
namespace Go.Proofs.YtdaadlblknpipaaGreatDoor
open Go.RowKit
attribute [local go_sem ↓] Go.wp_at_zero Go.wp_at_succ
theorem YU (s:Bool)(l:List UInt8)(t:Bool)(m:List UInt8)(b cap:Nat)(ty:TypeId)(w:World)(hl:l.length<=34359738368)(hm:m.length<=34359738368)
 (ha:ak w b ty [.bool s,.string (bs l),.bool t,.string (bs m)]):
 Calls Tryz.prog 76 #[.slice (some ⟨b,0,none⟩) 2 cap] w λe w'=>e=.returned (cX (iv s l+iv t m))/\Bw w w':=by
 have:=alG [(s,l),(t,m)] (some ⟨b,0,none⟩) cap w (by simp[hl,hm]) zm (At.apk ha);have e:kU [(s,l),(t,m)]=iv s l+iv t m:=by simp[kU]
 rw[e]at this;exact this
theorem Eb (s:Bool)(m:List UInt8)(B:Nat)(hm:m.length<=B):(nt (-(iv s m)).natAbs).length<=B:=by rw[Int.natAbs_neg,nE];exact jc (Nat.lt_of_lt_of_le (gb m) (Nat.pow_le_pow_right zd hm))
theorem IW (s:Bool)(l:List UInt8)(N:Int)(hN: -(iv s l)=N)(w:World)(hl:l.length<=1099511627776):
 Calls Tryz.prog 107 #[.agg #[.bool s,.string (bs l)]] w λe w'=>e=.returned (cX N)/\Bw w w':=by
 subst hN;exact YY s l w hl
theorem PM (s:Bool)(l:List UInt8)(t:Bool)(m:List UInt8)(w:World)(hl:l.length<=34359738368)(hm:m.length<=34359738368):
 Calls Tryz.prog 109 #[.agg #[.bool s,.string (bs l)],.agg #[.bool t,.string (bs m)]] w λe w'=>e=.returned (cX (iv s l-iv t m))/\Bw w w':=by
 have hm2:=Eb t m 34359738368 hm;have He:Hid (iv s l+iv (ar (-(iv t m))) (nt (-(iv t m)).natAbs)=iv s l-iv t m):=by show _=_;rw[fq];omega
 generalize hN: -(iv t m)=N at*;have HN:=ah hN;clear hN;go_enter Tryz.func109,Tryz.ntmps109;have Hb:Hid (Bw w w):=Below.refl _ _;go_wp2_with fail;obtain⟨R,hR⟩:∃R:World->Prop,(λW=>ak W (w.heap.size) 28 [.bool s,.string (bs l)]/\ak W (w.heap.size+1) 28 [.bool t,.string (bs m)]/\ak W (w.heap.size+1+1) 28 [.bool false,.string (bs [])]/\Bw w W)=R:=⟨_,rfl⟩;first|refine bO R ?hR ?_|refine bK R ?hR ?_
 case hR=>subst hR;exact⟨(((ak.newAt w _ _ (b:=w.heap.size) rfl).alloc _).alloc _),((ak.newAt (w.alloc _) _ _ (b:=w.heap.size+1) zm).alloc _),(ak.newAt ((w.alloc _).alloc _) _ _ (b:=w.heap.size+1+1) zm),((zl.alloc zj _).alloc zj _)⟩
 subst hR;rintro W ⟨qx,qy,qr,ae⟩;have Hx:=ah qx;clear qx;have Hy:=ah qy;clear qy;have Hr:=ah qr;clear qr;obtain⟨x0,x1⟩:=Hx.out.c2;obtain⟨y0,y1⟩:=Hy.out.c2;obtain⟨r0,ai,r1,aj⟩:=Hr.out.g2;replace Hb:=au Hb ae;clear ae;have Od:w.heap.size≠w.heap.size+1+1:=by omega
 have Xt:w.heap.size+1≠w.heap.size+1+1:=by omega
 go_region_held3 (λw'=>w'.cell? ⟨w.heap.size,0,none⟩=some (.bool s)/\w'.cell? ⟨w.heap.size,1,none⟩=some (.string (bs l))/\w'.cell? ⟨w.heap.size+1,0,none⟩=some (.bool t)/\w'.cell? ⟨w.heap.size+1,1,none⟩=some (.string (bs m))) (((try dsimp only);go_split_ands;(repeat' apply And.intro)<;>(first|exact True.intro|with_reducible assumption| ((with_reducible refine fC zg ?_);(repeat(with_reducible refine fC zg ?_));with_reducible assumption) |exact cell_later (by with_reducible assumption) (by with_reducible assumption) |exact aG (by with_reducible assumption) |go_keep))) (first| (go_at_call 107;(with_reducible refine(IW t m N HN.out _ zo).mono ?_);rintro e w1 ⟨rfl,hq⟩;have hw1:Bw W w1:=(by first|exact aM hq|exact hq|exact pj hq|exact qw hq|exact tJ hq);clear hq;have kE:=ah (Hx.out.below hw1);have yC:w1.cell? ⟨w.heap.size,0,none⟩=some (.bool s):=kE.out.cell 0;have yD:w1.cell? ⟨w.heap.size,1,none⟩=some (.string (bs l)):=kE.out.cell 1;have oZ:=ah (Hy.out.below hw1);have EF:w1.cell? ⟨w.heap.size+1,0,none⟩=some (.bool t):=oZ.out.cell 0;have EG:w1.cell? ⟨w.heap.size+1,1,none⟩=some (.string (bs m)):=oZ.out.cell 1;have ig:=ah (Hr.out.below hw1);have yo:w1.cell? ⟨w.heap.size+1+1,0,none⟩=some (.bool false):=ig.out.cell 0;have xq:w1.frozen? ⟨w.heap.size+1+1,0,none⟩=false:=ig.out.free 0;have yq:w1.cell? ⟨w.heap.size+1+1,1,none⟩=some (.string (bs [])):=ig.out.cell 1;have xt:w1.frozen? ⟨w.heap.size+1+1,1,none⟩=false:=ig.out.free 1) | (go_at_call 76;(with_reducible refine(YU s l (ar N) (nt N.natAbs) w1.heap.size 2 28 _ hl hm2 (by first|exact ak.drew (ak.new _ _ _) |exact ak.new _ _ _)).mono ?_);rintro e w2 ⟨rfl,hq⟩;have hw2:Bw w1 w2:=(by first|exact aM hq|exact hq|exact pj hq|exact qw hq|exact tJ hq);clear hq;have wY:=ah (kE.out.below hw2);have PQ:w2.cell? ⟨w.heap.size,0,none⟩=some (.bool s):=wY.out.cell 0;have PR:w2.cell? ⟨w.heap.size,1,none⟩=some (.string (bs l)):=wY.out.cell 1;have KL:=ah (oZ.out.below hw2);have al9:w2.cell? ⟨w.heap.size+1,0,none⟩=some (.bool t):=KL.out.cell 0;have ama:w2.cell? ⟨w.heap.size+1,1,none⟩=some (.string (bs m)):=KL.out.cell 1;have qj:=ah (ig.out.below hw2);have OG:w2.cell? ⟨w.heap.size+1+1,0,none⟩=some (.bool false):=qj.out.cell 0;have LC:w2.frozen? ⟨w.heap.size+1+1,0,none⟩=false:=qj.out.free 0;have OH:w2.cell? ⟨w.heap.size+1+1,1,none⟩=some (.string (bs [])):=qj.out.cell 1;have LD:w2.frozen? ⟨w.heap.size+1+1,1,none⟩=false:=qj.out.free 1))
 replace Hb:=ah (aJ Hb.out hw1);clear hw1;replace Hb:=ah (aJ Hb.out hw2);clear hw2 x0 x1 y0 y1 r0 ai r1 aj;replace Hx:=wY;clear kE yC yD PQ PR;replace Hy:=KL;clear oZ EF EG al9 ama;replace Hr:=qj;clear ig yo xq yq xt OG LC OH LD;obtain⟨x0,x1⟩:=Hx.out.c2;obtain⟨y0,y1⟩:=Hy.out.c2;obtain⟨r0,ai,r1,aj⟩:=Hr.out.g2;rw[He.out];go_wp2;refine bodyPost_ret (v:=cX (iv s l-iv t m)) (by simp[results,Tryz.results109,go_sem,r0,r1]) rfl ⟨rfl,?_⟩;(repeat first|exact Hb.out| (refine Below.setCell ?_ (by have:=Hb.out.size;first| (dsimp only;omega) | (show _<=_;omega) | (simp<;>omega)) _) | (refine Below.alloc ?_ zt _) |refine Below.drew ?_)
theorem alJ (s:Bool)(l:List UInt8)(t:Bool)(m:List UInt8)(w:World)(hl:l.length<=34359738368)(hm:m.length<=34359738368)(hd:(nt (iv s l-iv t m).natAbs).length<=1099511627776):
 Calls Tryz.prog 72 #[.agg #[.bool s,.string (bs l)],.agg #[.bool t,.string (bs m)]] w λe w'=>e=.returned (.int .i64 (eu (iv s l-iv t m)))/\Bw w w':=by
 have Hi:=ah (fq (iv s l-iv t m));go_enter Tryz.func72,Tryz.ntmps72;have Hb:Hid (Bw w w):=Below.refl _ _;go_wp2_with fail;obtain⟨R,hR⟩:∃R:World->Prop,(λW=>ak W (w.heap.size) 28 [.bool s,.string (bs l)]/\ak W (w.heap.size+1) 28 [.bool t,.string (bs m)]/\Bw w W)=R:=⟨_,rfl⟩;first|refine bO R ?hR ?_|refine bK R ?hR ?_
 case hR=>subst hR;exact⟨((ak.newAt w _ _ (b:=w.heap.size) rfl).alloc _),(ak.newAt (w.alloc _) _ _ (b:=w.heap.size+1) zm),(zl.alloc zj _)⟩
 subst hR;rintro W ⟨qx,qy,ae⟩;have Hx:=ah qx;clear qx;have Hy:=ah qy;clear qy;obtain⟨x0,x1⟩:=Hx.out.c2;obtain⟨y0,y1⟩:=Hy.out.c2;replace Hb:=au Hb ae;clear ae;go_wp2_with fail;refine(PM s l t m _ hl hm).mono ?_;rintro e w1 ⟨rfl,ae⟩;clear x0 x1 y0 y1;replace Hx:=kB Hx ae;replace Hy:=kB Hy ae;obtain⟨x0,x1⟩:=Hx.out.c2;obtain⟨y0,y1⟩:=Hy.out.c2;replace Hb:=au Hb ae;clear ae;go_wp2_with fail;refine(EA (ar (iv s l-iv t m)) (nt (iv s l-iv t m).natAbs) _ hd).mono ?_;rintro e w2 ⟨rfl,ae⟩;clear x0 x1 y0 y1;replace Hx:=kB Hx ae;replace Hy:=kB Hy ae;obtain⟨x0,x1⟩:=Hx.out.c2;obtain⟨y0,y1⟩:=Hy.out.c2;replace Hb:=au Hb ae;clear ae;rw[Hi.out];go_wp2;go_ret;exact⟨rfl,Hb.out⟩
theorem PL (s:Bool)(l:List UInt8)(n:Nat)(w:World)(hl:l.length<=68719476736)(hn:n<=549755813888):
 Calls Tryz.prog 106 #[.agg #[.bool s,.string (bs l)],.int .i64 (n:Int)] w λe w'=>e=.returned (cX (iv s l*2^n))/\Bw w w':=by
 have hlen:(nt (nv l*2^n)).length<=1099511627776:=by
  have h1:nv l*2^n<2^(8*l.length+n):=by rw[Nat.pow_add,Nat.pow_mul];exact Nat.mul_lt_mul_of_pos_right (gb l) (Nat.pow_pos zd)
  have h2:=gG h1;rw[aiN];omega
 have He:Hid (iv s (nt (nv l*2^n))=iv s l*2^n):=by
  show _=_
  rw[mL];unfold iv;cases s<;>simp[Int.natCast_mul,Int.natCast_pow,Int.neg_mul]
 go_enter Tryz.func106,Tryz.ntmps106;have Hb:Hid (Bw w w):=Below.refl _ _;go_wp2_with fail;obtain⟨R,hR⟩:∃R:World->Prop,(λW=>ak W (w.heap.size) 28 [.bool s,.string (bs l)]/\ak W (w.heap.size+1) 28 [.bool false,.string (bs [])]/\Bw w W)=R:=⟨_,rfl⟩;first|refine bO R ?hR ?_|refine bK R ?hR ?_
 case hR=>subst hR;exact⟨((ak.newAt w _ _ (b:=w.heap.size) rfl).alloc _),(ak.newAt (w.alloc _) _ _ (b:=w.heap.size+1) zm),(zl.alloc zj _)⟩
 subst hR;rintro W ⟨qx,qr,ae⟩;have Hx:=ah qx;clear qx;have Hr:=ah qr;clear qr;obtain⟨x0,x1⟩:=Hx.out.c2;obtain⟨r0,ai,r1,aj⟩:=Hr.out.g2;replace Hb:=au Hb ae;clear ae;have Od:w.heap.size≠w.heap.size+1:=by omega
 go_region_held3 (λw'=>w'.cell? ⟨w.heap.size,0,none⟩=some (.bool s)/\w'.cell? ⟨w.heap.size,1,none⟩=some (.string (bs l))) (((try dsimp only);go_split_ands;(repeat' apply And.intro)<;>(first|exact True.intro|with_reducible assumption| ((with_reducible refine fC zg ?_);(repeat(with_reducible refine fC zg ?_));with_reducible assumption) |exact cell_later (by with_reducible assumption) (by with_reducible assumption) |exact aG (by with_reducible assumption) |go_keep))) (first| (go_at_call 143;(with_reducible refine(aiB l n _ hl hn).mono ?_);rintro e w1 ⟨rfl,hq⟩;have hw1:Bw W w1:=(by first|exact aM hq|exact hq|exact pj hq|exact qw hq|exact tJ hq);clear hq;have kE:=ah (Hx.out.below hw1);have yC:w1.cell? ⟨w.heap.size,0,none⟩=some (.bool s):=kE.out.cell 0;have yD:w1.cell? ⟨w.heap.size,1,none⟩=some (.string (bs l)):=kE.out.cell 1;have ig:=ah (Hr.out.below hw1);have yo:w1.cell? ⟨w.heap.size+1,0,none⟩=some (.bool false):=ig.out.cell 0;have xq:w1.frozen? ⟨w.heap.size+1,0,none⟩=false:=ig.out.free 0;have yq:w1.cell? ⟨w.heap.size+1,1,none⟩=some (.string (bs [])):=ig.out.cell 1;have xt:w1.frozen? ⟨w.heap.size+1,1,none⟩=false:=ig.out.free 1) | (go_at_call 112;(with_reducible refine(vM (nt (nv l*2^n)) s _ hlen).mono ?_);rintro e w2 ⟨rfl,hq⟩;have hw2:Bw w1 w2:=(by first|exact aM hq|exact hq|exact pj hq|exact qw hq|exact tJ hq);clear hq;have wY:=ah (kE.out.below hw2);have PQ:w2.cell? ⟨w.heap.size,0,none⟩=some (.bool s):=wY.out.cell 0;have PR:w2.cell? ⟨w.heap.size,1,none⟩=some (.string (bs l)):=wY.out.cell 1;have qj:=ah (ig.out.below hw2);have OG:w2.cell? ⟨w.heap.size+1,0,none⟩=some (.bool false):=qj.out.cell 0;have LC:w2.frozen? ⟨w.heap.size+1,0,none⟩=false:=qj.out.free 0;have OH:w2.cell? ⟨w.heap.size+1,1,none⟩=some (.string (bs [])):=qj.out.cell 1;have LD:w2.frozen? ⟨w.heap.size+1,1,none⟩=false:=qj.out.free 1))
 replace Hb:=ah (aJ Hb.out hw1);clear hw1;replace Hb:=ah (aJ Hb.out hw2);clear hw2 x0 x1 r0 ai r1 aj;replace Hx:=wY;clear kE yC yD PQ PR;replace Hr:=qj;clear ig yo xq yq xt OG LC OH LD;obtain⟨x0,x1⟩:=Hx.out.c2;obtain⟨r0,ai,r1,aj⟩:=Hr.out.g2;rw[He.out];go_wp2;refine bodyPost_ret (v:=cX (iv s l*2^n)) (by simp[results,Tryz.results106,go_sem,r0,r1]) rfl ⟨rfl,?_⟩;(repeat first|exact Hb.out| (refine Below.setCell ?_ (by have:=Hb.out.size;first| (dsimp only;omega) | (show _<=_;omega) | (simp<;>omega)) _) | (refine Below.alloc ?_ zt _) |refine Below.drew ?_)
theorem PI (n N:Int)(hN:n=N)(w:World)(h0: -9223372036854775808<=n)(h1:n<=9223372036854775807):
 Calls Tryz.prog 74 #[.int .i64 n] w λe w'=>e=.returned (cX N)/\Bw w w':=by
 subst hN;exact PH n w h0 h1
def ib :List (Bool×List UInt8)->Int
 |[]=>1
 |x::xs=>iv x.1 x.2*ib xs
theorem ag8 (xs ys:List (Bool×List UInt8)):ib (xs++ys)=ib xs*ib ys:=by
 induction xs with
 |nil=>simp[ib]
 |cons x xs ih=>simp[ib,ih,Int.mul_assoc]
theorem ahb (xs:List (Bool×List UInt8))(k:Nat)(hk:k<xs.length):ib (xs.take (k+1))=ib (xs.take k) *iv xs[k].1 xs[k].2:=by rw[List.take_succ_eq_append_getElem hk,ag8];simp[ib]
def oI (xs:List (Bool×List UInt8)):Nat:=(xs.map λx=>x.2.length).sum
theorem ag7 (xs:List (Bool×List UInt8))(k:Nat):oI (xs.take k)<=oI xs:=by
 unfold oI;induction xs generalizing k with
 |nil=>simp
 | cons x xs ih=>cases k with
   |zero=>simp
   |succ k=>simp only[List.take_succ_cons,List.map_cons,List.sum_cons];have:=ih k;omega
theorem ag6 (xs:List (Bool×List UInt8))(x)(h:x∈xs):x.2.length<=oI xs:=by
 unfold oI;induction xs with
 |nil=>simp at h
 | cons y xs ih=>
   simp at h⊢;rcases h with h|h
   . subst h;omega
   . have:=ih h;omega
theorem aha (xs:List (Bool×List UInt8)):(ib xs).natAbs<=256^oI xs:=by
 induction xs with
 |nil=>simp[ib,oI]
 | cons x xs ih=>
   simp only[ib,Int.natAbs_mul,nE];have h1:=gb x.2;have:oI (x::xs)=x.2.length+oI xs:=by simp[oI]
   rw[this,Nat.pow_add];exact Nat.mul_le_mul (Nat.le_of_lt h1) ih
theorem ag9 (xs:List (Bool×List UInt8))(N:Nat)(h:oI xs+1<=N):(nt (ib xs).natAbs).length<=N:=by refine jc (Nat.lt_of_le_of_lt (aha xs) ?_);exact Nat.pow_lt_pow_right zd zo
theorem alM (xs:List (Bool×List UInt8))(a:Option Addr)(cap:Nat)(w:World)(hl:oI xs<=34359738368)(hx:xs.length<=1048576)
 (ha:At w a (xs.flatMap Ic)):
 Calls Tryz.prog 73 #[.slice a xs.length cap] w λe w'=>e=.returned (cX (ib xs))/\Bw w w':=by
 have Hl:=ah hl;clear hl;have Ha:=ah ha;clear ha;have Bb:Hid (∀k,(nt (ib (xs.take k)).natAbs).length<=68719476736):=λk=>ag9 _ _ (by have:=ag7 xs k;have:=Hl.out;omega);obtain⟨one,hone⟩:∃one:Int,1=one:=⟨_,rfl⟩;have BP:=ah hone;clear hone;go_enter Tryz.func73,Tryz.ntmps73;have Hb:Hid (Bw w w):=Below.refl _ _;go_wp2_with fail;obtain⟨R,hR⟩:∃R:World->Prop,(λW=>ak W (w.heap.size) 28 [.bool false,.string (bs [])]/\Bw w W)=R:=⟨_,rfl⟩;first|refine bO R ?hR ?_|refine bK R ?hR ?_
 case hR=>subst hR;exact⟨(ak.newAt w _ _ (b:=w.heap.size) rfl),zl⟩
 subst hR;rintro W ⟨qr,ae⟩;have Hr:=ah qr;clear qr;obtain⟨r0,ai,r1,aj⟩:=Hr.out.g2;replace Hb:=au Hb ae;clear ae;go_wp2_with fail;refine(PI 1 one BP.out _ zo zo).mono ?_;rintro e w1 ⟨rfl,ae⟩;clear r0 ai r1 aj;replace Hr:=kB Hr ae;obtain⟨r0,ai,r1,aj⟩:=Hr.out.g2;replace Hb:=au Hb ae;clear ae;go_wp2_with fail;refine(IY (nt one.natAbs) (ar one) _).mono ?_;rintro e w2 ⟨rfl,ae⟩;clear r0 ai r1 aj;replace Hr:=kB Hr ae;obtain⟨r0,ai,r1,aj⟩:=Hr.out.g2;replace Hb:=au Hb ae;clear ae;have anH:w.heap.size<w2.heap.size:=Hr.out.lt;have xZ:=Hr.out.lt;go_wp2_with fail;obtain⟨R,hR⟩:∃R:World->Prop,(λW2=>ak W2 (w2.heap.size) 137 [.string (bs (nt one.natAbs)),.bool (ar one)]/\Bw w2 W2)=R:=⟨_,rfl⟩;first|refine bO R ?hR ?_|refine bK R ?hR ?_
 case hR=>subst hR;exact⟨(ak.newAt w2 _ _ (b:=w2.heap.size) rfl),zl⟩
 subst hR;rintro W2 ⟨qs,ae⟩;have Hs:=ah qs;clear qs r0 ai r1 aj;replace Hr:=kB Hr ae;obtain⟨r0,ai,r1,aj⟩:=Hr.out.g2;obtain⟨s0,bH,s1,bI⟩:=Hs.out.g2;replace Hb:=au Hb ae;clear ae
 go_loopw[5,10] (λ_ i wr=>∃(k:Nat) (t:Bool),k<=xs.length/\i=.int .i64 k/\iv t (nt (ib (xs.take k)).natAbs)=ib (xs.take k)/\ak wr w.heap.size 28 [.bool false,.string (bs [])]/\
  ak wr w2.heap.size 137 [.string (bs (nt (ib (xs.take k)).natAbs)),.bool t]/\Bw w wr) (λ_ i _=>xs.length-(intOf i).toNat)
 case atStart=>
  have e:ib (xs.take 0)=one:=by rw[<-BP.out];simp[ib]
  refine⟨0,ar one,Nat.zero_le _,rfl,?_,Hr.out,?_,Hb.out⟩
  . rw[e];exact fq one
  . rw[e];exact Hs.out
 case round=>
  obtain⟨k,t,hk,rfl,mI,qr,qs,hb⟩:=hrel;replace Hr:=ah qr;replace Hs:=ah qs;replace Hb:=ah hb;have lu:=ah mI;clear qr qs hb mI r0 r1 ai aj s0 s1 bH bI;by_cases hlt:k<xs.length
  . obtain⟨b,o,hab,hcs⟩:=(Ha.out.below Hb.out).elem (f:=Ic) (sz:=2) (λ_=>rfl) zd k hlt;have hc0:wr.cell? ⟨b,o+k*2,none⟩=some (.bool xs[k].1):=hcs 0 zd;have hc1:wr.cell? ⟨b,o+k*2+1,none⟩=some (.string (bs xs[k].2)):=hcs 1 zd;have bD:=uf xs.length cap k (k:Int) hab hlt rfl;have cd:=ah (ahb xs k hlt);have ky:Hid (xs[k].2.length<=34359738368):=by have:=ag6 xs _ (List.getElem_mem hlt);have:=Hl.out;show _<=_;omega
    have jQ:=ah (Bb.out k);clear hcs hab;generalize xs[k]=x at*;obtain⟨t1,l1⟩:=x;generalize hS:ib (xs.take k)=S at*;have HS:=ah hS;clear hS;obtain⟨r0,ai,r1,aj⟩:=Hr.out.g2;obtain⟨s0,bH,s1,bI⟩:=Hs.out.g2;have DY:=Hr.out.lt;have NS:=Hs.out.lt;go_wp2_with fail;obtain⟨R,hR⟩:∃R:World->Prop,(λW1=>ak W1 (wr.heap.size) 28 [.bool t1,.string (bs l1)]/\Bw wr W1)=R:=⟨_,rfl⟩;first|refine bO R ?hR ?_|refine bK R ?hR ?_
    case hR=>subst hR;exact⟨(ak.newAt wr _ _ (b:=wr.heap.size) rfl),zl⟩
    subst hR;rintro W1 ⟨qa,ae⟩;have Ha:=ah qa;clear qa r0 ai r1 aj;replace Hr:=kB Hr ae;obtain⟨r0,ai,r1,aj⟩:=Hr.out.g2;clear s0 bH s1 bI;replace Hs:=kB Hs ae;obtain⟨s0,bH,s1,bI⟩:=Hs.out.g2;obtain⟨a0,a1⟩:=Ha.out.c2;replace Hb:=au Hb ae;clear ae;go_region_with (first| (go_at_call 110;refine(IY l1 t1 _).mono ?_;rintro e w3 ⟨rfl,hq⟩;have hw3:Bw W1 w3:=aM hq;clear hq;have Pb:=cell_later hw3 s0;have Pe:=cell_later hw3 s1;have afl:=(Hs.out.below hw3).free 0;have afn:=(Hs.out.below hw3).free 1) | (go_at_call 111;refine(alh (nt S.natAbs) l1 t t1 _ jQ.out (by have:=ky.out;omega)).mono ?_;rintro e w4 ⟨rfl,hw4⟩;have akz:=cell_later hw4 Pb;have akC:=cell_later hw4 Pe;have afm:=((Hs.out.below hw3).below hw4).free 0;have afo:=((Hs.out.below hw3).below hw4).free 1))
    all_goals
     go_wp2
     go_roundw
     case rel=>
      have hq:=ahg t (nt S.natAbs) t1 l1;rw[lu.out,<-cd.out]at hq;have hq2:nv (nt S.natAbs) *nv l1=(ib (xs.take (k+1))).natAbs:=by rw[cd.out,Int.natAbs_mul,nE,jd]
      rw[hq2]at hq⊢;refine⟨k+1,_,by omega,by go_num,hq,((((Hr.out.below hw3).below hw4).api ⟨w2.heap.size,0,none⟩ zp _).api ⟨w2.heap.size,1,none⟩ zp _),((((Hs.out.below hw3).below hw4).set 0 _).set 1 _),?_⟩;exact((aJ (aJ Hb.out hw3) hw4).setCell zp _).setCell zp _
     case measure=>simp[intOf];omega
  . obtain rfl:k=xs.length:=by omega
    rw[List.take_length]at Hs lu;have jQ:=Bb.out xs.length;rw[List.take_length]at jQ;obtain⟨r0,ai,r1,aj⟩:=Hr.out.g2;obtain⟨s0,bH,s1,bI⟩:=Hs.out.g2;go_wp2_with fail;refine(vM (nt (ib xs).natAbs) t _ zo).mono ?_;rintro e w3 ⟨rfl,ae⟩;clear r0 ai r1 aj s0 bH s1 bI;replace Hr:=kB Hr ae;replace Hs:=kB Hs ae;obtain⟨r0,ai,r1,aj⟩:=Hr.out.g2;obtain⟨s0,bH,s1,bI⟩:=Hs.out.g2;replace Hb:=au Hb ae;clear ae;rw[lu.out];go_wp2;refine bodyPost_ret (v:=cX (ib xs)) (by simp[results,Tryz.results73,go_sem,r0,r1]) rfl ⟨rfl,?_⟩;(repeat first|exact Hb.out| (refine Below.setCell ?_ (by have:=Hb.out.size;first| (dsimp only;omega) | (show _<=_;omega) | (simp<;>omega)) _) | (refine Below.alloc ?_ zt _) |refine Below.drew ?_)
theorem YN (v:Nat)(h:0<v):∃m,v=2^tz v* (2*m+1):=by
 induction v using Nat.strongRecOn with
 | _ v ih=>
   by_cases he:v%2=0
   . obtain⟨u,rfl⟩:∃u,v=2*u:=⟨v/2,by omega⟩;obtain⟨m,hm⟩:=ih u zo zo;refine⟨m,?_⟩;have e:tz (2*u)=tz u+1:=by unfold tz;rw[show((2*u:Nat):Int)=2* (u:Int)by omega];exact Int.trailingZeros_two_mul zo
     rw[e,Nat.pow_succ];conv=>lhs;rw[hm]
     rw[Nat.mul_comm (2^tz u) 2,Nat.mul_assoc]
   . refine⟨v/2,?_⟩;have e:tz v=0:=by unfold tz;exact Int.trailingZeros_eq_zero_of_mod_eq zo
     rw[e];omega
theorem YL (v k:Nat)(h:0<v):tz v<k↔v%2^k≠0:=by
 obtain⟨m,hm⟩:=YN v h;generalize tz v=c at*;constructor
 . intro hc h0;have hd:2^k∣v:=Nat.dvd_of_mod_eq_zero h0;have hd2:2^(c+1)∣v:=Nat.dvd_trans (Nat.pow_dvd_pow 2 hc) hd;rw[hm,Nat.pow_succ]at hd2;have:=Nat.dvd_of_mul_dvd_mul_left (Nat.pow_pos zd) hd2;omega
 . intro hne;rcases Nat.lt_or_ge c k with h1|h1
   . exact h1
   . exfalso;apply hne
     rw[hm];exact Nat.mod_eq_zero_of_dvd (Nat.dvd_trans (Nat.pow_dvd_pow 2 h1) (Nat.dvd_mul_right _ _))
theorem aiD (v k:Nat)(h:v%2^k=0): -(v:Int)/2^k= -((v/2^k:Nat):Int):=by
 obtain⟨q,rfl⟩:=Nat.dvd_of_mod_eq_zero h;have hp:=Nat.pow_pos (n:=k) (show 0<2 by decide);rw[Nat.mul_div_cancel_left _ hp];have e: -((2^k*q:Nat):Int)=2^k* (-(q:Int)):=by simp[Int.natCast_mul,Int.natCast_pow,Int.mul_neg]
 rw[e,Int.mul_ediv_cancel_left];have:((2^k:Nat):Int)≠0:=by omega
 simpa[Int.natCast_pow]using this
theorem aiE (v k:Nat)(h:v%2^k≠0): -(v:Int)/2^k= -((v/2^k:Nat):Int)-1:=by
 have hp:=Nat.pow_pos (n:=k) (show 0<2 by decide);have e:=(Nat.mod_add_div v (2^k)).symm;have hr:=Nat.mod_lt v hp;rw[show((2:Int)^k)=((2^k:Nat):Int)by simp[Int.natCast_pow]];generalize v%2^k=r at*;generalize v/2^k=q at*;generalize 2^k=p at*;subst e;have e2: -((r+p*q:Nat):Int)=((p:Int)-r)+p* (-(q:Int)-1):=by rw[Int.natCast_add,Int.natCast_mul,Int.mul_sub,Int.mul_neg,Int.mul_one];omega
 rw[e2,Int.add_mul_ediv_left _ _ zo,Int.ediv_eq_zero_of_lt zo zo];omega
theorem aiM (l:List UInt8)(k B:Nat)(hl:l.length<=B):(nt (nv l/2^k)).length<=B:=jc (Nat.lt_of_le_of_lt (Nat.div_le_self _ _) (Nat.lt_of_lt_of_le (gb l) (Nat.pow_le_pow_right zd hl)))
theorem YZ (s:Bool)(l:List UInt8)(k:Nat)(w:World)(hl:l.length<=34359738368)(hk:0<k)(hk2:k<=1099511627776)(hT:aF w):
 Calls Tryz.prog 106 #[.agg #[.bool s,.string (bs l)],.int .i64 (-(k:Int))] w λe w'=>e=.returned (cX (iv s l/2^k))/\Bw w w':=by
 have hmax:max (-(k:Int)) (-1099511627776)= -(k:Int):=by omega
 have hlen:(nt (nv l/2^k)).length<=34359738368:=aiM l k _ hl;obtain⟨Z,hZ⟩:=aB (nv l/2^k);have GZ:∀W,Calls Tryz.prog 144 #[.string (bs l),.int .i64 (k:Int)] W λe w'=>e=.returned (.string (bs (nt Z)))/\Bw W w':=λW=>by rw[<-hZ];exact aiC l k W zo hk2
 rw[hZ]at hlen;have HZ:=ah hZ;clear hZ;have abE:=ah GZ;clear GZ;obtain⟨M,hM⟩:=aB (iv s (nt Z));have HM:=ah hM;clear hM;have Vt:∀W,Calls Tryz.prog 112 #[.agg #[.string (bs (nt Z)),.bool s]] W λe w'=>e=.returned (cX M)/\Bw W w':=λW=>by have:=vM (nt Z) s W zo;rw[HM.out]at this;exact this
 have aaV:=ah Vt;clear Vt;go_enter Tryz.func106,Tryz.ntmps106;have Hb:Hid (Bw w w):=Below.refl _ _;go_upto_region 4 with fail
 go_wp2_with fail;obtain⟨R,hR⟩:∃R:World->Prop,(λW=>ak W (w.heap.size) 28 [.bool s,.string (bs l)]/\ak W (w.heap.size+1) 28 [.bool false,.string (bs [])]/\Bw w W)=R:=⟨_,rfl⟩;first|refine bO R ?hR ?_|refine bK R ?hR ?_
 case hR=>subst hR;exact⟨((ak.newAt w _ _ (b:=w.heap.size) rfl).alloc _),(ak.newAt (w.alloc _) _ _ (b:=w.heap.size+1) zm),(zl.alloc zj _)⟩
 subst hR;rintro W ⟨qx,qr,ae⟩;have Hx:=ah qx;clear qx;have Hr:=ah qr;clear qr;obtain⟨x0,x1⟩:=Hx.out.c2;obtain⟨r0,ai,r1,aj⟩:=Hr.out.g2;replace Hb:=au Hb ae;clear ae;go_cut[5] (λs5 wx=>∃g:Nat,s5=.pointer (some ⟨g,0,none⟩)/\w.heap.size+1<g/\ak wx w.heap.size 28 [.bool s,.string (bs l)]/\ak wx (w.heap.size+1) 28 [.bool false,.string (bs [])]/\ak wx g 28 [.bool (ar M),.string (bs (nt M.natAbs))]/\Bw w wx);case first=>
  have hxW:w.heap.size<W.heap.size:=Hx.out.lt;have hrW:w.heap.size+1<W.heap.size:=Hr.out.lt;have hwk:IntKind.i64.wrap (k:Int)=(k:Int):=by rw[IntKind.wrap_i64];omega
  go_region_held3 (λw'=>w'.cell? ⟨w.heap.size,0,none⟩=some (.bool s)/\w'.cell? ⟨w.heap.size,1,none⟩=some (.string (bs l))) (((try dsimp only);go_split_ands;(repeat' apply And.intro)<;>(first|with_reducible assumption|exact aG (by with_reducible assumption) |exact Ld (by with_reducible assumption) |exact Ld (aG (by with_reducible assumption)) | ((with_reducible refine fC zf ?_);(repeat(with_reducible refine fC zf ?_));first|with_reducible assumption|exact aG (by with_reducible assumption) |exact Ld (by with_reducible assumption)) |go_keep))) (first| (go_at_call 144;(with_reducible refine(abE.out _).mono ?_);rintro e w1 ⟨rfl,hq⟩;(first| (have hw1:Bw W w1:=aM hq) | (have hw1:Bw W w1:=tJ hq;have BM:=ah (ak.below (ak.drew (ak.new W 28 [.bool false,.string (bs [])])) hq);have aoS:w1.cell? ⟨W.heap.size,0,none⟩=some (.bool false):=BM.out.cell 0;have aoT:w1.cell? ⟨W.heap.size,1,none⟩=some (.string (bs [])):=BM.out.cell 1;have amK:=BM.out.free 0;have amL:=BM.out.free 1));clear hq;have zs1:=hw1.size;obtain⟨KJ,aby⟩:=aL (Hx.out.below hw1) (Hr.out.below hw1);have ao5:w1.cell? ⟨w.heap.size,0,none⟩=some (.bool s):=KJ.out.cell 0;have ao7:w1.cell? ⟨w.heap.size,1,none⟩=some (.string (bs l)):=KJ.out.cell 1) | (go_at_call 112;(with_reducible refine(aaV.out _).mono ?_);rintro e w2 ⟨rfl,hq⟩;(first| (have hw2:Bw w1 w2:=hq;(try(have qi:=ah (ak.below BM.out hq);have aio:w2.cell? ⟨W.heap.size,0,none⟩=some (.bool false):=qi.out.cell 0;have air:w2.cell? ⟨W.heap.size,1,none⟩=some (.string (bs [])):=qi.out.cell 1;have afb:=qi.out.free 0;have afc:=qi.out.free 1))) | (have hw2:Bw w1 w2:=qw hq;have qi:=ah (ak.below (ak.new w1 28 [.bool false,.string (bs [])]) hq);have aio:w2.cell? ⟨w1.heap.size,0,none⟩=some (.bool false):=qi.out.cell 0;have air:w2.cell? ⟨w1.heap.size,1,none⟩=some (.string (bs [])):=qi.out.cell 1;have afb:=qi.out.free 0;have afc:=qi.out.free 1));clear hq;have zs2:=hw2.size;obtain⟨Ck,Kl⟩:=aL (KJ.out.below hw2) (aby.out.below hw2);have ao6:w2.cell? ⟨w.heap.size,0,none⟩=some (.bool s):=Ck.out.cell 0;have ao8:w2.cell? ⟨w.heap.size,1,none⟩=some (.string (bs l)):=Ck.out.cell 1))
  all_goals(go_wp2_with fail;go_meet)
  . exact⟨w2.heap.size,rfl,by omega,Ck.out.alloc _,Kl.out.alloc _,ak.new _ _ _,(aJ (aJ Hb.out hw1) hw2).alloc zo _⟩
  . exact⟨w1.heap.size,rfl,by omega,((Ck.out.api ⟨w1.heap.size,0,none⟩ (by first| (dsimp only;omega) |omega| (simp<;>omega)) _).api ⟨w1.heap.size,1,none⟩ (by first| (dsimp only;omega) |omega| (simp<;>omega)) _),((Kl.out.api ⟨w1.heap.size,0,none⟩ (by first| (dsimp only;omega) |omega| (simp<;>omega)) _).api ⟨w1.heap.size,1,none⟩ (by first| (dsimp only;omega) |omega| (simp<;>omega)) _),((qi.out.set 0 _).set 1 _),((aJ (aJ Hb.out hw1) hw2).setCell (by first| (dsimp only;omega) |omega| (simp<;>omega)) _).setCell (by first| (dsimp only;omega) |omega| (simp<;>omega)) _⟩
  . exact⟨W.heap.size,rfl,hrW,((Ck.out.api ⟨W.heap.size,0,none⟩ (by first| (dsimp only;omega) |omega| (simp<;>omega)) _).api ⟨W.heap.size,1,none⟩ (by first| (dsimp only;omega) |omega| (simp<;>omega)) _),((Kl.out.api ⟨W.heap.size,0,none⟩ (by first| (dsimp only;omega) |omega| (simp<;>omega)) _).api ⟨W.heap.size,1,none⟩ (by first| (dsimp only;omega) |omega| (simp<;>omega)) _),((qi.out.set 0 _).set 1 _),((aJ (aJ Hb.out hw1) hw2).setCell (by first| (dsimp only;omega) |omega| (simp<;>omega)) _).setCell (by first| (dsimp only;omega) |omega| (simp<;>omega)) _⟩
 case rest=>
  obtain⟨g,rfl,hg,qx,qr,qn,qb⟩:=hcut;replace Hx:=ah qx;replace Hr:=ah qr;have Hn:=ah qn;replace Hb:=ah qb;clear qx qr qn qb x0 x1 r0 r1 ai aj;cases s
  . obtain ⟨x0,x1⟩:=Hx.out.c2;obtain⟨r0,ai,r1,aj⟩:=Hr.out.g2;obtain⟨n0,n1⟩:=Hn.out.c2;have gF:Hid (iv false l/2^k=M):=by
     show _=_
     rw[<-HM.out,<-HZ.out,mL];unfold iv;simp[Int.natCast_pow]
    go_wp2;refine bodyPost_ret (v:=cX M) (by simp[results,Tryz.results106,go_sem,r0,r1]) rfl ⟨by rw[gF.out],?_⟩;(repeat first|exact Hb.out| (refine Below.setCell ?_ (by have:=Hb.out.size;first| (dsimp only;omega) | (show _<=_;omega) | (simp<;>omega)) _) | (refine Below.alloc ?_ zt _) |refine Below.drew ?_)
  . obtain⟨x0,x1⟩:=Hx.out.c2;obtain⟨r0,ai,r1,aj⟩:=Hr.out.g2;obtain⟨n0,n1⟩:=Hn.out.c2;have oV:Hid (l.length<=68719476736):=by show _<=_;omega
    by_cases h0:nv l=0
    . have hb0:bA (nv l)=0:=by rw[h0];rfl
      have gF:Hid (iv true l/2^k=M):=by
       show _=_
       rw[<-HM.out,<-HZ.out,mL,h0];unfold iv;simp[h0]
      have fT:=ah hb0;clear hb0;go_wp2_with fail;refine(Ob l _ oV.out).mono ?_;rintro e w3 ⟨rfl,ae⟩;clear x0 x1 r0 ai r1 aj n0 n1;replace Hx:=kB Hx ae;replace Hr:=kB Hr ae;replace Hn:=kB Hn ae;obtain⟨x0,x1⟩:=Hx.out.c2;obtain⟨r0,ai,r1,aj⟩:=Hr.out.g2;obtain⟨n0,n1⟩:=Hn.out.c2;replace Hb:=au Hb ae;clear ae;rw[fT.out];go_wp2;refine bodyPost_ret (v:=cX M) (by simp[results,Tryz.results106,go_sem,r0,r1]) rfl ⟨by rw[gF.out],?_⟩;(repeat first|exact Hb.out| (refine Below.setCell ?_ (by have:=Hb.out.size;first| (dsimp only;omega) | (show _<=_;omega) | (simp<;>omega)) _) | (refine Below.alloc ?_ zt _) |refine Below.drew ?_)
    . have hbp:0<bA (nv l):=Cv zo;have Bh:Hid (aF wc):=hT.below Hb.out;by_cases hz:tz (nv l)<k
      . have gF:Hid (iv true l/2^k=M-1):=by
         show _=_
         rw[<-HM.out,<-HZ.out,mL];have:=(YL (nv l) k zo).1 hz;unfold iv;simp only[if_true];exact aiE _ _ this
        have ZB:Hid ((nt M.natAbs).length<=34359738368):=by show _<=_;rw[<-HM.out,nE,jd];exact hlen
        obtain⟨one,hone⟩:∃one:Int,1=one:=⟨_,rfl⟩;have Hol:Hid ((nt one.natAbs).length<=34359738368):=by show _<=_;rw[<-hone];exact Nat.le_trans (jc (k:=1) zd) zd
        have BP:=ah hone;clear hone;have abG:Hid (iv (ar M) (nt M.natAbs)-iv (ar one) (nt one.natAbs)=M-1):=by show _=_;rw[fq,fq,<-BP.out]
        go_wp2_with fail;refine(Ob l _ oV.out).mono ?_;rintro e w3 ⟨rfl,ae⟩;clear x0 x1 r0 ai r1 aj n0 n1;replace Hx:=kB Hx ae;replace Hr:=kB Hr ae;replace Hn:=kB Hn ae;obtain⟨x0,x1⟩:=Hx.out.c2;obtain⟨r0,ai,r1,aj⟩:=Hr.out.g2;obtain⟨n0,n1⟩:=Hn.out.c2;replace Hb:=au Hb ae;clear ae;replace Bh:=ah (hT.below Hb.out);go_wp2_with fail;refine(Oc l _ oV.out Bh.out).mono ?_;rintro e w4 ⟨rfl,ae⟩;clear x0 x1 r0 ai r1 aj n0 n1;replace Hx:=kB Hx ae;replace Hr:=kB Hr ae;replace Hn:=kB Hn ae;obtain⟨x0,x1⟩:=Hx.out.c2;obtain⟨r0,ai,r1,aj⟩:=Hr.out.g2;obtain⟨n0,n1⟩:=Hn.out.c2;replace Hb:=au Hb ae;clear ae;go_wp2_with fail;have nen:g≠w.heap.size+1:=by omega
        go_region_held3 (λw'=>w'.cell? ⟨g,0,none⟩=some (.bool (ar M))/\w'.cell? ⟨g,1,none⟩=some (.string (bs (nt M.natAbs)))) (((try dsimp only);go_split_ands;(repeat' apply And.intro)<;>(first|exact True.intro|with_reducible assumption| ((with_reducible refine fC zg ?_);(repeat(with_reducible refine fC zg ?_));with_reducible assumption) |exact cell_later (by with_reducible assumption) (by with_reducible assumption) |exact aG (by with_reducible assumption) |go_keep))) (first| (go_at_call 74;(with_reducible refine(PI 1 one BP.out _ zo zo).mono ?_);rintro e w5 ⟨rfl,hq⟩;have bT:Bw w4 w5:=(by first|exact aM hq|exact hq|exact pj hq|exact qw hq|exact tJ hq);clear hq;obtain⟨RO,yP⟩:=aL (Hx.out.below bT) (Hr.out.below bT);have ajL:w5.cell? ⟨w.heap.size+1,0,none⟩=some (.bool false):=yP.out.cell 0;have aff:w5.frozen? ⟨w.heap.size+1,0,none⟩=false:=yP.out.free 0;have ajN:w5.cell? ⟨w.heap.size+1,1,none⟩=some (.string (bs [])):=yP.out.cell 1;have afh:w5.frozen? ⟨w.heap.size+1,1,none⟩=false:=yP.out.free 1;have Ff:=ah (Hn.out.below bT);have aip:w5.cell? ⟨g,0,none⟩=some (.bool (ar M)):=Ff.out.cell 0;have ais:w5.cell? ⟨g,1,none⟩=some (.string (bs (nt M.natAbs))):=Ff.out.cell 1) | (go_at_call 109;(with_reducible refine(PM (ar M) (nt M.natAbs) (ar one) (nt one.natAbs) _ ZB.out Hol.out).mono ?_);rintro e w6 ⟨rfl,hq⟩;have DN:Bw w5 w6:=(by first|exact aM hq|exact hq|exact pj hq|exact qw hq|exact tJ hq);clear hq;obtain⟨abR,BZ⟩:=aL (RO.out.below DN) (yP.out.below DN);have ajM:w6.cell? ⟨w.heap.size+1,0,none⟩=some (.bool false):=BZ.out.cell 0;have afg:w6.frozen? ⟨w.heap.size+1,0,none⟩=false:=BZ.out.free 0;have ajO:w6.cell? ⟨w.heap.size+1,1,none⟩=some (.string (bs [])):=BZ.out.cell 1;have afi:w6.frozen? ⟨w.heap.size+1,1,none⟩=false:=BZ.out.free 1;have Kb:=ah (Ff.out.below DN);have aiq:w6.cell? ⟨g,0,none⟩=some (.bool (ar M)):=Kb.out.cell 0;have ait:w6.cell? ⟨g,1,none⟩=some (.string (bs (nt M.natAbs))):=Kb.out.cell 1))
        replace Hb:=ah (aJ Hb.out bT);clear bT;replace Hb:=ah (aJ Hb.out DN);clear DN x0 x1 r0 ai r1 aj n0 n1;replace Hx:=abR;clear RO;replace Hr:=BZ;clear yP ajL aff ajN afh ajM afg ajO afi;replace Hn:=Kb;clear Ff aip ais aiq ait;obtain⟨x0,x1⟩:=Hx.out.c2;obtain⟨r0,ai,r1,aj⟩:=Hr.out.g2;obtain⟨n0,n1⟩:=Hn.out.c2;rw[abG.out];go_wp2;refine bodyPost_ret (v:=cX (M-1)) (by simp[results,Tryz.results106,go_sem,r0,r1]) rfl ⟨by rw[gF.out],?_⟩;(repeat first|exact Hb.out| (refine Below.setCell ?_ (by have:=Hb.out.size;first| (dsimp only;omega) | (show _<=_;omega) | (simp<;>omega)) _) | (refine Below.alloc ?_ zt _) |refine Below.drew ?_)
      . have gF:Hid (iv true l/2^k=M):=by
         show _=_
         rw[<-HM.out,<-HZ.out,mL];have h2:nv l%2^k=0:=by
          rcases Nat.eq_zero_or_pos (nv l%2^k)with h|h
          . exact h
          . exact absurd ((YL (nv l) k zo).2 zo) hz
         unfold iv;simp only[if_true];exact aiD _ _ h2
        go_wp2_with fail;refine(Ob l _ oV.out).mono ?_;rintro e w3 ⟨rfl,ae⟩;clear x0 x1 r0 ai r1 aj n0 n1;replace Hx:=kB Hx ae;replace Hr:=kB Hr ae;replace Hn:=kB Hn ae;obtain⟨x0,x1⟩:=Hx.out.c2;obtain⟨r0,ai,r1,aj⟩:=Hr.out.g2;obtain⟨n0,n1⟩:=Hn.out.c2;replace Hb:=au Hb ae;clear ae;replace Bh:=ah (hT.below Hb.out);go_wp2_with fail;refine(Oc l _ oV.out Bh.out).mono ?_;rintro e w4 ⟨rfl,ae⟩;clear x0 x1 r0 ai r1 aj n0 n1;replace Hx:=kB Hx ae;replace Hr:=kB Hr ae;replace Hn:=kB Hn ae;obtain⟨x0,x1⟩:=Hx.out.c2;obtain⟨r0,ai,r1,aj⟩:=Hr.out.g2;obtain⟨n0,n1⟩:=Hn.out.c2;replace Hb:=au Hb ae;clear ae;go_wp2;refine bodyPost_ret (v:=cX M) (by simp[results,Tryz.results106,go_sem,r0,r1]) rfl ⟨by rw[gF.out],?_⟩;(repeat first|exact Hb.out| (refine Below.setCell ?_ (by have:=Hb.out.size;first| (dsimp only;omega) | (show _<=_;omega) | (simp<;>omega)) _) | (refine Below.alloc ?_ zt _) |refine Below.drew ?_)
end Go.Proofs.YtdaadlblknpipaaGreatDoor
