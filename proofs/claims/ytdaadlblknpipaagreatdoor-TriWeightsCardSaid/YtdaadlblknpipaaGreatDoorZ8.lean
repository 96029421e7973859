/- Package whole,on: Sub,Cmp,Mul,Shift. -/
import Derived.Test.YtdaadlblknpipaaGreatDoorZ6
import Derived.Deep.DeepCutAuto
set_option linter.unusedVariables false
set_option linter.unusedSimpArgs false
set_option maxRecDepth 100000
set_option maxHeartbeats 16000000
namespace Go.Proofs.YtdaadlblknpipaaGreatDoor
open Go.RowKit
attribute [local go_sem ↓] Go.wp_at_zero Go.wp_at_succ
theorem ZO (s:Bool)(l:List UInt8)(t:Bool)(m:List UInt8)(b cap:Nat)(ty:TypeId)(w:World)(hl:l.length<=34359738368)(hm:m.length<=34359738368)
 (ha:ak w b ty [.bool s,.string (bs l),.bool t,.string (bs m)]):
 Calls Tryz.prog 76 #[.slice (some ⟨b,0,none⟩) 2 cap] w λe w'=>e=.returned (cW (iv s l+iv t m))/\Bw w w':=by
 have:=amZ [(s,l),(t,m)] (some ⟨b,0,none⟩) cap w (by simp[hl,hm]) zm (At.aqS ha);have e:kO [(s,l),(t,m)]=iv s l+iv t m:=by simp[kO]
 rw[e]at this;exact this
theorem Eg (s:Bool)(m:List UInt8)(B:Nat)(hm:m.length<=B):(nt (-(iv s m)).natAbs).length<=B:=by rw[Int.natAbs_neg,nH];exact ja (Nat.lt_of_lt_of_le (fT m) (Nat.pow_le_pow_right zd hm))
theorem Je (s:Bool)(l:List UInt8)(N:Int)(hN: -(iv s l)=N)(w:World)(hl:l.length<=1099511627776):
 Calls Tryz.prog 107 #[.agg #[.bool s,.string (bs l)]] w λe w'=>e=.returned (cW N)/\Bw w w':=by
 subst hN;exact ZT s l w hl
theorem Qa (s:Bool)(l:List UInt8)(t:Bool)(m:List UInt8)(w:World)(hl:l.length<=34359738368)(hm:m.length<=34359738368):
 Calls Tryz.prog 109 #[.agg #[.bool s,.string (bs l)],.agg #[.bool t,.string (bs m)]] w λe w'=>e=.returned (cW (iv s l-iv t m))/\Bw w w':=by
 have hm2:=Eg t m 34359738368 hm;have He:Hid (iv s l+iv (ar (-(iv t m))) (nt (-(iv t m)).natAbs)=iv s l-iv t m):=by show _=_;rw[ft];omega
 generalize hN: -(iv t m)=N at*;have HN:=ah hN;clear hN;go_enter Tryz.func109,Tryz.ntmps109;have Hb:Hid (Bw w w):=Below.refl _ _;go_wp2_with fail;obtain⟨R,hR⟩:∃R:World->Prop,(λW=>ak W (w.heap.size) 28 [.bool s,.string (bs l)]/\ak W (w.heap.size+1) 28 [.bool t,.string (bs m)]/\ak W (w.heap.size+1+1) 28 [.bool false,.string (bs [])]/\Bw w W)=R:=⟨_,rfl⟩;first|refine bN R ?hR ?_|refine bL R ?hR ?_
 case hR=>subst hR;exact⟨(((ak.newAt w _ _ (b:=w.heap.size) rfl).alloc _).alloc _),((ak.newAt (w.alloc _) _ _ (b:=w.heap.size+1) zm).alloc _),(ak.newAt ((w.alloc _).alloc _) _ _ (b:=w.heap.size+1+1) zm),((zl.alloc zj _).alloc zj _)⟩
 subst hR;rintro W ⟨qx,qy,qr,ae⟩;have Hx:=ah qx;clear qx;have Hy:=ah qy;clear qy;have Hr:=ah qr;clear qr;obtain⟨x0,x1⟩:=Hx.out.c2;obtain⟨y0,y1⟩:=Hy.out.c2;obtain⟨r0,ai,r1,aj⟩:=Hr.out.g2;replace Hb:=az Hb ae;clear ae;have Ov:w.heap.size≠w.heap.size+1+1:=by omega
 have Yc:w.heap.size+1≠w.heap.size+1+1:=by omega
 go_region_held3 (λw'=>w'.cell? ⟨w.heap.size,0,none⟩=some (.bool s)/\w'.cell? ⟨w.heap.size,1,none⟩=some (.string (bs l))/\w'.cell? ⟨w.heap.size+1,0,none⟩=some (.bool t)/\w'.cell? ⟨w.heap.size+1,1,none⟩=some (.string (bs m))) (((try dsimp only);go_split_ands;(repeat' apply And.intro)<;>(first|exact True.intro|with_reducible assumption| ((with_reducible refine fF zg ?_);(repeat(with_reducible refine fF zg ?_));with_reducible assumption) |exact cell_later (by with_reducible assumption) (by with_reducible assumption) |exact aJ (by with_reducible assumption) |go_keep))) (first| (go_at_call 107;(with_reducible refine(Je t m N HN.out _ zo).mono ?_);rintro e w1 ⟨rfl,hq⟩;have hw1:Bw W w1:=(by first|exact aV hq|exact hq|exact qF hq|exact qE hq|exact tq hq);clear hq;have kz:=ah (Hx.out.below hw1);have yN:w1.cell? ⟨w.heap.size,0,none⟩=some (.bool s):=kz.out.cell 0;have yO:w1.cell? ⟨w.heap.size,1,none⟩=some (.string (bs l)):=kz.out.cell 1;have pj:=ah (Hy.out.below hw1);have EN:w1.cell? ⟨w.heap.size+1,0,none⟩=some (.bool t):=pj.out.cell 0;have EO:w1.cell? ⟨w.heap.size+1,1,none⟩=some (.string (bs m)):=pj.out.cell 1;have ib:=ah (Hr.out.below hw1);have yE:w1.cell? ⟨w.heap.size+1+1,0,none⟩=some (.bool false):=ib.out.cell 0;have xx:w1.frozen? ⟨w.heap.size+1+1,0,none⟩=false:=ib.out.free 0;have yF:w1.cell? ⟨w.heap.size+1+1,1,none⟩=some (.string (bs [])):=ib.out.cell 1;have xy:w1.frozen? ⟨w.heap.size+1+1,1,none⟩=false:=ib.out.free 1) | (go_at_call 76;(with_reducible refine(ZO s l (ar N) (nt N.natAbs) w1.heap.size 2 28 _ hl hm2 (by first|exact ak.drew (ak.new _ _ _) |exact ak.new _ _ _)).mono ?_);rintro e w2 ⟨rfl,hq⟩;have hw2:Bw w1 w2:=(by first|exact aV hq|exact hq|exact qF hq|exact qE hq|exact tq hq);clear hq;have xd:=ah (kz.out.below hw2);have Qh:w2.cell? ⟨w.heap.size,0,none⟩=some (.bool s):=xd.out.cell 0;have Qi:w2.cell? ⟨w.heap.size,1,none⟩=some (.string (bs l)):=xd.out.cell 1;have KU:=ah (pj.out.below hw2);have anz:w2.cell? ⟨w.heap.size+1,0,none⟩=some (.bool t):=KU.out.cell 0;have anA:w2.cell? ⟨w.heap.size+1,1,none⟩=some (.string (bs m)):=KU.out.cell 1;have qo:=ah (ib.out.below hw2);have OV:w2.cell? ⟨w.heap.size+1+1,0,none⟩=some (.bool false):=qo.out.cell 0;have LM:w2.frozen? ⟨w.heap.size+1+1,0,none⟩=false:=qo.out.free 0;have OW:w2.cell? ⟨w.heap.size+1+1,1,none⟩=some (.string (bs [])):=qo.out.cell 1;have LN:w2.frozen? ⟨w.heap.size+1+1,1,none⟩=false:=qo.out.free 1))
 replace Hb:=ah (aK Hb.out hw1);clear hw1;replace Hb:=ah (aK Hb.out hw2);clear hw2 x0 x1 y0 y1 r0 ai r1 aj;replace Hx:=xd;clear kz yN yO Qh Qi;replace Hy:=KU;clear pj EN EO anz anA;replace Hr:=qo;clear ib yE xx yF xy OV LM OW LN;obtain⟨x0,x1⟩:=Hx.out.c2;obtain⟨y0,y1⟩:=Hy.out.c2;obtain⟨r0,ai,r1,aj⟩:=Hr.out.g2;rw[He.out];go_wp2;refine bodyPost_ret (v:=cW (iv s l-iv t m)) (by simp[results,Tryz.results109,go_sem,r0,r1]) rfl ⟨rfl,?_⟩;(repeat first|exact Hb.out| (refine Below.setCell ?_ (by have:=Hb.out.size;first| (dsimp only;omega) | (show _<=_;omega) | (simp<;>omega)) _) | (refine Below.alloc ?_ zt _) |refine Below.drew ?_)
theorem am2 (s:Bool)(l:List UInt8)(t:Bool)(m:List UInt8)(w:World)(hl:l.length<=34359738368)(hm:m.length<=34359738368)(hd:(nt (iv s l-iv t m).natAbs).length<=1099511627776):
 Calls Tryz.prog 72 #[.agg #[.bool s,.string (bs l)],.agg #[.bool t,.string (bs m)]] w λe w'=>e=.returned (.int .i64 (ej (iv s l-iv t m)))/\Bw w w':=by
 have Hi:=ah (ft (iv s l-iv t m));go_enter Tryz.func72,Tryz.ntmps72;have Hb:Hid (Bw w w):=Below.refl _ _;go_wp2_with fail;obtain⟨R,hR⟩:∃R:World->Prop,(λW=>ak W (w.heap.size) 28 [.bool s,.string (bs l)]/\ak W (w.heap.size+1) 28 [.bool t,.string (bs m)]/\Bw w W)=R:=⟨_,rfl⟩;first|refine bN R ?hR ?_|refine bL R ?hR ?_
 case hR=>subst hR;exact⟨((ak.newAt w _ _ (b:=w.heap.size) rfl).alloc _),(ak.newAt (w.alloc _) _ _ (b:=w.heap.size+1) zm),(zl.alloc zj _)⟩
 subst hR;rintro W ⟨qx,qy,ae⟩;have Hx:=ah qx;clear qx;have Hy:=ah qy;clear qy;obtain⟨x0,x1⟩:=Hx.out.c2;obtain⟨y0,y1⟩:=Hy.out.c2;replace Hb:=az Hb ae;clear ae;go_wp2_with fail;refine(Qa s l t m _ hl hm).mono ?_;rintro e w1 ⟨rfl,ae⟩;clear x0 x1 y0 y1;replace Hx:=kB Hx ae;replace Hy:=kB Hy ae;obtain⟨x0,x1⟩:=Hx.out.c2;obtain⟨y0,y1⟩:=Hy.out.c2;replace Hb:=az Hb ae;clear ae;go_wp2_with fail;refine(EH (ar (iv s l-iv t m)) (nt (iv s l-iv t m).natAbs) _ hd).mono ?_;rintro e w2 ⟨rfl,ae⟩;clear x0 x1 y0 y1;replace Hx:=kB Hx ae;replace Hy:=kB Hy ae;obtain⟨x0,x1⟩:=Hx.out.c2;obtain⟨y0,y1⟩:=Hy.out.c2;replace Hb:=az Hb ae;clear ae;rw[Hi.out];go_wp2;go_ret;exact⟨rfl,Hb.out⟩
theorem PZ (s:Bool)(l:List UInt8)(n:Nat)(w:World)(hl:l.length<=68719476736)(hn:n<=549755813888):
 Calls Tryz.prog 106 #[.agg #[.bool s,.string (bs l)],.int .i64 (n:Int)] w λe w'=>e=.returned (cW (iv s l*2^n))/\Bw w w':=by
 have hlen:(nt (nv l*2^n)).length<=1099511627776:=by
  have h1:nv l*2^n<2^(8*l.length+n):=by rw[Nat.pow_add,Nat.pow_mul];exact Nat.mul_lt_mul_of_pos_right (fT l) (Nat.pow_pos zd)
  have h2:=gw h1;rw[aj8];omega
 have He:Hid (iv s (nt (nv l*2^n))=iv s l*2^n):=by
  show _=_
  rw[mL];unfold iv;cases s<;>simp[Int.natCast_mul,Int.natCast_pow,Int.neg_mul]
 go_enter Tryz.func106,Tryz.ntmps106;have Hb:Hid (Bw w w):=Below.refl _ _;go_wp2_with fail;obtain⟨R,hR⟩:∃R:World->Prop,(λW=>ak W (w.heap.size) 28 [.bool s,.string (bs l)]/\ak W (w.heap.size+1) 28 [.bool false,.string (bs [])]/\Bw w W)=R:=⟨_,rfl⟩;first|refine bN R ?hR ?_|refine bL R ?hR ?_
 case hR=>subst hR;exact⟨((ak.newAt w _ _ (b:=w.heap.size) rfl).alloc _),(ak.newAt (w.alloc _) _ _ (b:=w.heap.size+1) zm),(zl.alloc zj _)⟩
 subst hR;rintro W ⟨qx,qr,ae⟩;have Hx:=ah qx;clear qx;have Hr:=ah qr;clear qr;obtain⟨x0,x1⟩:=Hx.out.c2;obtain⟨r0,ai,r1,aj⟩:=Hr.out.g2;replace Hb:=az Hb ae;clear ae;have Ov:w.heap.size≠w.heap.size+1:=by omega
 go_region_held3 (λw'=>w'.cell? ⟨w.heap.size,0,none⟩=some (.bool s)/\w'.cell? ⟨w.heap.size,1,none⟩=some (.string (bs l))) (((try dsimp only);go_split_ands;(repeat' apply And.intro)<;>(first|exact True.intro|with_reducible assumption| ((with_reducible refine fF zg ?_);(repeat(with_reducible refine fF zg ?_));with_reducible assumption) |exact cell_later (by with_reducible assumption) (by with_reducible assumption) |exact aJ (by with_reducible assumption) |go_keep))) (first| (go_at_call 143;(with_reducible refine(ajV l n _ hl hn).mono ?_);rintro e w1 ⟨rfl,hq⟩;have hw1:Bw W w1:=(by first|exact aV hq|exact hq|exact qF hq|exact qE hq|exact tq hq);clear hq;have kz:=ah (Hx.out.below hw1);have yN:w1.cell? ⟨w.heap.size,0,none⟩=some (.bool s):=kz.out.cell 0;have yO:w1.cell? ⟨w.heap.size,1,none⟩=some (.string (bs l)):=kz.out.cell 1;have ib:=ah (Hr.out.below hw1);have yE:w1.cell? ⟨w.heap.size+1,0,none⟩=some (.bool false):=ib.out.cell 0;have xx:w1.frozen? ⟨w.heap.size+1,0,none⟩=false:=ib.out.free 0;have yF:w1.cell? ⟨w.heap.size+1,1,none⟩=some (.string (bs [])):=ib.out.cell 1;have xy:w1.frozen? ⟨w.heap.size+1,1,none⟩=false:=ib.out.free 1) | (go_at_call 112;(with_reducible refine(vO (nt (nv l*2^n)) s _ hlen).mono ?_);rintro e w2 ⟨rfl,hq⟩;have hw2:Bw w1 w2:=(by first|exact aV hq|exact hq|exact qF hq|exact qE hq|exact tq hq);clear hq;have xd:=ah (kz.out.below hw2);have Qh:w2.cell? ⟨w.heap.size,0,none⟩=some (.bool s):=xd.out.cell 0;have Qi:w2.cell? ⟨w.heap.size,1,none⟩=some (.string (bs l)):=xd.out.cell 1;have qo:=ah (ib.out.below hw2);have OV:w2.cell? ⟨w.heap.size+1,0,none⟩=some (.bool false):=qo.out.cell 0;have LM:w2.frozen? ⟨w.heap.size+1,0,none⟩=false:=qo.out.free 0;have OW:w2.cell? ⟨w.heap.size+1,1,none⟩=some (.string (bs [])):=qo.out.cell 1;have LN:w2.frozen? ⟨w.heap.size+1,1,none⟩=false:=qo.out.free 1))
 replace Hb:=ah (aK Hb.out hw1);clear hw1;replace Hb:=ah (aK Hb.out hw2);clear hw2 x0 x1 r0 ai r1 aj;replace Hx:=xd;clear kz yN yO Qh Qi;replace Hr:=qo;clear ib yE xx yF xy OV LM OW LN;obtain⟨x0,x1⟩:=Hx.out.c2;obtain⟨r0,ai,r1,aj⟩:=Hr.out.g2;rw[He.out];go_wp2;refine bodyPost_ret (v:=cW (iv s l*2^n)) (by simp[results,Tryz.results106,go_sem,r0,r1]) rfl ⟨rfl,?_⟩;(repeat first|exact Hb.out| (refine Below.setCell ?_ (by have:=Hb.out.size;first| (dsimp only;omega) | (show _<=_;omega) | (simp<;>omega)) _) | (refine Below.alloc ?_ zt _) |refine Below.drew ?_)
theorem PY (n N:Int)(hN:n=N)(w:World)(h0: -9223372036854775808<=n)(h1:n<=9223372036854775807):
 Calls Tryz.prog 74 #[.int .i64 n] w λe w'=>e=.returned (cW N)/\Bw w w':=by
 subst hN;exact PX n w h0 h1
def gU :List (Bool×List UInt8)->Int
 |[]=>1
 |x::xs=>iv x.1 x.2*gU xs
theorem ain (xs ys:List (Bool×List UInt8)):gU (xs++ys)=gU xs*gU ys:=by
 induction xs with
 |nil=>simp[gU]
 |cons x xs ih=>simp[gU,ih,Int.mul_assoc]
theorem aiq (xs:List (Bool×List UInt8))(k:Nat)(hk:k<xs.length):gU (xs.take (k+1))=gU (xs.take k) *iv xs[k].1 xs[k].2:=by rw[List.take_succ_eq_append_getElem hk,ain];simp[gU]
def oF (xs:List (Bool×List UInt8)):Nat:=(xs.map λx=>x.2.length).sum
theorem ail (xs:List (Bool×List UInt8))(k:Nat):oF (xs.take k)<=oF xs:=by
 unfold oF;induction xs generalizing k with
 |nil=>simp
 | cons x xs ih=>cases k with
   |zero=>simp
   |succ k=>simp only[List.take_succ_cons,List.map_cons,List.sum_cons];have:=ih k;omega
theorem aik (xs:List (Bool×List UInt8))(x)(h:x∈xs):x.2.length<=oF xs:=by
 unfold oF;induction xs with
 |nil=>simp at h
 | cons y xs ih=>
   simp at h⊢;rcases h with h|h
   . subst h;omega
   . have:=ih h;omega
theorem aip (xs:List (Bool×List UInt8)):(gU xs).natAbs<=256^oF xs:=by
 induction xs with
 |nil=>simp[gU,oF]
 | cons x xs ih=>
   simp only[gU,Int.natAbs_mul,nH];have h1:=fT x.2;have:oF (x::xs)=x.2.length+oF xs:=by simp[oF]
   rw[this,Nat.pow_add];exact Nat.mul_le_mul (Nat.le_of_lt h1) ih
theorem aio (xs:List (Bool×List UInt8))(N:Nat)(h:oF xs+1<=N):(nt (gU xs).natAbs).length<=N:=by refine ja (Nat.lt_of_le_of_lt (aip xs) ?_);exact Nat.pow_lt_pow_right zd zo
theorem am5 (xs:List (Bool×List UInt8))(a:Option Addr)(cap:Nat)(w:World)(hl:oF xs<=34359738368)(hx:xs.length<=1048576)
 (ha:At w a (xs.flatMap Iz)):
 Calls Tryz.prog 73 #[.slice a xs.length cap] w λe w'=>e=.returned (cW (gU xs))/\Bw w w':=by
 have Hl:=ah hl;clear hl;have Ha:=ah ha;clear ha;have wD:Hid (∀k,(nt (gU (xs.take k)).natAbs).length<=68719476736):=λk=>aio _ _ (by have:=ail xs k;have:=Hl.out;omega);obtain⟨one,hone⟩:∃one:Int,1=one:=⟨_,rfl⟩;have BU:=ah hone;clear hone;go_enter Tryz.func73,Tryz.ntmps73;have Hb:Hid (Bw w w):=Below.refl _ _;go_wp2_with fail;obtain⟨R,hR⟩:∃R:World->Prop,(λW=>ak W (w.heap.size) 28 [.bool false,.string (bs [])]/\Bw w W)=R:=⟨_,rfl⟩;first|refine bN R ?hR ?_|refine bL R ?hR ?_
 case hR=>subst hR;exact⟨(ak.newAt w _ _ (b:=w.heap.size) rfl),zl⟩
 subst hR;rintro W ⟨qr,ae⟩;have Hr:=ah qr;clear qr;obtain⟨r0,ai,r1,aj⟩:=Hr.out.g2;replace Hb:=az Hb ae;clear ae;go_wp2_with fail;refine(PY 1 one BU.out _ zo zo).mono ?_;rintro e w1 ⟨rfl,ae⟩;clear r0 ai r1 aj;replace Hr:=kB Hr ae;obtain⟨r0,ai,r1,aj⟩:=Hr.out.g2;replace Hb:=az Hb ae;clear ae;go_wp2_with fail;refine(Jg (nt one.natAbs) (ar one) _).mono ?_;rintro e w2 ⟨rfl,ae⟩;clear r0 ai r1 aj;replace Hr:=kB Hr ae;obtain⟨r0,ai,r1,aj⟩:=Hr.out.g2;replace Hb:=az Hb ae;clear ae;have ao6:w.heap.size<w2.heap.size:=Hr.out.lt;have ym:=Hr.out.lt;go_wp2_with fail;obtain⟨R,hR⟩:∃R:World->Prop,(λW2=>ak W2 (w2.heap.size) 137 [.string (bs (nt one.natAbs)),.bool (ar one)]/\Bw w2 W2)=R:=⟨_,rfl⟩;first|refine bN R ?hR ?_|refine bL R ?hR ?_
 case hR=>subst hR;exact⟨(ak.newAt w2 _ _ (b:=w2.heap.size) rfl),zl⟩
 subst hR;rintro W2 ⟨qs,ae⟩;have Hs:=ah qs;clear qs r0 ai r1 aj;replace Hr:=kB Hr ae;obtain⟨r0,ai,r1,aj⟩:=Hr.out.g2;obtain⟨s0,bW,s1,bX⟩:=Hs.out.g2;replace Hb:=az Hb ae;clear ae
 go_loopw[5,10] (λ_ i wr=>∃(k:Nat) (t:Bool),k<=xs.length/\i=.int .i64 k/\iv t (nt (gU (xs.take k)).natAbs)=gU (xs.take k)/\ak wr w.heap.size 28 [.bool false,.string (bs [])]/\
  ak wr w2.heap.size 137 [.string (bs (nt (gU (xs.take k)).natAbs)),.bool t]/\Bw w wr) (λ_ i _=>xs.length-(intOf i).toNat)
 case atStart=>
  have e:gU (xs.take 0)=one:=by rw[<-BU.out];simp[gU]
  refine⟨0,ar one,Nat.zero_le _,rfl,?_,Hr.out,?_,Hb.out⟩
  . rw[e];exact ft one
  . rw[e];exact Hs.out
 case round=>
  obtain⟨k,t,hk,rfl,gB,qr,qs,hb⟩:=hrel;replace Hr:=ah qr;replace Hs:=ah qs;replace Hb:=ah hb;have iU:=ah gB;clear qr qs hb gB r0 r1 ai aj s0 s1 bW bX;by_cases hlt:k<xs.length
  . obtain⟨b,o,hab,hcs⟩:=(Ha.out.below Hb.out).elem (f:=Iz) (sz:=2) (λ_=>rfl) zd k hlt;have hc0:wr.cell? ⟨b,o+k*2,none⟩=some (.bool xs[k].1):=hcs 0 zd;have hc1:wr.cell? ⟨b,o+k*2+1,none⟩=some (.string (bs xs[k].2)):=hcs 1 zd;have bE:=tY xs.length cap k (k:Int) hab hlt rfl;have cE:=ah (aiq xs k hlt);have kx:Hid (xs[k].2.length<=34359738368):=by have:=aik xs _ (List.getElem_mem hlt);have:=Hl.out;show _<=_;omega
    have jS:=ah (wD.out k);clear hcs hab;generalize xs[k]=x at*;obtain⟨t1,l1⟩:=x;generalize hS:gU (xs.take k)=S at*;have HS:=ah hS;clear hS;obtain⟨r0,ai,r1,aj⟩:=Hr.out.g2;obtain⟨s0,bW,s1,bX⟩:=Hs.out.g2;have Ec:=Hr.out.lt;have Oi:=Hs.out.lt;go_wp2_with fail;obtain⟨R,hR⟩:∃R:World->Prop,(λW1=>ak W1 (wr.heap.size) 28 [.bool t1,.string (bs l1)]/\Bw wr W1)=R:=⟨_,rfl⟩;first|refine bN R ?hR ?_|refine bL R ?hR ?_
    case hR=>subst hR;exact⟨(ak.newAt wr _ _ (b:=wr.heap.size) rfl),zl⟩
    subst hR;rintro W1 ⟨qa,ae⟩;have Ha:=ah qa;clear qa r0 ai r1 aj;replace Hr:=kB Hr ae;obtain⟨r0,ai,r1,aj⟩:=Hr.out.g2;clear s0 bW s1 bX;replace Hs:=kB Hs ae;obtain⟨s0,bW,s1,bX⟩:=Hs.out.g2;obtain⟨a0,a1⟩:=Ha.out.c2;replace Hb:=az Hb ae;clear ae;go_region_with (first| (go_at_call 110;refine(Jg l1 t1 _).mono ?_;rintro e w3 ⟨rfl,hq⟩;have hw3:Bw W1 w3:=aV hq;clear hq;have Px:=cell_later hw3 s0;have Pz:=cell_later hw3 s1;have agz:=(Hs.out.below hw3).free 0;have agB:=(Hs.out.below hw3).free 1) | (go_at_call 111;refine(amD (nt S.natAbs) l1 t t1 _ jS.out (by have:=kx.out;omega)).mono ?_;rintro e w4 ⟨rfl,hw4⟩;have alO:=cell_later hw4 Px;have alR:=cell_later hw4 Pz;have agA:=((Hs.out.below hw3).below hw4).free 0;have agC:=((Hs.out.below hw3).below hw4).free 1))
    all_goals
     go_wp2
     go_roundw
     case rel=>
      have hq:=aiv t (nt S.natAbs) t1 l1;rw[iU.out,<-cE.out]at hq;have hq2:nv (nt S.natAbs) *nv l1=(gU (xs.take (k+1))).natAbs:=by rw[cE.out,Int.natAbs_mul,nH,jb]
      rw[hq2]at hq⊢;refine⟨k+1,_,by omega,by go_num,hq,((((Hr.out.below hw3).below hw4).aqR ⟨w2.heap.size,0,none⟩ zp _).aqR ⟨w2.heap.size,1,none⟩ zp _),((((Hs.out.below hw3).below hw4).set 0 _).set 1 _),?_⟩;exact((aK (aK Hb.out hw3) hw4).setCell zp _).setCell zp _
     case measure=>simp[intOf];omega
  . obtain rfl:k=xs.length:=by omega
    rw[List.take_length]at Hs iU;have jS:=wD.out xs.length;rw[List.take_length]at jS;obtain⟨r0,ai,r1,aj⟩:=Hr.out.g2;obtain⟨s0,bW,s1,bX⟩:=Hs.out.g2;go_wp2_with fail;refine(vO (nt (gU xs).natAbs) t _ zo).mono ?_;rintro e w3 ⟨rfl,ae⟩;clear r0 ai r1 aj s0 bW s1 bX;replace Hr:=kB Hr ae;replace Hs:=kB Hs ae;obtain⟨r0,ai,r1,aj⟩:=Hr.out.g2;obtain⟨s0,bW,s1,bX⟩:=Hs.out.g2;replace Hb:=az Hb ae;clear ae;rw[iU.out];go_wp2;refine bodyPost_ret (v:=cW (gU xs)) (by simp[results,Tryz.results73,go_sem,r0,r1]) rfl ⟨rfl,?_⟩;(repeat first|exact Hb.out| (refine Below.setCell ?_ (by have:=Hb.out.size;first| (dsimp only;omega) | (show _<=_;omega) | (simp<;>omega)) _) | (refine Below.alloc ?_ zt _) |refine Below.drew ?_)
theorem ZG (v:Nat)(h:0<v):∃m,v=2^tz v* (2*m+1):=by
 induction v using Nat.strongRecOn with
 | _ v ih=>
   by_cases he:v%2=0
   . obtain⟨u,rfl⟩:∃u,v=2*u:=⟨v/2,by omega⟩;obtain⟨m,hm⟩:=ih u zo zo;refine⟨m,?_⟩;have e:tz (2*u)=tz u+1:=by unfold tz;rw[show((2*u:Nat):Int)=2* (u:Int)by omega];exact Int.trailingZeros_two_mul zo
     rw[e,Nat.pow_succ];conv=>lhs;rw[hm]
     rw[Nat.mul_comm (2^tz u) 2,Nat.mul_assoc]
   . refine⟨v/2,?_⟩;have e:tz v=0:=by unfold tz;exact Int.trailingZeros_eq_zero_of_mod_eq zo
     rw[e];omega
theorem ZE (v k:Nat)(h:0<v):tz v<k↔v%2^k≠0:=by
 obtain⟨m,hm⟩:=ZG v h;generalize tz v=c at*;constructor
 . intro hc h0;have hd:2^k∣v:=Nat.dvd_of_mod_eq_zero h0;have hd2:2^(c+1)∣v:=Nat.dvd_trans (Nat.pow_dvd_pow 2 hc) hd;rw[hm,Nat.pow_succ]at hd2;have:=Nat.dvd_of_mul_dvd_mul_left (Nat.pow_pos zd) hd2;omega
 . intro hne;rcases Nat.lt_or_ge c k with h1|h1
   . exact h1
   . exfalso;apply hne
     rw[hm];exact Nat.mod_eq_zero_of_dvd (Nat.dvd_trans (Nat.pow_dvd_pow 2 h1) (Nat.dvd_mul_right _ _))
theorem ajX (v k:Nat)(h:v%2^k=0): -(v:Int)/2^k= -((v/2^k:Nat):Int):=by
 obtain⟨q,rfl⟩:=Nat.dvd_of_mod_eq_zero h;have hp:=Nat.pow_pos (n:=k) (show 0<2 by decide);rw[Nat.mul_div_cancel_left _ hp];have e: -((2^k*q:Nat):Int)=2^k* (-(q:Int)):=by simp[Int.natCast_mul,Int.natCast_pow,Int.mul_neg]
 rw[e,Int.mul_ediv_cancel_left];have:((2^k:Nat):Int)≠0:=by omega
 simpa[Int.natCast_pow]using this
theorem ajY (v k:Nat)(h:v%2^k≠0): -(v:Int)/2^k= -((v/2^k:Nat):Int)-1:=by
 have hp:=Nat.pow_pos (n:=k) (show 0<2 by decide);have e:=(Nat.mod_add_div v (2^k)).symm;have hr:=Nat.mod_lt v hp;rw[show((2:Int)^k)=((2^k:Nat):Int)by simp[Int.natCast_pow]];generalize v%2^k=r at*;generalize v/2^k=q at*;generalize 2^k=p at*;subst e;have e2: -((r+p*q:Nat):Int)=((p:Int)-r)+p* (-(q:Int)-1):=by rw[Int.natCast_add,Int.natCast_mul,Int.mul_sub,Int.mul_neg,Int.mul_one];omega
 rw[e2,Int.add_mul_ediv_left _ _ zo,Int.ediv_eq_zero_of_lt zo zo];omega
theorem aj7 (l:List UInt8)(k B:Nat)(hl:l.length<=B):(nt (nv l/2^k)).length<=B:=ja (Nat.lt_of_le_of_lt (Nat.div_le_self _ _) (Nat.lt_of_lt_of_le (fT l) (Nat.pow_le_pow_right zd hl)))
theorem ZV (s:Bool)(l:List UInt8)(k:Nat)(w:World)(hl:l.length<=34359738368)(hk:0<k)(hk2:k<=1099511627776)(hT:aF w):
 Calls Tryz.prog 106 #[.agg #[.bool s,.string (bs l)],.int .i64 (-(k:Int))] w λe w'=>e=.returned (cW (iv s l/2^k))/\Bw w w':=by
 have hmax:max (-(k:Int)) (-1099511627776)= -(k:Int):=by omega
 have hlen:(nt (nv l/2^k)).length<=34359738368:=aj7 l k _ hl;obtain⟨Z,hZ⟩:=aB (nv l/2^k);have Ir:∀W,Calls Tryz.prog 144 #[.string (bs l),.int .i64 (k:Int)] W λe w'=>e=.returned (.string (bs (nt Z)))/\Bw W w':=λW=>by rw[<-hZ];exact ajW l k W zo hk2
 rw[hZ]at hlen;have HZ:=ah hZ;clear hZ;have acO:=ah Ir;clear Ir;obtain⟨M,hM⟩:=aB (iv s (nt Z));have HM:=ah hM;clear hM;have VY:∀W,Calls Tryz.prog 112 #[.agg #[.string (bs (nt Z)),.bool s]] W λe w'=>e=.returned (cW M)/\Bw W w':=λW=>by have:=vO (nt Z) s W zo;rw[HM.out]at this;exact this
 have abW:=ah VY;clear VY;go_enter Tryz.func106,Tryz.ntmps106;have Hb:Hid (Bw w w):=Below.refl _ _;go_upto_region 4 with fail
 go_wp2_with fail;obtain⟨R,hR⟩:∃R:World->Prop,(λW=>ak W (w.heap.size) 28 [.bool s,.string (bs l)]/\ak W (w.heap.size+1) 28 [.bool false,.string (bs [])]/\Bw w W)=R:=⟨_,rfl⟩;first|refine bN R ?hR ?_|refine bL R ?hR ?_
 case hR=>subst hR;exact⟨((ak.newAt w _ _ (b:=w.heap.size) rfl).alloc _),(ak.newAt (w.alloc _) _ _ (b:=w.heap.size+1) zm),(zl.alloc zj _)⟩
 subst hR;rintro W ⟨qx,qr,ae⟩;have Hx:=ah qx;clear qx;have Hr:=ah qr;clear qr;obtain⟨x0,x1⟩:=Hx.out.c2;obtain⟨r0,ai,r1,aj⟩:=Hr.out.g2;replace Hb:=az Hb ae;clear ae;go_cut[5] (λs5 wx=>∃g:Nat,s5=.pointer (some ⟨g,0,none⟩)/\w.heap.size+1<g/\ak wx w.heap.size 28 [.bool s,.string (bs l)]/\ak wx (w.heap.size+1) 28 [.bool false,.string (bs [])]/\ak wx g 28 [.bool (ar M),.string (bs (nt M.natAbs))]/\Bw w wx);case first=>
  have hxW:w.heap.size<W.heap.size:=Hx.out.lt;have hrW:w.heap.size+1<W.heap.size:=Hr.out.lt;have hwk:IntKind.i64.wrap (k:Int)=(k:Int):=by rw[IntKind.wrap_i64];omega
  go_region_held3 (λw'=>w'.cell? ⟨w.heap.size,0,none⟩=some (.bool s)/\w'.cell? ⟨w.heap.size,1,none⟩=some (.string (bs l))) (((try dsimp only);go_split_ands;(repeat' apply And.intro)<;>(first|with_reducible assumption|exact aJ (by with_reducible assumption) |exact Lp (by with_reducible assumption) |exact Lp (aJ (by with_reducible assumption)) | ((with_reducible refine fF zf ?_);(repeat(with_reducible refine fF zf ?_));first|with_reducible assumption|exact aJ (by with_reducible assumption) |exact Lp (by with_reducible assumption)) |go_keep))) (first| (go_at_call 144;(with_reducible refine(acO.out _).mono ?_);rintro e w1 ⟨rfl,hq⟩;(first| (have hw1:Bw W w1:=aV hq) | (have hw1:Bw W w1:=tq hq;have BP:=ah (ak.below (ak.drew (ak.new W 28 [.bool false,.string (bs [])])) hq);have aqm:w1.cell? ⟨W.heap.size,0,none⟩=some (.bool false):=BP.out.cell 0;have aqn:w1.cell? ⟨W.heap.size,1,none⟩=some (.string (bs [])):=BP.out.cell 1;have an9:=BP.out.free 0;have aoa:=BP.out.free 1));clear hq;have zs1:=hw1.size;obtain⟨KT,acG⟩:=aM (Hx.out.below hw1) (Hr.out.below hw1);have aqE:w1.cell? ⟨w.heap.size,0,none⟩=some (.bool s):=KT.out.cell 0;have aqG:w1.cell? ⟨w.heap.size,1,none⟩=some (.string (bs l)):=KT.out.cell 1) | (go_at_call 112;(with_reducible refine(abW.out _).mono ?_);rintro e w2 ⟨rfl,hq⟩;(first| (have hw2:Bw w1 w2:=hq;(try(have qj:=ah (ak.below BP.out hq);have ajI:w2.cell? ⟨W.heap.size,0,none⟩=some (.bool false):=qj.out.cell 0;have ajL:w2.cell? ⟨W.heap.size,1,none⟩=some (.string (bs [])):=qj.out.cell 1;have agm:=qj.out.free 0;have agn:=qj.out.free 1))) | (have hw2:Bw w1 w2:=qE hq;have qj:=ah (ak.below (ak.new w1 28 [.bool false,.string (bs [])]) hq);have ajI:w2.cell? ⟨w1.heap.size,0,none⟩=some (.bool false):=qj.out.cell 0;have ajL:w2.cell? ⟨w1.heap.size,1,none⟩=some (.string (bs [])):=qj.out.cell 1;have agm:=qj.out.free 0;have agn:=qj.out.free 1));clear hq;have zs2:=hw2.size;obtain⟨Cj,KC⟩:=aM (KT.out.below hw2) (acG.out.below hw2);have aqF:w2.cell? ⟨w.heap.size,0,none⟩=some (.bool s):=Cj.out.cell 0;have aqH:w2.cell? ⟨w.heap.size,1,none⟩=some (.string (bs l)):=Cj.out.cell 1))
  all_goals(go_wp2_with fail;go_meet)
  . exact⟨w2.heap.size,rfl,by omega,Cj.out.alloc _,KC.out.alloc _,ak.new _ _ _,(aK (aK Hb.out hw1) hw2).alloc zo _⟩
  . exact⟨w1.heap.size,rfl,by omega,((Cj.out.aqR ⟨w1.heap.size,0,none⟩ (by first| (dsimp only;omega) |omega| (simp<;>omega)) _).aqR ⟨w1.heap.size,1,none⟩ (by first| (dsimp only;omega) |omega| (simp<;>omega)) _),((KC.out.aqR ⟨w1.heap.size,0,none⟩ (by first| (dsimp only;omega) |omega| (simp<;>omega)) _).aqR ⟨w1.heap.size,1,none⟩ (by first| (dsimp only;omega) |omega| (simp<;>omega)) _),((qj.out.set 0 _).set 1 _),((aK (aK Hb.out hw1) hw2).setCell (by first| (dsimp only;omega) |omega| (simp<;>omega)) _).setCell (by first| (dsimp only;omega) |omega| (simp<;>omega)) _⟩
  . exact⟨W.heap.size,rfl,hrW,((Cj.out.aqR ⟨W.heap.size,0,none⟩ (by first| (dsimp only;omega) |omega| (simp<;>omega)) _).aqR ⟨W.heap.size,1,none⟩ (by first| (dsimp only;omega) |omega| (simp<;>omega)) _),((KC.out.aqR ⟨W.heap.size,0,none⟩ (by first| (dsimp only;omega) |omega| (simp<;>omega)) _).aqR ⟨W.heap.size,1,none⟩ (by first| (dsimp only;omega) |omega| (simp<;>omega)) _),((qj.out.set 0 _).set 1 _),((aK (aK Hb.out hw1) hw2).setCell (by first| (dsimp only;omega) |omega| (simp<;>omega)) _).setCell (by first| (dsimp only;omega) |omega| (simp<;>omega)) _⟩
 case rest=>
  obtain⟨g,rfl,hg,qx,qr,qn,qb⟩:=hcut;replace Hx:=ah qx;replace Hr:=ah qr;have Hn:=ah qn;replace Hb:=ah qb;clear qx qr qn qb x0 x1 r0 r1 ai aj;cases s
  . obtain ⟨x0,x1⟩:=Hx.out.c2;obtain⟨r0,ai,r1,aj⟩:=Hr.out.g2;obtain⟨n0,n1⟩:=Hn.out.c2;have gv:Hid (iv false l/2^k=M):=by
     show _=_
     rw[<-HM.out,<-HZ.out,mL];unfold iv;simp[Int.natCast_pow]
    go_wp2;refine bodyPost_ret (v:=cW M) (by simp[results,Tryz.results106,go_sem,r0,r1]) rfl ⟨by rw[gv.out],?_⟩;(repeat first|exact Hb.out| (refine Below.setCell ?_ (by have:=Hb.out.size;first| (dsimp only;omega) | (show _<=_;omega) | (simp<;>omega)) _) | (refine Below.alloc ?_ zt _) |refine Below.drew ?_)
  . obtain⟨x0,x1⟩:=Hx.out.c2;obtain⟨r0,ai,r1,aj⟩:=Hr.out.g2;obtain⟨n0,n1⟩:=Hn.out.c2;have oU:Hid (l.length<=68719476736):=by show _<=_;omega
    by_cases h0:nv l=0
    . have hb0:bC (nv l)=0:=by rw[h0];rfl
      have gv:Hid (iv true l/2^k=M):=by
       show _=_
       rw[<-HM.out,<-HZ.out,mL,h0];unfold iv;simp[h0]
      have gL:=ah hb0;clear hb0;go_wp2_with fail;refine(Ot l _ oU.out).mono ?_;rintro e w3 ⟨rfl,ae⟩;clear x0 x1 r0 ai r1 aj n0 n1;replace Hx:=kB Hx ae;replace Hr:=kB Hr ae;replace Hn:=kB Hn ae;obtain⟨x0,x1⟩:=Hx.out.c2;obtain⟨r0,ai,r1,aj⟩:=Hr.out.g2;obtain⟨n0,n1⟩:=Hn.out.c2;replace Hb:=az Hb ae;clear ae;rw[gL.out];go_wp2;refine bodyPost_ret (v:=cW M) (by simp[results,Tryz.results106,go_sem,r0,r1]) rfl ⟨by rw[gv.out],?_⟩;(repeat first|exact Hb.out| (refine Below.setCell ?_ (by have:=Hb.out.size;first| (dsimp only;omega) | (show _<=_;omega) | (simp<;>omega)) _) | (refine Below.alloc ?_ zt _) |refine Below.drew ?_)
    . have hbp:0<bC (nv l):=Cu zo;have Bq:Hid (aF wc):=hT.below Hb.out;by_cases hz:tz (nv l)<k
      . have gv:Hid (iv true l/2^k=M-1):=by
         show _=_
         rw[<-HM.out,<-HZ.out,mL];have:=(ZE (nv l) k zo).1 hz;unfold iv;simp only[if_true];exact ajY _ _ this
        have HMl:Hid ((nt M.natAbs).length<=34359738368):=by show _<=_;rw[<-HM.out,nH,jb];exact hlen
        obtain⟨one,hone⟩:∃one:Int,1=one:=⟨_,rfl⟩;have Hol:Hid ((nt one.natAbs).length<=34359738368):=by show _<=_;rw[<-hone];exact Nat.le_trans (ja (k:=1) zd) zd
        have BU:=ah hone;clear hone;have acT:Hid (iv (ar M) (nt M.natAbs)-iv (ar one) (nt one.natAbs)=M-1):=by show _=_;rw[ft,ft,<-BU.out]
        go_wp2_with fail;refine(Ot l _ oU.out).mono ?_;rintro e w3 ⟨rfl,ae⟩;clear x0 x1 r0 ai r1 aj n0 n1;replace Hx:=kB Hx ae;replace Hr:=kB Hr ae;replace Hn:=kB Hn ae;obtain⟨x0,x1⟩:=Hx.out.c2;obtain⟨r0,ai,r1,aj⟩:=Hr.out.g2;obtain⟨n0,n1⟩:=Hn.out.c2;replace Hb:=az Hb ae;clear ae;replace Bq:=ah (hT.below Hb.out);go_wp2_with fail;refine(Ou l _ oU.out Bq.out).mono ?_;rintro e w4 ⟨rfl,ae⟩;clear x0 x1 r0 ai r1 aj n0 n1;replace Hx:=kB Hx ae;replace Hr:=kB Hr ae;replace Hn:=kB Hn ae;obtain⟨x0,x1⟩:=Hx.out.c2;obtain⟨r0,ai,r1,aj⟩:=Hr.out.g2;obtain⟨n0,n1⟩:=Hn.out.c2;replace Hb:=az Hb ae;clear ae;go_wp2_with fail;have nen:g≠w.heap.size+1:=by omega
        go_region_held3 (λw'=>w'.cell? ⟨g,0,none⟩=some (.bool (ar M))/\w'.cell? ⟨g,1,none⟩=some (.string (bs (nt M.natAbs)))) (((try dsimp only);go_split_ands;(repeat' apply And.intro)<;>(first|exact True.intro|with_reducible assumption| ((with_reducible refine fF zg ?_);(repeat(with_reducible refine fF zg ?_));with_reducible assumption) |exact cell_later (by with_reducible assumption) (by with_reducible assumption) |exact aJ (by with_reducible assumption) |go_keep))) (first| (go_at_call 74;(with_reducible refine(PY 1 one BU.out _ zo zo).mono ?_);rintro e w5 ⟨rfl,hq⟩;have di:Bw w4 w5:=(by first|exact aV hq|exact hq|exact qF hq|exact qE hq|exact tq hq);clear hq;obtain⟨Sk,zq⟩:=aM (Hx.out.below di) (Hr.out.below di);have ak4:w5.cell? ⟨w.heap.size+1,0,none⟩=some (.bool false):=zq.out.cell 0;have agt:w5.frozen? ⟨w.heap.size+1,0,none⟩=false:=zq.out.free 0;have ak6:w5.cell? ⟨w.heap.size+1,1,none⟩=some (.string (bs [])):=zq.out.cell 1;have agv:w5.frozen? ⟨w.heap.size+1,1,none⟩=false:=zq.out.free 1;have Fz:=ah (Hn.out.below di);have ajJ:w5.cell? ⟨g,0,none⟩=some (.bool (ar M)):=Fz.out.cell 0;have ajM:w5.cell? ⟨g,1,none⟩=some (.string (bs (nt M.natAbs))):=Fz.out.cell 1) | (go_at_call 109;(with_reducible refine(Qa (ar M) (nt M.natAbs) (ar one) (nt one.natAbs) _ HMl.out Hol.out).mono ?_);rintro e w6 ⟨rfl,hq⟩;have DR:Bw w5 w6:=(by first|exact aV hq|exact hq|exact qF hq|exact qE hq|exact tq hq);clear hq;obtain⟨adb,Ca⟩:=aM (Sk.out.below DR) (zq.out.below DR);have ak5:w6.cell? ⟨w.heap.size+1,0,none⟩=some (.bool false):=Ca.out.cell 0;have agu:w6.frozen? ⟨w.heap.size+1,0,none⟩=false:=Ca.out.free 0;have ak7:w6.cell? ⟨w.heap.size+1,1,none⟩=some (.string (bs [])):=Ca.out.cell 1;have agw:w6.frozen? ⟨w.heap.size+1,1,none⟩=false:=Ca.out.free 1;have Km:=ah (Fz.out.below DR);have ajK:w6.cell? ⟨g,0,none⟩=some (.bool (ar M)):=Km.out.cell 0;have ajN:w6.cell? ⟨g,1,none⟩=some (.string (bs (nt M.natAbs))):=Km.out.cell 1))
        replace Hb:=ah (aK Hb.out di);clear di;replace Hb:=ah (aK Hb.out DR);clear DR x0 x1 r0 ai r1 aj n0 n1;replace Hx:=adb;clear Sk;replace Hr:=Ca;clear zq ak4 agt ak6 agv ak5 agu ak7 agw;replace Hn:=Km;clear Fz ajJ ajM ajK ajN;obtain⟨x0,x1⟩:=Hx.out.c2;obtain⟨r0,ai,r1,aj⟩:=Hr.out.g2;obtain⟨n0,n1⟩:=Hn.out.c2;rw[acT.out];go_wp2;refine bodyPost_ret (v:=cW (M-1)) (by simp[results,Tryz.results106,go_sem,r0,r1]) rfl ⟨by rw[gv.out],?_⟩;(repeat first|exact Hb.out| (refine Below.setCell ?_ (by have:=Hb.out.size;first| (dsimp only;omega) | (show _<=_;omega) | (simp<;>omega)) _) | (refine Below.alloc ?_ zt _) |refine Below.drew ?_)
      . have gv:Hid (iv true l/2^k=M):=by
         show _=_
         rw[<-HM.out,<-HZ.out,mL];have h2:nv l%2^k=0:=by
          rcases Nat.eq_zero_or_pos (nv l%2^k)with h|h
          . exact h
          . exact absurd ((ZE (nv l) k zo).2 zo) hz
         unfold iv;simp only[if_true];exact ajX _ _ h2
        go_wp2_with fail;refine(Ot l _ oU.out).mono ?_;rintro e w3 ⟨rfl,ae⟩;clear x0 x1 r0 ai r1 aj n0 n1;replace Hx:=kB Hx ae;replace Hr:=kB Hr ae;replace Hn:=kB Hn ae;obtain⟨x0,x1⟩:=Hx.out.c2;obtain⟨r0,ai,r1,aj⟩:=Hr.out.g2;obtain⟨n0,n1⟩:=Hn.out.c2;replace Hb:=az Hb ae;clear ae;replace Bq:=ah (hT.below Hb.out);go_wp2_with fail;refine(Ou l _ oU.out Bq.out).mono ?_;rintro e w4 ⟨rfl,ae⟩;clear x0 x1 r0 ai r1 aj n0 n1;replace Hx:=kB Hx ae;replace Hr:=kB Hr ae;replace Hn:=kB Hn ae;obtain⟨x0,x1⟩:=Hx.out.c2;obtain⟨r0,ai,r1,aj⟩:=Hr.out.g2;obtain⟨n0,n1⟩:=Hn.out.c2;replace Hb:=az Hb ae;clear ae;go_wp2;refine bodyPost_ret (v:=cW M) (by simp[results,Tryz.results106,go_sem,r0,r1]) rfl ⟨by rw[gv.out],?_⟩;(repeat first|exact Hb.out| (refine Below.setCell ?_ (by have:=Hb.out.size;first| (dsimp only;omega) | (show _<=_;omega) | (simp<;>omega)) _) | (refine Below.alloc ?_ zt _) |refine Below.drew ?_)
end Go.Proofs.YtdaadlblknpipaaGreatDoor
