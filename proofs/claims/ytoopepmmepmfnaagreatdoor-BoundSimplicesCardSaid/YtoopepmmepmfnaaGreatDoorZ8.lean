/- Package whole,on: Sub,Cmp,Mul,Shift. -/
import Derived.Test.YtoopepmmepmfnaaGreatDoorZ6
import Derived.Deep.DeepCutAuto
set_option linter.unusedVariables false
set_option linter.unusedSimpArgs false
set_option maxRecDepth 100000
set_option maxHeartbeats 16000000
namespace Go.Proofs.YtoopepmmepmfnaaGreatDoor
open Go.RowKit
attribute [local go_sem ↓] Go.wp_at_zero Go.wp_at_succ
theorem adx (s:Bool)(l:List UInt8)(t:Bool)(m:List UInt8)(b cap:Nat)(ty:TypeId)(w:World)(hl:l.length<=34359738368)(hm:m.length<=34359738368)
 (ha:ar w b ty [ag s,ah l,ag t,ah m]):
 Calls Tryz.prog 68 #[.slice (some ⟨b,0,none⟩) 2 cap] w λe w'=>e=.returned (cX (iv s l+iv t m))/\Bw w w':=by
 have:=arG [(s,l),(t,m)] (some ⟨b,0,none⟩) cap w (by simp[hl,hm]) zm (At.aw2 ha);have e:mr [(s,l),(t,m)]=iv s l+iv t m:=by simp[mr]
 rw[e]at this;exact this
theorem Ic (s:Bool)(m:List UInt8)(B:Nat)(hm:m.length<=B):(nt (-(iv s m)).natAbs).length<=B:=by rw[Int.natAbs_neg,pk];exact jr (Nat.lt_of_lt_of_le (gL m) (Nat.pow_le_pow_right zd hm))
theorem Ms (s:Bool)(l:List UInt8)(N:Int)(hN: -(iv s l)=N)(w:World)(hl:l.length<=1099511627776):
 Calls Tryz.prog 78 #[.agg #[ag s,ah l]] w λe w'=>e=.returned (cX N)/\Bw w w':=by
 subst hN;exact adB s l w hl
theorem Mv (s:Bool)(l:List UInt8)(t:Bool)(m:List UInt8)(w:World)(hl:l.length<=34359738368)(hm:m.length<=34359738368):
 Calls Tryz.prog 37 #[.agg #[.bool s,.string (bs l)],.agg #[.bool t,.string (bs m)]] w λe w'=>e=.returned (cX (iv s l-iv t m))/\Bw w w':=by
 have hm2:=Ic t m 34359738368 hm;have He:Hid (iv s l+iv (au (-(iv t m))) (nt (-(iv t m)).natAbs)=iv s l-iv t m):=by show _=_;rw[eX];omega
 generalize hN: -(iv t m)=N at*;have HN:=ai hN;clear hN;go_enter Tryz.func37,Tryz.ntmps37;have Hb:Hid (Bw w w):=Below.refl _ _;go_wp2_with fail;obtain⟨R,hR⟩:∃R:World->Prop,(λW=>ar W (w.heap.size) 32 [.bool s,.string (bs l)]/\ar W (w.heap.size+1) 32 [.bool t,.string (bs m)]/\ar W (w.heap.size+1+1) 32 [.bool false,.string (bs [])]/\Bw w W)=R:=⟨_,rfl⟩;first|refine cf R ?hR ?_|refine bZ R ?hR ?_
 case hR=>subst hR;exact⟨(((ar.newAt w _ _ (b:=w.heap.size) rfl).alloc _).alloc _),((ar.newAt (w.alloc _) _ _ (b:=w.heap.size+1) zm).alloc _),(ar.newAt ((w.alloc _).alloc _) _ _ (b:=w.heap.size+1+1) zm),((zl.alloc zj _).alloc zj _)⟩
 subst hR;rintro W ⟨qx,qy,qr,ae⟩;have Hx:=ai qx;clear qx;have Hy:=ai qy;clear qy;have Hr:=ai qr;clear qr;obtain⟨x0,x1⟩:=Hx.out.c2;obtain⟨y0,y1⟩:=Hy.out.c2;obtain⟨r0,aj,r1,ak⟩:=Hr.out.g2;replace Hb:=aB Hb ae;clear ae;have Sp:w.heap.size≠w.heap.size+1+1:=by omega
 have ney:w.heap.size+1≠w.heap.size+1+1:=by omega
 go_region_held3 (λw'=>w'.cell? ⟨w.heap.size,0,none⟩=some (.bool s)/\w'.cell? ⟨w.heap.size,1,none⟩=some (.string (bs l))/\w'.cell? ⟨w.heap.size+1,0,none⟩=some (.bool t)/\w'.cell? ⟨w.heap.size+1,1,none⟩=some (.string (bs m))) (((try dsimp only);go_split_ands;(repeat' apply And.intro)<;>(first|exact True.intro|with_reducible assumption| ((with_reducible refine gG zg ?_);(repeat(with_reducible refine gG zg ?_));with_reducible assumption) |exact cell_later (by with_reducible assumption) (by with_reducible assumption) |exact aL (by with_reducible assumption) |go_keep))) (first| (go_at_call 78;(with_reducible refine(Ms t m N HN.out _ zo).mono ?_);rintro e w1 ⟨rfl,hq⟩;have hw1:Bw W w1:=(by first|exact aW hq|exact hq|exact rE hq|exact sQ hq|exact vA hq);clear hq;have lL:=ai (Hx.out.below hw1);have Bo:w1.cell? ⟨w.heap.size,0,none⟩=some (.bool s):=lL.out.cell 0;have Bq:w1.cell? ⟨w.heap.size,1,none⟩=some (.string (bs l)):=lL.out.cell 1;have rD:=ai (Hy.out.below hw1);have IM:w1.cell? ⟨w.heap.size+1,0,none⟩=some (.bool t):=rD.out.cell 0;have IP:w1.cell? ⟨w.heap.size+1,1,none⟩=some (.string (bs m)):=rD.out.cell 1;have iJ:=ai (Hr.out.below hw1);have Bb:w1.cell? ⟨w.heap.size+1+1,0,none⟩=some (.bool false):=iJ.out.cell 0;have zL:w1.frozen? ⟨w.heap.size+1+1,0,none⟩=false:=iJ.out.free 0;have Bc:w1.cell? ⟨w.heap.size+1+1,1,none⟩=some (.string (bs [])):=iJ.out.cell 1;have zM:w1.frozen? ⟨w.heap.size+1+1,1,none⟩=false:=iJ.out.free 1) | (go_at_call 68;(with_reducible refine(adx s l (au N) (nt N.natAbs) w1.heap.size 2 32 _ hl hm2 (by first|exact ar.drew (ar.new _ _ _) |exact ar.new _ _ _)).mono ?_);rintro e w2 ⟨rfl,hq⟩;have hw2:Bw w1 w2:=(by first|exact aW hq|exact hq|exact rE hq|exact sQ hq|exact vA hq);clear hq;have zh:=ai (lL.out.below hw2);have TG:w2.cell? ⟨w.heap.size,0,none⟩=some (.bool s):=zh.out.cell 0;have TI:w2.cell? ⟨w.heap.size,1,none⟩=some (.string (bs l)):=zh.out.cell 1;have Og:=ai (rD.out.below hw2);have ar9:w2.cell? ⟨w.heap.size+1,0,none⟩=some (.bool t):=Og.out.cell 0;have asa:w2.cell? ⟨w.heap.size+1,1,none⟩=some (.string (bs m)):=Og.out.cell 1;have sK:=ai (iJ.out.below hw2);have SJ:w2.cell? ⟨w.heap.size+1+1,0,none⟩=some (.bool false):=sK.out.cell 0;have Pm:w2.frozen? ⟨w.heap.size+1+1,0,none⟩=false:=sK.out.free 0;have SK:w2.cell? ⟨w.heap.size+1+1,1,none⟩=some (.string (bs [])):=sK.out.cell 1;have Pn:w2.frozen? ⟨w.heap.size+1+1,1,none⟩=false:=sK.out.free 1))
 replace Hb:=ai (aJ Hb.out hw1);clear hw1;replace Hb:=ai (aJ Hb.out hw2);clear hw2 x0 x1 y0 y1 r0 aj r1 ak;replace Hx:=zh;clear lL Bo Bq TG TI;replace Hy:=Og;clear rD IM IP ar9 asa;replace Hr:=sK;clear iJ Bb zL Bc zM SJ Pm SK Pn;obtain⟨x0,x1⟩:=Hx.out.c2;obtain⟨y0,y1⟩:=Hy.out.c2;obtain⟨r0,aj,r1,ak⟩:=Hr.out.g2;rw[He.out];go_wp2;exact bodyPost_ret (v:=cX (iv s l-iv t m)) (by simp[results,Tryz.results37,go_sem,r0,r1]) rfl ⟨rfl,df⟩
theorem arJ (s:Bool)(l:List UInt8)(t:Bool)(m:List UInt8)(w:World)(hl:l.length<=34359738368)(hm:m.length<=34359738368)(hd:(nt (iv s l-iv t m).natAbs).length<=1099511627776):
 Calls Tryz.prog 67 #[.agg #[ag s,ah l],.agg #[ag t,ah m]] w λe w'=>e=.returned (af (eQ (iv s l-iv t m)))/\Bw w w':=by
 have Hi:=ai (eX (iv s l-iv t m));go_enter Tryz.func67,Tryz.ntmps67;have Hb:Hid (Bw w w):=Below.refl _ _;go_wp2_with fail;obtain⟨R,hR⟩:∃R:World->Prop,(λW=>ar W (w.heap.size) 32 [ag s,ah l]/\ar W (w.heap.size+1) 32 [ag t,ah m]/\Bw w W)=R:=⟨_,rfl⟩;first|refine cf R ?hR ?_|refine bZ R ?hR ?_
 case hR=>subst hR;exact⟨((ar.newAt w _ _ (b:=w.heap.size) rfl).alloc _),(ar.newAt (w.alloc _) _ _ (b:=w.heap.size+1) zm),(zl.alloc zj _)⟩
 subst hR;rintro W ⟨qx,qy,ae⟩;have Hx:=ai qx;clear qx;have Hy:=ai qy;clear qy;obtain⟨x0,x1⟩:=Hx.out.c2;obtain⟨y0,y1⟩:=Hy.out.c2;replace Hb:=aB Hb ae;clear ae;go_wp2_with fail;refine(Mv s l t m _ hl hm).mono ?_;rintro e w1 ⟨rfl,ae⟩;clear x0 x1 y0 y1;obtain⟨Hx,x0,x1⟩:=aR Hx ae;obtain⟨Hy,y0,y1⟩:=aR Hy ae;replace Hb:=aB Hb ae;clear ae;go_wp2_with fail;refine(IJ (au (iv s l-iv t m)) (nt (iv s l-iv t m).natAbs) _ hd).mono ?_;rintro e w2 ⟨rfl,ae⟩;clear x0 x1 y0 y1;obtain⟨Hx,x0,x1⟩:=aR Hx ae;obtain⟨Hy,y0,y1⟩:=aR Hy ae;replace Hb:=aB Hb ae;clear ae;rw[Hi.out];go_wp2;go_ret;exact⟨rfl,Hb.out⟩
theorem Mu (s:Bool)(l:List UInt8)(n:Nat)(w:World)(hl:l.length<=68719476736)(hn:n<=549755813888):
 Calls Tryz.prog 38 #[.agg #[.bool s,.string (bs l)],.int .i64 (n:Int)] w λe w'=>e=.returned (cX (iv s l*2^n))/\Bw w w':=by
 have hlen:(nt (nv l*2^n)).length<=1099511627776:=by
  have h1:nv l*2^n<2^(8*l.length+n):=by rw[Nat.pow_add,Nat.pow_mul];exact Nat.mul_lt_mul_of_pos_right (gL l) (Nat.pow_pos zd)
  have h2:=ia h1;rw[aop];omega
 have He:Hid (iv s (nt (nv l*2^n))=iv s l*2^n):=by
  show _=_
  rw[mU];unfold iv;cases s<;>simp[Int.natCast_mul,Int.natCast_pow,Int.neg_mul]
 go_enter Tryz.func38,Tryz.ntmps38;have Hb:Hid (Bw w w):=Below.refl _ _;go_wp2_with fail;obtain⟨R,hR⟩:∃R:World->Prop,(λW=>ar W (w.heap.size) 32 [.bool s,.string (bs l)]/\ar W (w.heap.size+1) 32 [.bool false,.string (bs [])]/\Bw w W)=R:=⟨_,rfl⟩;first|refine cf R ?hR ?_|refine bZ R ?hR ?_
 case hR=>subst hR;exact⟨((ar.newAt w _ _ (b:=w.heap.size) rfl).alloc _),(ar.newAt (w.alloc _) _ _ (b:=w.heap.size+1) zm),(zl.alloc zj _)⟩
 subst hR;rintro W ⟨qx,qr,ae⟩;have Hx:=ai qx;clear qx;have Hr:=ai qr;clear qr;obtain⟨x0,x1⟩:=Hx.out.c2;obtain⟨r0,aj,r1,ak⟩:=Hr.out.g2;replace Hb:=aB Hb ae;clear ae;have Sp:w.heap.size≠w.heap.size+1:=by omega
 go_region_held3 (λw'=>w'.cell? ⟨w.heap.size,0,none⟩=some (.bool s)/\w'.cell? ⟨w.heap.size,1,none⟩=some (.string (bs l))) (((try dsimp only);go_split_ands;(repeat' apply And.intro)<;>(first|exact True.intro|with_reducible assumption| ((with_reducible refine gG zg ?_);(repeat(with_reducible refine gG zg ?_));with_reducible assumption) |exact cell_later (by with_reducible assumption) (by with_reducible assumption) |exact aL (by with_reducible assumption) |go_keep))) (first| (go_at_call 79;(with_reducible refine(aof l n _ hl hn).mono ?_);rintro e w1 ⟨rfl,hq⟩;have hw1:Bw W w1:=(by first|exact aW hq|exact hq|exact rE hq|exact sQ hq|exact vA hq);clear hq;have lL:=ai (Hx.out.below hw1);have Bo:w1.cell? ⟨w.heap.size,0,none⟩=some (.bool s):=lL.out.cell 0;have Bq:w1.cell? ⟨w.heap.size,1,none⟩=some (.string (bs l)):=lL.out.cell 1;have iJ:=ai (Hr.out.below hw1);have Bb:w1.cell? ⟨w.heap.size+1,0,none⟩=some (.bool false):=iJ.out.cell 0;have zL:w1.frozen? ⟨w.heap.size+1,0,none⟩=false:=iJ.out.free 0;have Bc:w1.cell? ⟨w.heap.size+1,1,none⟩=some (.string (bs [])):=iJ.out.cell 1;have zM:w1.frozen? ⟨w.heap.size+1,1,none⟩=false:=iJ.out.free 1) | (go_at_call 77;(with_reducible refine(ye (nt (nv l*2^n)) s _ hlen).mono ?_);rintro e w2 ⟨rfl,hq⟩;have hw2:Bw w1 w2:=(by first|exact aW hq|exact hq|exact rE hq|exact sQ hq|exact vA hq);clear hq;have zh:=ai (lL.out.below hw2);have TG:w2.cell? ⟨w.heap.size,0,none⟩=some (.bool s):=zh.out.cell 0;have TI:w2.cell? ⟨w.heap.size,1,none⟩=some (.string (bs l)):=zh.out.cell 1;have sK:=ai (iJ.out.below hw2);have SJ:w2.cell? ⟨w.heap.size+1,0,none⟩=some (.bool false):=sK.out.cell 0;have Pm:w2.frozen? ⟨w.heap.size+1,0,none⟩=false:=sK.out.free 0;have SK:w2.cell? ⟨w.heap.size+1,1,none⟩=some (.string (bs [])):=sK.out.cell 1;have Pn:w2.frozen? ⟨w.heap.size+1,1,none⟩=false:=sK.out.free 1))
 replace Hb:=ai (aJ Hb.out hw1);clear hw1;replace Hb:=ai (aJ Hb.out hw2);clear hw2 x0 x1 r0 aj r1 ak;replace Hx:=zh;clear lL Bo Bq TG TI;replace Hr:=sK;clear iJ Bb zL Bc zM SJ Pm SK Pn;obtain⟨x0,x1⟩:=Hx.out.c2;obtain⟨r0,aj,r1,ak⟩:=Hr.out.g2;rw[He.out];go_wp2;exact bodyPost_ret (v:=cX (iv s l*2^n)) (by simp[results,Tryz.results38,go_sem,r0,r1]) rfl ⟨rfl,df⟩
theorem Mt (n N:Int)(hN:n=N)(w:World)(h0: -9223372036854775808<=n)(h1:n<=9223372036854775807):
 Calls Tryz.prog 36 #[af n] w λe w'=>e=.returned (cX N)/\Bw w w':=by
 subst hN;exact TC n w h0 h1
def iF :List (Bool×List UInt8)->Int
 |[]=>1
 |x::xs=>iv x.1 x.2*iF xs
theorem amw (xs ys:List (Bool×List UInt8)):iF (xs++ys)=iF xs*iF ys:=by
 induction xs with
 |nil=>simp[iF]
 |cons x xs ih=>simp[iF,ih,Int.mul_assoc]
theorem amz (xs:List (Bool×List UInt8))(k:Nat)(hk:k<xs.length):iF (xs.take (k+1))=iF (xs.take k) *iv xs[k].1 xs[k].2:=by rw[List.take_succ_eq_append_getElem hk,amw];simp[iF]
def qJ (xs:List (Bool×List UInt8)):Nat:=(xs.map λx=>x.2.length).sum
theorem amu (xs:List (Bool×List UInt8))(k:Nat):qJ (xs.take k)<=qJ xs:=by
 unfold qJ;induction xs generalizing k with
 |nil=>simp
 | cons x xs ih=>cases k with
   |zero=>simp
   |succ k=>simp only[List.take_succ_cons,List.map_cons,List.sum_cons];have:=ih k;omega
theorem amt (xs:List (Bool×List UInt8))(x)(h:x∈xs):x.2.length<=qJ xs:=by
 unfold qJ;induction xs with
 |nil=>simp at h
 | cons y xs ih=>
   simp at h⊢;rcases h with h|h
   . subst h;omega
   . have:=ih h;omega
theorem amy (xs:List (Bool×List UInt8)):(iF xs).natAbs<=256^qJ xs:=by
 induction xs with
 |nil=>simp[iF,qJ]
 | cons x xs ih=>
   simp only[iF,Int.natAbs_mul,pk];have h1:=gL x.2;have:qJ (x::xs)=x.2.length+qJ xs:=by simp[qJ]
   rw[this,Nat.pow_add];exact Nat.mul_le_mul (Nat.le_of_lt h1) ih
theorem amx (xs:List (Bool×List UInt8))(N:Nat)(h:qJ xs+1<=N):(nt (iF xs).natAbs).length<=N:=by refine jr (Nat.lt_of_le_of_lt (amy xs) ?_);exact Nat.pow_lt_pow_right zd zo
theorem arM (xs:List (Bool×List UInt8))(a:Option Addr)(cap:Nat)(w:World)(hl:qJ xs<=34359738368)(hx:xs.length<=1048576)
 (ha:At w a (xs.flatMap LD)):
 Calls Tryz.prog 88 #[.slice a xs.length cap] w λe w'=>e=.returned (cX (iF xs))/\Bw w w':=by
 have Hl:=ai hl;clear hl;have Ha:=ai ha;clear ha;have yA:Hid (∀k,(nt (iF (xs.take k)).natAbs).length<=68719476736):=λk=>amx _ _ (by have:=amu xs k;have:=Hl.out;omega);obtain⟨one,hone⟩:∃one:Int,1=one:=⟨_,rfl⟩;have EA:=ai hone;clear hone;go_enter Tryz.func88,Tryz.ntmps88;have Hb:Hid (Bw w w):=Below.refl _ _;go_wp2_with fail;obtain⟨R,hR⟩:∃R:World->Prop,(λW=>ar W (w.heap.size) 32 [ag false,.string (bs [])]/\Bw w W)=R:=⟨_,rfl⟩;first|refine cf R ?hR ?_|refine bZ R ?hR ?_
 case hR=>subst hR;exact⟨(ar.newAt w _ _ (b:=w.heap.size) rfl),zl⟩
 subst hR;rintro W ⟨qr,ae⟩;have Hr:=ai qr;clear qr;obtain⟨r0,aj,r1,ak⟩:=Hr.out.g2;replace Hb:=aB Hb ae;clear ae;go_wp2_with fail;refine(Mt 1 one EA.out _ zo zo).mono ?_;rintro e w1 ⟨rfl,ae⟩;clear r0 aj r1 ak;obtain⟨Hr,r0,aj,r1,ak⟩:=bE Hr ae;replace Hb:=aB Hb ae;clear ae;go_wp2_with fail;refine(Mw (nt one.natAbs) (au one) _).mono ?_;rintro e w2 ⟨rfl,ae⟩;clear r0 aj r1 ak;obtain⟨Hr,r0,aj,r1,ak⟩:=bE Hr ae;replace Hb:=aB Hb ae;clear ae;have auo:w.heap.size<w2.heap.size:=Hr.out.lt;have qK:=Hr.out.lt;go_wp2_with fail;obtain⟨R,hR⟩:∃R:World->Prop,(λW2=>ar W2 (w2.heap.size) 112 [ah (nt one.natAbs),ag (au one)]/\Bw w2 W2)=R:=⟨_,rfl⟩;first|refine cf R ?hR ?_|refine bZ R ?hR ?_
 case hR=>subst hR;exact⟨(ar.newAt w2 _ _ (b:=w2.heap.size) rfl),zl⟩
 subst hR;rintro W2 ⟨qs,ae⟩;have Hs:=ai qs;clear qs r0 aj r1 ak;obtain⟨Hr,r0,aj,r1,ak⟩:=bE Hr ae;obtain⟨s0,bf,s1,bg⟩:=Hs.out.g2;replace Hb:=aB Hb ae;clear ae
 go_loopw[5,10] (λ_ i wr=>∃(k:Nat) (t:Bool),k<=xs.length/\i=af k/\iv t (nt (iF (xs.take k)).natAbs)=iF (xs.take k)/\ar wr w.heap.size 32 [ag false,.string (bs [])]/\
  ar wr w2.heap.size 112 [ah (nt (iF (xs.take k)).natAbs),ag t]/\Bw w wr) (λ_ i _=>xs.length-(intOf i).toNat)
 case atStart=>
  have e:iF (xs.take 0)=one:=by rw[<-EA.out];simp[iF]
  refine⟨0,au one,Nat.zero_le _,rfl,?_,Hr.out,?_,Hb.out⟩
  . rw[e];exact eX one
  . rw[e];exact Hs.out
 case round=>
  obtain⟨k,t,hk,rfl,uD,qr,qs,hb⟩:=hrel;replace Hr:=ai qr;replace Hs:=ai qs;replace Hb:=ai hb;have oI:=ai uD;clear qr qs hb uD r0 r1 aj ak s0 s1 bf bg;by_cases hlt:k<xs.length
  . obtain⟨b,o,hab,hcs⟩:=(Ha.out.below Hb.out).elem (f:=LD) (sz:=2) (λ_=>rfl) zd k hlt;have hc0:wr.cell? ⟨b,o+k*2,none⟩=some (ag xs[k].1):=hcs 0 zd;have hc1:wr.cell? ⟨b,o+k*2+1,none⟩=some (.string (bs xs[k].2)):=hcs 1 zd;have bK:=vX xs.length cap k (k:Int) hab hlt rfl;have bX:=ai (amz xs k hlt);have lG:Hid (xs[k].2.length<=34359738368):=by have:=amt xs _ (List.getElem_mem hlt);have:=Hl.out;show _<=_;omega
    have kX:=ai (yA.out k);clear hcs hab;generalize xs[k]=x at*;obtain⟨t1,l1⟩:=x;generalize hS:iF (xs.take k)=S at*;have HS:=ai hS;clear hS;obtain⟨r0,aj,r1,ak⟩:=Hr.out.g2;obtain⟨s0,bf,s1,bg⟩:=Hs.out.g2;have GX:=Hr.out.lt;have Sb:=Hs.out.lt;go_wp2_with fail;obtain⟨R,hR⟩:∃R:World->Prop,(λW1=>ar W1 (wr.heap.size) 32 [ag t1,ah l1]/\Bw wr W1)=R:=⟨_,rfl⟩;first|refine cf R ?hR ?_|refine bZ R ?hR ?_
    case hR=>subst hR;exact⟨(ar.newAt wr _ _ (b:=wr.heap.size) rfl),zl⟩
    subst hR;rintro W1 ⟨qa,ae⟩;have Ha:=ai qa;clear qa r0 aj r1 ak;obtain⟨Hr,r0,aj,r1,ak⟩:=bE Hr ae;clear s0 bf s1 bg;obtain⟨Hs,s0,bf,s1,bg⟩:=bE Hs ae;obtain⟨a0,a1⟩:=Ha.out.c2;replace Hb:=aB Hb ae;clear ae;go_region_with (first| (go_at_call 114;refine(Mw l1 t1 _).mono ?_;rintro e w3 ⟨rfl,hq⟩;have hw3:Bw W1 w3:=aW hq;clear hq;have SX:=cell_later hw3 s0;have SY:=cell_later hw3 s1;have akD:=(Hs.out.below hw3).free 0;have akF:=(Hs.out.below hw3).free 1) | (go_at_call 136;refine(ari (nt S.natAbs) l1 t t1 _ kX.out (by have:=lG.out;omega)).mono ?_;rintro e w4 ⟨rfl,hw4⟩;have ap9:=cell_later hw4 SX;have aqe:=cell_later hw4 SY;have akE:=((Hs.out.below hw3).below hw4).free 0;have akG:=((Hs.out.below hw3).below hw4).free 1))
    all_goals
     go_wp2
     go_roundw
     case rel=>
      have hq:=amE t (nt S.natAbs) t1 l1;rw[oI.out,<-bX.out]at hq;have hq2:nv (nt S.natAbs) *nv l1=(iF (xs.take (k+1))).natAbs:=by rw[bX.out,Int.natAbs_mul,pk,jJ]
      rw[hq2]at hq⊢;refine⟨k+1,_,by omega,by go_num,hq,((((Hr.out.below hw3).below hw4).aw3 ⟨w2.heap.size,0,none⟩ zp _).aw3 ⟨w2.heap.size,1,none⟩ zp _),((((Hs.out.below hw3).below hw4).set 0 _).set 1 _),?_⟩;exact((aJ (aJ Hb.out hw3) hw4).setCell zp _).setCell zp _
     case measure=>simp[intOf];omega
  . obtain rfl:k=xs.length:=by omega
    rw[List.take_length]at Hs oI;have kX:=yA.out xs.length;rw[List.take_length]at kX;obtain⟨r0,aj,r1,ak⟩:=Hr.out.g2;obtain⟨s0,bf,s1,bg⟩:=Hs.out.g2;go_wp2_with fail;refine(ye (nt (iF xs).natAbs) t _ zo).mono ?_;rintro e w3 ⟨rfl,ae⟩;clear r0 aj r1 ak s0 bf s1 bg;obtain⟨Hr,r0,aj,r1,ak⟩:=bE Hr ae;obtain⟨Hs,s0,bf,s1,bg⟩:=bE Hs ae;replace Hb:=aB Hb ae;clear ae;rw[oI.out];go_wp2;exact bodyPost_ret (v:=cX (iF xs)) (by simp[results,Tryz.results88,go_sem,r0,r1]) rfl ⟨rfl,df⟩
theorem adn (v:Nat)(h:0<v):∃m,v=2^tz v* (2*m+1):=by
 induction v using Nat.strongRecOn with
 | _ v ih=>
   by_cases he:v%2=0
   . obtain⟨u,rfl⟩:∃u,v=2*u:=⟨v/2,by omega⟩;obtain⟨m,hm⟩:=ih u zo zo;refine⟨m,?_⟩;have e:tz (2*u)=tz u+1:=by unfold tz;rw[show((2*u:Nat):Int)=2* (u:Int)by omega];exact Int.trailingZeros_two_mul zo
     rw[e,Nat.pow_succ];conv=>lhs;rw[hm]
     rw[Nat.mul_comm (2^tz u) 2,Nat.mul_assoc]
   . refine⟨v/2,?_⟩;have e:tz v=0:=by unfold tz;exact Int.trailingZeros_eq_zero_of_mod_eq zo
     rw[e];omega
theorem adl (v k:Nat)(h:0<v):tz v<k↔v%2^k≠0:=by
 obtain⟨m,hm⟩:=adn v h;generalize tz v=c at*;constructor
 . intro hc h0;have hd:2^k∣v:=Nat.dvd_of_mod_eq_zero h0;have hd2:2^(c+1)∣v:=Nat.dvd_trans (Nat.pow_dvd_pow 2 hc) hd;rw[hm,Nat.pow_succ]at hd2;have:=Nat.dvd_of_mul_dvd_mul_left (Nat.pow_pos zd) hd2;omega
 . intro hne;rcases Nat.lt_or_ge c k with h1|h1
   . exact h1
   . exfalso;apply hne
     rw[hm];exact Nat.mod_eq_zero_of_dvd (Nat.dvd_trans (Nat.pow_dvd_pow 2 h1) (Nat.dvd_mul_right _ _))
theorem aoh (v k:Nat)(h:v%2^k=0): -(v:Int)/2^k= -((v/2^k:Nat):Int):=by
 obtain⟨q,rfl⟩:=Nat.dvd_of_mod_eq_zero h;have hp:=Nat.pow_pos (n:=k) (show 0<2 by decide);rw[Nat.mul_div_cancel_left _ hp];have e: -((2^k*q:Nat):Int)=2^k* (-(q:Int)):=by simp[Int.natCast_mul,Int.natCast_pow,Int.mul_neg]
 rw[e,Int.mul_ediv_cancel_left];have:((2^k:Nat):Int)≠0:=by omega
 simpa[Int.natCast_pow]using this
theorem aoi (v k:Nat)(h:v%2^k≠0): -(v:Int)/2^k= -((v/2^k:Nat):Int)-1:=by
 have hp:=Nat.pow_pos (n:=k) (show 0<2 by decide);have e:=(Nat.mod_add_div v (2^k)).symm;have hr:=Nat.mod_lt v hp;rw[show((2:Int)^k)=((2^k:Nat):Int)by simp[Int.natCast_pow]];generalize v%2^k=r at*;generalize v/2^k=q at*;generalize 2^k=p at*;subst e;have e2: -((r+p*q:Nat):Int)=((p:Int)-r)+p* (-(q:Int)-1):=by rw[Int.natCast_add,Int.natCast_mul,Int.mul_sub,Int.mul_neg,Int.mul_one];omega
 rw[e2,Int.add_mul_ediv_left _ _ zo,Int.ediv_eq_zero_of_lt zo zo];omega
theorem aoo (l:List UInt8)(k B:Nat)(hl:l.length<=B):(nt (nv l/2^k)).length<=B:=jr (Nat.lt_of_le_of_lt (Nat.div_le_self _ _) (Nat.lt_of_lt_of_le (gL l) (Nat.pow_le_pow_right zd hl)))
theorem adD (s:Bool)(l:List UInt8)(k:Nat)(w:World)(hl:l.length<=34359738368)(hk:0<k)(hk2:k<=1099511627776)(hT:aH w):
 Calls Tryz.prog 38 #[.agg #[.bool s,.string (bs l)],.int .i64 (-(k:Int))] w λe w'=>e=.returned (cX (iv s l/2^k))/\Bw w w':=by
 have hmax:max (-(k:Int)) (-1099511627776)= -(k:Int):=by omega
 have hlen:(nt (nv l/2^k)).length<=34359738368:=aoo l k _ hl;obtain⟨Z,hZ⟩:=aG (nv l/2^k);have Lv:∀W,Calls Tryz.prog 80 #[.string (bs l),.int .i64 (k:Int)] W λe w'=>e=.returned (.string (bs (nt Z)))/\Bw W w':=λW=>by rw[<-hZ];exact aog l k W zo hk2
 rw[hZ]at hlen;have HZ:=ai hZ;clear hZ;have agK:=ai Lv;clear Lv;obtain⟨M,hM⟩:=aG (iv s (nt Z));have HM:=ai hM;clear hM;have ZM:∀W,Calls Tryz.prog 77 #[.agg #[.string (bs (nt Z)),.bool s]] W λe w'=>e=.returned (cX M)/\Bw W w':=λW=>by have:=ye (nt Z) s W zo;rw[HM.out]at this;exact this
 have afT:=ai ZM;clear ZM;go_enter Tryz.func38,Tryz.ntmps38;have Hb:Hid (Bw w w):=Below.refl _ _;go_upto_region 4 with fail
 go_wp2_with fail;obtain⟨R,hR⟩:∃R:World->Prop,(λW=>ar W (w.heap.size) 32 [.bool s,.string (bs l)]/\ar W (w.heap.size+1) 32 [.bool false,.string (bs [])]/\Bw w W)=R:=⟨_,rfl⟩;first|refine cf R ?hR ?_|refine bZ R ?hR ?_
 case hR=>subst hR;exact⟨((ar.newAt w _ _ (b:=w.heap.size) rfl).alloc _),(ar.newAt (w.alloc _) _ _ (b:=w.heap.size+1) zm),(zl.alloc zj _)⟩
 subst hR;rintro W ⟨qx,qr,ae⟩;have Hx:=ai qx;clear qx;have Hr:=ai qr;clear qr;obtain⟨x0,x1⟩:=Hx.out.c2;obtain⟨r0,aj,r1,ak⟩:=Hr.out.g2;replace Hb:=aB Hb ae;clear ae;go_cut[5] (λs5 wx=>∃g:Nat,s5=.pointer (some ⟨g,0,none⟩)/\w.heap.size+1<g/\ar wx w.heap.size 32 [.bool s,.string (bs l)]/\ar wx (w.heap.size+1) 32 [.bool false,.string (bs [])]/\ar wx g 32 [.bool (au M),.string (bs (nt M.natAbs))]/\Bw w wx);case first=>
  have hxW:w.heap.size<W.heap.size:=Hx.out.lt;have hrW:w.heap.size+1<W.heap.size:=Hr.out.lt;have hwk:IntKind.i64.wrap (k:Int)=(k:Int):=by rw[IntKind.wrap_i64];omega
  go_region_held3 (λw'=>w'.cell? ⟨w.heap.size,0,none⟩=some (.bool s)/\w'.cell? ⟨w.heap.size,1,none⟩=some (.string (bs l))) (((try dsimp only);go_split_ands;(repeat' apply And.intro)<;>(first|with_reducible assumption|exact aL (by with_reducible assumption) |exact OJ (by with_reducible assumption) |exact OJ (aL (by with_reducible assumption)) | ((with_reducible refine gG zf ?_);(repeat(with_reducible refine gG zf ?_));first|with_reducible assumption|exact aL (by with_reducible assumption) |exact OJ (by with_reducible assumption)) |go_keep))) (first| (go_at_call 80;(with_reducible refine(agK.out _).mono ?_);rintro e w1 ⟨rfl,hq⟩;(first| (have hw1:Bw W w1:=aW hq) | (have hw1:Bw W w1:=vA hq;have Ex:=ai (ar.below (ar.drew (ar.new W 32 [.bool false,.string (bs [])])) hq);have awb:w1.cell? ⟨W.heap.size,0,none⟩=some (.bool false):=Ex.out.cell 0;have awc:w1.cell? ⟨W.heap.size,1,none⟩=some (.string (bs [])):=Ex.out.cell 1;have as8:=Ex.out.free 0;have as9:=Ex.out.free 1));clear hq;have zs1:=hw1.size;obtain⟨Oe,agD⟩:=aO (Hx.out.below hw1) (Hr.out.below hw1);have awt:w1.cell? ⟨w.heap.size,0,none⟩=some (.bool s):=Oe.out.cell 0;have awC:w1.cell? ⟨w.heap.size,1,none⟩=some (.string (bs l)):=Oe.out.cell 1) | (go_at_call 77;(with_reducible refine(afT.out _).mono ?_);rintro e w2 ⟨rfl,hq⟩;(first| (have hw2:Bw w1 w2:=hq;(try(have sI:=ai (ar.below Ex.out hq);have an2:w2.cell? ⟨W.heap.size,0,none⟩=some (.bool false):=sI.out.cell 0;have an5:w2.cell? ⟨W.heap.size,1,none⟩=some (.string (bs [])):=sI.out.cell 1;have akr:=sI.out.free 0;have aks:=sI.out.free 1))) | (have hw2:Bw w1 w2:=sQ hq;have sI:=ai (ar.below (ar.new w1 32 [.bool false,.string (bs [])]) hq);have an2:w2.cell? ⟨w1.heap.size,0,none⟩=some (.bool false):=sI.out.cell 0;have an5:w2.cell? ⟨w1.heap.size,1,none⟩=some (.string (bs [])):=sI.out.cell 1;have akr:=sI.out.free 0;have aks:=sI.out.free 1));clear hq;have zs2:=hw2.size;obtain⟨EN,NN⟩:=aO (Oe.out.below hw2) (agD.out.below hw2);have awu:w2.cell? ⟨w.heap.size,0,none⟩=some (.bool s):=EN.out.cell 0;have awD:w2.cell? ⟨w.heap.size,1,none⟩=some (.string (bs l)):=EN.out.cell 1))
  all_goals(go_wp2_with fail;go_meet)
  . exact⟨w2.heap.size,rfl,by omega,EN.out.alloc _,NN.out.alloc _,ar.new _ _ _,(aJ (aJ Hb.out hw1) hw2).alloc zo _⟩
  . exact⟨w1.heap.size,rfl,by omega,((EN.out.aw3 ⟨w1.heap.size,0,none⟩ (by first| (dsimp only;omega) |omega| (simp<;>omega)) _).aw3 ⟨w1.heap.size,1,none⟩ (by first| (dsimp only;omega) |omega| (simp<;>omega)) _),((NN.out.aw3 ⟨w1.heap.size,0,none⟩ (by first| (dsimp only;omega) |omega| (simp<;>omega)) _).aw3 ⟨w1.heap.size,1,none⟩ (by first| (dsimp only;omega) |omega| (simp<;>omega)) _),((sI.out.set 0 _).set 1 _),((aJ (aJ Hb.out hw1) hw2).setCell (by first| (dsimp only;omega) |omega| (simp<;>omega)) _).setCell (by first| (dsimp only;omega) |omega| (simp<;>omega)) _⟩
  . exact⟨W.heap.size,rfl,hrW,((EN.out.aw3 ⟨W.heap.size,0,none⟩ (by first| (dsimp only;omega) |omega| (simp<;>omega)) _).aw3 ⟨W.heap.size,1,none⟩ (by first| (dsimp only;omega) |omega| (simp<;>omega)) _),((NN.out.aw3 ⟨W.heap.size,0,none⟩ (by first| (dsimp only;omega) |omega| (simp<;>omega)) _).aw3 ⟨W.heap.size,1,none⟩ (by first| (dsimp only;omega) |omega| (simp<;>omega)) _),((sI.out.set 0 _).set 1 _),((aJ (aJ Hb.out hw1) hw2).setCell (by first| (dsimp only;omega) |omega| (simp<;>omega)) _).setCell (by first| (dsimp only;omega) |omega| (simp<;>omega)) _⟩
 case rest=>
  obtain⟨g,rfl,hg,qx,qr,qn,qb⟩:=hcut;replace Hx:=ai qx;replace Hr:=ai qr;have Hn:=ai qn;replace Hb:=ai qb;clear qx qr qn qb x0 x1 r0 r1 aj ak;cases s
  . obtain ⟨x0,x1⟩:=Hx.out.c2;obtain⟨r0,aj,r1,ak⟩:=Hr.out.g2;obtain⟨n0,n1⟩:=Hn.out.c2;have gZ:Hid (iv false l/2^k=M):=by
     show _=_
     rw[<-HM.out,<-HZ.out,mU];unfold iv;simp[Int.natCast_pow]
    go_wp2;exact bodyPost_ret (v:=cX M) (by simp[results,Tryz.results38,go_sem,r0,r1]) rfl ⟨by rw[gZ.out],df⟩
  . obtain⟨x0,x1⟩:=Hx.out.c2;obtain⟨r0,aj,r1,ak⟩:=Hr.out.g2;obtain⟨n0,n1⟩:=Hn.out.c2;have ry:Hid (l.length<=68719476736):=by show _<=_;omega
    by_cases h0:nv l=0
    . have hb0:bN (nv l)=0:=by rw[h0];rfl
      have gZ:Hid (iv true l/2^k=M):=by
       show _=_
       rw[<-HM.out,<-HZ.out,mU,h0];unfold iv;simp[h0]
      have fP:=ai hb0;clear hb0;go_wp2_with fail;refine(Sk l _ ry.out).mono ?_;rintro e w3 ⟨rfl,ae⟩;clear x0 x1 r0 aj r1 ak n0 n1;obtain⟨Hx,x0,x1⟩:=aR Hx ae;obtain⟨Hr,r0,aj,r1,ak⟩:=bE Hr ae;obtain⟨Hn,n0,n1⟩:=aR Hn ae;replace Hb:=aB Hb ae;clear ae;rw[fP.out];go_wp2;exact bodyPost_ret (v:=cX M) (by simp[results,Tryz.results38,go_sem,r0,r1]) rfl ⟨by rw[gZ.out],df⟩
    . have hbp:0<bN (nv l):=EX zo;have Eb:Hid (aH wc):=hT.below Hb.out;by_cases hz:tz (nv l)<k
      . have gZ:Hid (iv true l/2^k=M-1):=by
         show _=_
         rw[<-HM.out,<-HZ.out,mU];have:=(adl (nv l) k zo).1 hz;unfold iv;simp only[if_true];exact aoi _ _ this
        have HMl:Hid ((nt M.natAbs).length<=34359738368):=by show _<=_;rw[<-HM.out,pk,jJ];exact hlen
        obtain⟨one,hone⟩:∃one:Int,1=one:=⟨_,rfl⟩;have Hol:Hid ((nt one.natAbs).length<=34359738368):=by show _<=_;rw[<-hone];exact Nat.le_trans (jr (k:=1) zd) zd
        have EA:=ai hone;clear hone;have agP:Hid (iv (au M) (nt M.natAbs)-iv (au one) (nt one.natAbs)=M-1):=by show _=_;rw[eX,eX,<-EA.out]
        go_wp2_with fail;refine(Sk l _ ry.out).mono ?_;rintro e w3 ⟨rfl,ae⟩;clear x0 x1 r0 aj r1 ak n0 n1;obtain⟨Hx,x0,x1⟩:=aR Hx ae;obtain⟨Hr,r0,aj,r1,ak⟩:=bE Hr ae;obtain⟨Hn,n0,n1⟩:=aR Hn ae;replace Hb:=aB Hb ae;clear ae;replace Eb:=ai (hT.below Hb.out);go_wp2_with fail;refine(Sn l _ ry.out Eb.out).mono ?_;rintro e w4 ⟨rfl,ae⟩;clear x0 x1 r0 aj r1 ak n0 n1;obtain⟨Hx,x0,x1⟩:=aR Hx ae;obtain⟨Hr,r0,aj,r1,ak⟩:=bE Hr ae;obtain⟨Hn,n0,n1⟩:=aR Hn ae;replace Hb:=aB Hb ae;clear ae;go_wp2_with fail;have nen:g≠w.heap.size+1:=by omega
        go_region_held3 (λw'=>w'.cell? ⟨g,0,none⟩=some (.bool (au M))/\w'.cell? ⟨g,1,none⟩=some (.string (bs (nt M.natAbs)))) (((try dsimp only);go_split_ands;(repeat' apply And.intro)<;>(first|exact True.intro|with_reducible assumption| ((with_reducible refine gG zg ?_);(repeat(with_reducible refine gG zg ?_));with_reducible assumption) |exact cell_later (by with_reducible assumption) (by with_reducible assumption) |exact aL (by with_reducible assumption) |go_keep))) (first| (go_at_call 36;(with_reducible refine(Mt 1 one EA.out _ zo zo).mono ?_);rintro e w5 ⟨rfl,hq⟩;have cn:Bw w4 w5:=(by first|exact aW hq|exact hq|exact rE hq|exact sQ hq|exact vA hq);clear hq;obtain⟨VE,BQ⟩:=aO (Hx.out.below cn) (Hr.out.below cn);have apn:w5.cell? ⟨w.heap.size+1,0,none⟩=some (.bool false):=BQ.out.cell 0;have akz:w5.frozen? ⟨w.heap.size+1,0,none⟩=false:=BQ.out.free 0;have apq:w5.cell? ⟨w.heap.size+1,1,none⟩=some (.string (bs [])):=BQ.out.cell 1;have akB:w5.frozen? ⟨w.heap.size+1,1,none⟩=false:=BQ.out.free 1;have Jw:=ai (Hn.out.below cn);have an3:w5.cell? ⟨g,0,none⟩=some (.bool (au M)):=Jw.out.cell 0;have an6:w5.cell? ⟨g,1,none⟩=some (.string (bs (nt M.natAbs))):=Jw.out.cell 1) | (go_at_call 37;(with_reducible refine(Mv (au M) (nt M.natAbs) (au one) (nt one.natAbs) _ HMl.out Hol.out).mono ?_);rintro e w6 ⟨rfl,hq⟩;have GN:Bw w5 w6:=(by first|exact aW hq|exact hq|exact rE hq|exact sQ hq|exact vA hq);clear hq;obtain⟨ag7,EG⟩:=aO (VE.out.below GN) (BQ.out.below GN);have apo:w6.cell? ⟨w.heap.size+1,0,none⟩=some (.bool false):=EG.out.cell 0;have akA:w6.frozen? ⟨w.heap.size+1,0,none⟩=false:=EG.out.free 0;have apr:w6.cell? ⟨w.heap.size+1,1,none⟩=some (.string (bs [])):=EG.out.cell 1;have akC:w6.frozen? ⟨w.heap.size+1,1,none⟩=false:=EG.out.free 1;have ND:=ai (Jw.out.below GN);have an4:w6.cell? ⟨g,0,none⟩=some (.bool (au M)):=ND.out.cell 0;have an7:w6.cell? ⟨g,1,none⟩=some (.string (bs (nt M.natAbs))):=ND.out.cell 1))
        replace Hb:=ai (aJ Hb.out cn);clear cn;replace Hb:=ai (aJ Hb.out GN);clear GN x0 x1 r0 aj r1 ak n0 n1;replace Hx:=ag7;clear VE;replace Hr:=EG;clear BQ apn akz apq akB apo akA apr akC;replace Hn:=ND;clear Jw an3 an6 an4 an7;obtain⟨x0,x1⟩:=Hx.out.c2;obtain⟨r0,aj,r1,ak⟩:=Hr.out.g2;obtain⟨n0,n1⟩:=Hn.out.c2;rw[agP.out];go_wp2;exact bodyPost_ret (v:=cX (M-1)) (by simp[results,Tryz.results38,go_sem,r0,r1]) rfl ⟨by rw[gZ.out],df⟩
      . have gZ:Hid (iv true l/2^k=M):=by
         show _=_
         rw[<-HM.out,<-HZ.out,mU];have h2:nv l%2^k=0:=by
          rcases Nat.eq_zero_or_pos (nv l%2^k)with h|h
          . exact h
          . exact absurd ((adl (nv l) k zo).2 zo) hz
         unfold iv;simp only[if_true];exact aoh _ _ h2
        go_wp2_with fail;refine(Sk l _ ry.out).mono ?_;rintro e w3 ⟨rfl,ae⟩;clear x0 x1 r0 aj r1 ak n0 n1;obtain⟨Hx,x0,x1⟩:=aR Hx ae;obtain⟨Hr,r0,aj,r1,ak⟩:=bE Hr ae;obtain⟨Hn,n0,n1⟩:=aR Hn ae;replace Hb:=aB Hb ae;clear ae;replace Eb:=ai (hT.below Hb.out);go_wp2_with fail;refine(Sn l _ ry.out Eb.out).mono ?_;rintro e w4 ⟨rfl,ae⟩;clear x0 x1 r0 aj r1 ak n0 n1;obtain⟨Hx,x0,x1⟩:=aR Hx ae;obtain⟨Hr,r0,aj,r1,ak⟩:=bE Hr ae;obtain⟨Hn,n0,n1⟩:=aR Hn ae;replace Hb:=aB Hb ae;clear ae;go_wp2;exact bodyPost_ret (v:=cX M) (by simp[results,Tryz.results38,go_sem,r0,r1]) rfl ⟨by rw[gZ.out],df⟩
end Go.Proofs.YtoopepmmepmfnaaGreatDoor
