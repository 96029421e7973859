/- Package whole,on: Sub,Cmp,Mul,Shift. -/
import Derived.Test.YtoopepmmepmfnaaGreatDoorZ6
import Derived.Deep.DeepCutAuto
set_option linter.unusedVariables false
set_option linter.unusedSimpArgs false
set_option maxRecDepth 100000
set_option maxHeartbeats 16000000
namespace Go.Proofs.YtoopepmmepmfnaaGreatDoor
open Go.RowKit
attribute [local go_sem ↓] Go.wp_at_zero Go.wp_at_succ
theorem Yv (s:Bool)(l:List UInt8)(t:Bool)(m:List UInt8)(b cap:Nat)(ty:TypeId)(w:World)(hl:l.length<=34359738368)(hm:m.length<=34359738368)
 (ha:ag w b ty [.bool s,.string (bs l),.bool t,.string (bs m)]):
 Calls Tryz.prog 68 #[.slice (some ⟨b,0,none⟩) 2 cap] w λe w'=>e=.returned (bM (iv s l+iv t m))/\Bw w w':=by
 have:=alI [(s,l),(t,m)] (some ⟨b,0,none⟩) cap w (by simp[hl,hm]) zm (At.aqF ha);have e:jB [(s,l),(t,m)]=iv s l+iv t m:=by simp[jB]
 rw[e]at this;exact this
theorem BQ (s:Bool)(m:List UInt8)(B:Nat)(hm:m.length<=B):(nt (-(iv s m)).natAbs).length<=B:=by rw[Int.natAbs_neg,qo];exact lL (Nat.lt_of_lt_of_le (iF m) (Nat.pow_le_pow_right zd hm))
theorem Gh (s:Bool)(l:List UInt8)(N:Int)(hN: -(iv s l)=N)(w:World)(hl:l.length<=1099511627776):
 Calls Tryz.prog 78 #[.agg #[.bool s,.string (bs l)]] w λe w'=>e=.returned (bM N)/\Bw w w':=by
 subst hN;exact Yz s l w hl
theorem Gk (s:Bool)(l:List UInt8)(t:Bool)(m:List UInt8)(w:World)(hl:l.length<=34359738368)(hm:m.length<=34359738368):
 Calls Tryz.prog 37 #[.agg #[.bool s,.string (bs l)],.agg #[.bool t,.string (bs m)]] w λe w'=>e=.returned (bM (iv s l-iv t m))/\Bw w w':=by
 have hm2:=BQ t m 34359738368 hm;have He:Hid (iv s l+iv (aj (-(iv t m))) (nt (-(iv t m)).natAbs)=iv s l-iv t m):=by show _=_;rw[dI];omega
 generalize hN: -(iv t m)=N at*;have HN:=af hN;clear hN;go_enter Tryz.func37,Tryz.ntmps37;have Hb:Hid (Bw w w):=Below.refl _ _;go_wp2_with fail;obtain⟨R,hR⟩:∃R:World->Prop,(λW=>ag W (w.heap.size) 32 [.bool s,.string (bs l)]/\ag W (w.heap.size+1) 32 [.bool t,.string (bs m)]/\ag W (w.heap.size+1+1) 32 [.bool false,.string (bs [])]/\Bw w W)=R:=⟨_,rfl⟩;first|refine bB R ?hR ?_|refine bz R ?hR ?_
 case hR=>subst hR;exact⟨(((ag.newAt w _ _ (b:=w.heap.size) rfl).alloc _).alloc _),((ag.newAt (w.alloc _) _ _ (b:=w.heap.size+1) zm).alloc _),(ag.newAt ((w.alloc _).alloc _) _ _ (b:=w.heap.size+1+1) zm),((zl.alloc zj _).alloc zj _)⟩
 subst hR;rintro W ⟨qx,qy,qr,ae⟩;have Hx:=af qx;clear qx;have Hy:=af qy;clear qy;have Hr:=af qr;clear qr;obtain⟨x0,x1⟩:=Hx.out.c2;obtain⟨y0,y1⟩:=Hy.out.c2;obtain⟨r0,ah,r1,ai⟩:=Hr.out.g2;replace Hb:=ak Hb ae;clear ae;have MN:w.heap.size≠w.heap.size+1+1:=by omega
 have WL:w.heap.size+1≠w.heap.size+1+1:=by omega
 go_region_held3 (λw'=>w'.cell? ⟨w.heap.size,0,none⟩=some (.bool s)/\w'.cell? ⟨w.heap.size,1,none⟩=some (.string (bs l))/\w'.cell? ⟨w.heap.size+1,0,none⟩=some (.bool t)/\w'.cell? ⟨w.heap.size+1,1,none⟩=some (.string (bs m))) (((try dsimp only);go_split_ands;(repeat' apply And.intro)<;>(first|exact True.intro|with_reducible assumption| ((with_reducible refine eW zg ?_);(repeat(with_reducible refine eW zg ?_));with_reducible assumption) |exact cell_later (by with_reducible assumption) (by with_reducible assumption) |exact aH (by with_reducible assumption) |go_keep))) (first| (go_at_call 78;(with_reducible refine(Gh t m N HN.out _ zo).mono ?_);rintro e w1 ⟨rfl,hq⟩;have hw1:Bw W w1:=(by first|exact aK hq|exact hq|exact ow hq|exact ov hq|exact rF hq);clear hq;have jm:=af (Hx.out.below hw1);have wU:w1.cell? ⟨w.heap.size,0,none⟩=some (.bool s):=jm.out.cell 0;have wV:w1.cell? ⟨w.heap.size,1,none⟩=some (.string (bs l)):=jm.out.cell 1;have mW:=af (Hy.out.below hw1);have Cv:w1.cell? ⟨w.heap.size+1,0,none⟩=some (.bool t):=mW.out.cell 0;have Cw:w1.cell? ⟨w.heap.size+1,1,none⟩=some (.string (bs m)):=mW.out.cell 1;have fV:=af (Hr.out.below hw1);have wN:w1.cell? ⟨w.heap.size+1+1,0,none⟩=some (.bool false):=fV.out.cell 0;have vw:w1.frozen? ⟨w.heap.size+1+1,0,none⟩=false:=fV.out.free 0;have wO:w1.cell? ⟨w.heap.size+1+1,1,none⟩=some (.string (bs [])):=fV.out.cell 1;have vz:w1.frozen? ⟨w.heap.size+1+1,1,none⟩=false:=fV.out.free 1) | (go_at_call 68;(with_reducible refine(Yv s l (aj N) (nt N.natAbs) w1.heap.size 2 32 _ hl hm2 (by first|exact ag.drew (ag.new _ _ _) |exact ag.new _ _ _)).mono ?_);rintro e w2 ⟨rfl,hq⟩;have hw2:Bw w1 w2:=(by first|exact aK hq|exact hq|exact ow hq|exact ov hq|exact rF hq);clear hq;have vg:=af (jm.out.below hw2);have NZ:w2.cell? ⟨w.heap.size,0,none⟩=some (.bool s):=vg.out.cell 0;have Ob:w2.cell? ⟨w.heap.size,1,none⟩=some (.string (bs l)):=vg.out.cell 1;have Jk:=af (mW.out.below hw2);have al7:w2.cell? ⟨w.heap.size+1,0,none⟩=some (.bool t):=Jk.out.cell 0;have al8:w2.cell? ⟨w.heap.size+1,1,none⟩=some (.string (bs m)):=Jk.out.cell 1;have od:=af (fV.out.below hw2);have Nk:w2.cell? ⟨w.heap.size+1+1,0,none⟩=some (.bool false):=od.out.cell 0;have Kl:w2.frozen? ⟨w.heap.size+1+1,0,none⟩=false:=od.out.free 0;have Nl:w2.cell? ⟨w.heap.size+1+1,1,none⟩=some (.string (bs [])):=od.out.cell 1;have Km:w2.frozen? ⟨w.heap.size+1+1,1,none⟩=false:=od.out.free 1))
 replace Hb:=af (aG Hb.out hw1);clear hw1;replace Hb:=af (aG Hb.out hw2);clear hw2 x0 x1 y0 y1 r0 ah r1 ai;replace Hx:=vg;clear jm wU wV NZ Ob;replace Hy:=Jk;clear mW Cv Cw al7 al8;replace Hr:=od;clear fV wN vw wO vz Nk Kl Nl Km;obtain⟨x0,x1⟩:=Hx.out.c2;obtain⟨y0,y1⟩:=Hy.out.c2;obtain⟨r0,ah,r1,ai⟩:=Hr.out.g2;rw[He.out];go_wp2;refine bodyPost_ret (v:=bM (iv s l-iv t m)) (by simp[results,Tryz.results37,go_sem,r0,r1]) rfl ⟨rfl,?_⟩;(repeat first|exact Hb.out| (refine Below.setCell ?_ (by have:=Hb.out.size;first| (dsimp only;omega) | (show _<=_;omega) | (simp<;>omega)) _) | (refine Below.alloc ?_ zt _) |refine Below.drew ?_)
theorem alL (s:Bool)(l:List UInt8)(t:Bool)(m:List UInt8)(w:World)(hl:l.length<=34359738368)(hm:m.length<=34359738368)(hd:(nt (iv s l-iv t m).natAbs).length<=1099511627776):
 Calls Tryz.prog 67 #[.agg #[.bool s,.string (bs l)],.agg #[.bool t,.string (bs m)]] w λe w'=>e=.returned (.int .i64 (dO (iv s l-iv t m)))/\Bw w w':=by
 have Hi:=af (dI (iv s l-iv t m));go_enter Tryz.func67,Tryz.ntmps67;have Hb:Hid (Bw w w):=Below.refl _ _;go_wp2_with fail;obtain⟨R,hR⟩:∃R:World->Prop,(λW=>ag W (w.heap.size) 32 [.bool s,.string (bs l)]/\ag W (w.heap.size+1) 32 [.bool t,.string (bs m)]/\Bw w W)=R:=⟨_,rfl⟩;first|refine bB R ?hR ?_|refine bz R ?hR ?_
 case hR=>subst hR;exact⟨((ag.newAt w _ _ (b:=w.heap.size) rfl).alloc _),(ag.newAt (w.alloc _) _ _ (b:=w.heap.size+1) zm),(zl.alloc zj _)⟩
 subst hR;rintro W ⟨qx,qy,ae⟩;have Hx:=af qx;clear qx;have Hy:=af qy;clear qy;obtain⟨x0,x1⟩:=Hx.out.c2;obtain⟨y0,y1⟩:=Hy.out.c2;replace Hb:=ak Hb ae;clear ae;go_wp2_with fail;refine(Gk s l t m _ hl hm).mono ?_;rintro e w1 ⟨rfl,ae⟩;clear x0 x1 y0 y1;replace Hx:=kB Hx ae;replace Hy:=kB Hy ae;obtain⟨x0,x1⟩:=Hx.out.c2;obtain⟨y0,y1⟩:=Hy.out.c2;replace Hb:=ak Hb ae;clear ae;go_wp2_with fail;refine(Cs (aj (iv s l-iv t m)) (nt (iv s l-iv t m).natAbs) _ hd).mono ?_;rintro e w2 ⟨rfl,ae⟩;clear x0 x1 y0 y1;replace Hx:=kB Hx ae;replace Hy:=kB Hy ae;obtain⟨x0,x1⟩:=Hx.out.c2;obtain⟨y0,y1⟩:=Hy.out.c2;replace Hb:=ak Hb ae;clear ae;rw[Hi.out];go_wp2;go_ret;exact⟨rfl,Hb.out⟩
theorem Gj (s:Bool)(l:List UInt8)(n:Nat)(w:World)(hl:l.length<=68719476736)(hn:n<=549755813888):
 Calls Tryz.prog 38 #[.agg #[.bool s,.string (bs l)],.int .i64 (n:Int)] w λe w'=>e=.returned (bM (iv s l*2^n))/\Bw w w':=by
 have hlen:(nt (nv l*2^n)).length<=1099511627776:=by
  have h1:nv l*2^n<2^(8*l.length+n):=by rw[Nat.pow_add,Nat.pow_mul];exact Nat.mul_lt_mul_of_pos_right (iF l) (Nat.pow_pos zd)
  have h2:=iJ h1;rw[aja];omega
 have He:Hid (iv s (nt (nv l*2^n))=iv s l*2^n):=by
  show _=_
  rw[su];unfold iv;cases s<;>simp[Int.natCast_mul,Int.natCast_pow,Int.neg_mul]
 go_enter Tryz.func38,Tryz.ntmps38;have Hb:Hid (Bw w w):=Below.refl _ _;go_wp2_with fail;obtain⟨R,hR⟩:∃R:World->Prop,(λW=>ag W (w.heap.size) 32 [.bool s,.string (bs l)]/\ag W (w.heap.size+1) 32 [.bool false,.string (bs [])]/\Bw w W)=R:=⟨_,rfl⟩;first|refine bB R ?hR ?_|refine bz R ?hR ?_
 case hR=>subst hR;exact⟨((ag.newAt w _ _ (b:=w.heap.size) rfl).alloc _),(ag.newAt (w.alloc _) _ _ (b:=w.heap.size+1) zm),(zl.alloc zj _)⟩
 subst hR;rintro W ⟨qx,qr,ae⟩;have Hx:=af qx;clear qx;have Hr:=af qr;clear qr;obtain⟨x0,x1⟩:=Hx.out.c2;obtain⟨r0,ah,r1,ai⟩:=Hr.out.g2;replace Hb:=ak Hb ae;clear ae;have MN:w.heap.size≠w.heap.size+1:=by omega
 go_region_held3 (λw'=>w'.cell? ⟨w.heap.size,0,none⟩=some (.bool s)/\w'.cell? ⟨w.heap.size,1,none⟩=some (.string (bs l))) (((try dsimp only);go_split_ands;(repeat' apply And.intro)<;>(first|exact True.intro|with_reducible assumption| ((with_reducible refine eW zg ?_);(repeat(with_reducible refine eW zg ?_));with_reducible assumption) |exact cell_later (by with_reducible assumption) (by with_reducible assumption) |exact aH (by with_reducible assumption) |go_keep))) (first| (go_at_call 79;(with_reducible refine(aiY l n _ hl hn).mono ?_);rintro e w1 ⟨rfl,hq⟩;have hw1:Bw W w1:=(by first|exact aK hq|exact hq|exact ow hq|exact ov hq|exact rF hq);clear hq;have jm:=af (Hx.out.below hw1);have wU:w1.cell? ⟨w.heap.size,0,none⟩=some (.bool s):=jm.out.cell 0;have wV:w1.cell? ⟨w.heap.size,1,none⟩=some (.string (bs l)):=jm.out.cell 1;have fV:=af (Hr.out.below hw1);have wN:w1.cell? ⟨w.heap.size+1,0,none⟩=some (.bool false):=fV.out.cell 0;have vw:w1.frozen? ⟨w.heap.size+1,0,none⟩=false:=fV.out.free 0;have wO:w1.cell? ⟨w.heap.size+1,1,none⟩=some (.string (bs [])):=fV.out.cell 1;have vz:w1.frozen? ⟨w.heap.size+1,1,none⟩=false:=fV.out.free 1) | (go_at_call 77;(with_reducible refine(uo (nt (nv l*2^n)) s _ hlen).mono ?_);rintro e w2 ⟨rfl,hq⟩;have hw2:Bw w1 w2:=(by first|exact aK hq|exact hq|exact ow hq|exact ov hq|exact rF hq);clear hq;have vg:=af (jm.out.below hw2);have NZ:w2.cell? ⟨w.heap.size,0,none⟩=some (.bool s):=vg.out.cell 0;have Ob:w2.cell? ⟨w.heap.size,1,none⟩=some (.string (bs l)):=vg.out.cell 1;have od:=af (fV.out.below hw2);have Nk:w2.cell? ⟨w.heap.size+1,0,none⟩=some (.bool false):=od.out.cell 0;have Kl:w2.frozen? ⟨w.heap.size+1,0,none⟩=false:=od.out.free 0;have Nl:w2.cell? ⟨w.heap.size+1,1,none⟩=some (.string (bs [])):=od.out.cell 1;have Km:w2.frozen? ⟨w.heap.size+1,1,none⟩=false:=od.out.free 1))
 replace Hb:=af (aG Hb.out hw1);clear hw1;replace Hb:=af (aG Hb.out hw2);clear hw2 x0 x1 r0 ah r1 ai;replace Hx:=vg;clear jm wU wV NZ Ob;replace Hr:=od;clear fV wN vw wO vz Nk Kl Nl Km;obtain⟨x0,x1⟩:=Hx.out.c2;obtain⟨r0,ah,r1,ai⟩:=Hr.out.g2;rw[He.out];go_wp2;refine bodyPost_ret (v:=bM (iv s l*2^n)) (by simp[results,Tryz.results38,go_sem,r0,r1]) rfl ⟨rfl,?_⟩;(repeat first|exact Hb.out| (refine Below.setCell ?_ (by have:=Hb.out.size;first| (dsimp only;omega) | (show _<=_;omega) | (simp<;>omega)) _) | (refine Below.alloc ?_ zt _) |refine Below.drew ?_)
theorem Gi (n N:Int)(hN:n=N)(w:World)(h0: -9223372036854775808<=n)(h1:n<=9223372036854775807):
 Calls Tryz.prog 36 #[.int .i64 n] w λe w'=>e=.returned (bM N)/\Bw w w':=by
 subst hN;exact NS n w h0 h1
def fN :List (Bool×List UInt8)->Int
 |[]=>1
 |x::xs=>iv x.1 x.2*fN xs
theorem ahh (xs ys:List (Bool×List UInt8)):fN (xs++ys)=fN xs*fN ys:=by
 induction xs with
 |nil=>simp[fN]
 |cons x xs ih=>simp[fN,ih,Int.mul_assoc]
theorem ahk (xs:List (Bool×List UInt8))(k:Nat)(hk:k<xs.length):fN (xs.take (k+1))=fN (xs.take k) *iv xs[k].1 xs[k].2:=by rw[List.take_succ_eq_append_getElem hk,ahh];simp[fN]
def mA (xs:List (Bool×List UInt8)):Nat:=(xs.map λx=>x.2.length).sum
theorem ahf (xs:List (Bool×List UInt8))(k:Nat):mA (xs.take k)<=mA xs:=by
 unfold mA;induction xs generalizing k with
 |nil=>simp
 | cons x xs ih=>cases k with
   |zero=>simp
   |succ k=>simp only[List.take_succ_cons,List.map_cons,List.sum_cons];have:=ih k;omega
theorem ahe (xs:List (Bool×List UInt8))(x)(h:x∈xs):x.2.length<=mA xs:=by
 unfold mA;induction xs with
 |nil=>simp at h
 | cons y xs ih=>
   simp at h⊢;rcases h with h|h
   . subst h;omega
   . have:=ih h;omega
theorem ahj (xs:List (Bool×List UInt8)):(fN xs).natAbs<=256^mA xs:=by
 induction xs with
 |nil=>simp[fN,mA]
 | cons x xs ih=>
   simp only[fN,Int.natAbs_mul,qo];have h1:=iF x.2;have:mA (x::xs)=x.2.length+mA xs:=by simp[mA]
   rw[this,Nat.pow_add];exact Nat.mul_le_mul (Nat.le_of_lt h1) ih
theorem ahi (xs:List (Bool×List UInt8))(N:Nat)(h:mA xs+1<=N):(nt (fN xs).natAbs).length<=N:=by refine lL (Nat.lt_of_le_of_lt (ahj xs) ?_);exact Nat.pow_lt_pow_right zd zo
theorem alO (xs:List (Bool×List UInt8))(a:Option Addr)(cap:Nat)(w:World)(hl:mA xs<=34359738368)(hx:xs.length<=1048576)
 (ha:At w a (xs.flatMap EX)):
 Calls Tryz.prog 88 #[.slice a xs.length cap] w λe w'=>e=.returned (bM (fN xs))/\Bw w w':=by
 have Hl:=af hl;clear hl;have Ha:=af ha;clear ha;have yU:Hid (∀k,(nt (fN (xs.take k)).natAbs).length<=68719476736):=λk=>ahi _ _ (by have:=ahf xs k;have:=Hl.out;omega);obtain⟨one,hone⟩:∃one:Int,1=one:=⟨_,rfl⟩;have zP:=af hone;clear hone;go_enter Tryz.func88,Tryz.ntmps88;have Hb:Hid (Bw w w):=Below.refl _ _;go_wp2_with fail;obtain⟨R,hR⟩:∃R:World->Prop,(λW=>ag W (w.heap.size) 32 [.bool false,.string (bs [])]/\Bw w W)=R:=⟨_,rfl⟩;first|refine bB R ?hR ?_|refine bz R ?hR ?_
 case hR=>subst hR;exact⟨(ag.newAt w _ _ (b:=w.heap.size) rfl),zl⟩
 subst hR;rintro W ⟨qr,ae⟩;have Hr:=af qr;clear qr;obtain⟨r0,ah,r1,ai⟩:=Hr.out.g2;replace Hb:=ak Hb ae;clear ae;go_wp2_with fail;refine(Gi 1 one zP.out _ zo zo).mono ?_;rintro e w1 ⟨rfl,ae⟩;clear r0 ah r1 ai;replace Hr:=kB Hr ae;obtain⟨r0,ah,r1,ai⟩:=Hr.out.g2;replace Hb:=ak Hb ae;clear ae;go_wp2_with fail;refine(Gl (nt one.natAbs) (aj one) _).mono ?_;rintro e w2 ⟨rfl,ae⟩;clear r0 ah r1 ai;replace Hr:=kB Hr ae;obtain⟨r0,ah,r1,ai⟩:=Hr.out.g2;replace Hb:=ak Hb ae;clear ae;have an9:w.heap.size<w2.heap.size:=Hr.out.lt;have nO:=Hr.out.lt;go_wp2_with fail;obtain⟨R,hR⟩:∃R:World->Prop,(λW2=>ag W2 (w2.heap.size) 112 [.string (bs (nt one.natAbs)),.bool (aj one)]/\Bw w2 W2)=R:=⟨_,rfl⟩;first|refine bB R ?hR ?_|refine bz R ?hR ?_
 case hR=>subst hR;exact⟨(ag.newAt w2 _ _ (b:=w2.heap.size) rfl),zl⟩
 subst hR;rintro W2 ⟨qs,ae⟩;have Hs:=af qs;clear qs r0 ah r1 ai;replace Hr:=kB Hr ae;obtain⟨r0,ah,r1,ai⟩:=Hr.out.g2;obtain⟨s0,aO,s1,aP⟩:=Hs.out.g2;replace Hb:=ak Hb ae;clear ae
 go_loopw[5,10] (λ_ i wr=>∃(k:Nat) (t:Bool),k<=xs.length/\i=.int .i64 k/\iv t (nt (fN (xs.take k)).natAbs)=fN (xs.take k)/\ag wr w.heap.size 32 [.bool false,.string (bs [])]/\
  ag wr w2.heap.size 112 [.string (bs (nt (fN (xs.take k)).natAbs)),.bool t]/\Bw w wr) (λ_ i _=>xs.length-(intOf i).toNat)
 case atStart=>
  have e:fN (xs.take 0)=one:=by rw[<-zP.out];simp[fN]
  refine⟨0,aj one,Nat.zero_le _,rfl,?_,Hr.out,?_,Hb.out⟩
  . rw[e];exact dI one
  . rw[e];exact Hs.out
 case round=>
  obtain⟨k,t,hk,rfl,pZ,qr,qs,hb⟩:=hrel;replace Hr:=af qr;replace Hs:=af qs;replace Hb:=af hb;have kU:=af pZ;clear qr qs hb pZ r0 r1 ah ai s0 s1 aO aP;by_cases hlt:k<xs.length
  . obtain⟨b,o,hab,hcs⟩:=(Ha.out.below Hb.out).elem (f:=EX) (sz:=2) (λ_=>rfl) zd k hlt;have hc0:wr.cell? ⟨b,o+k*2,none⟩=some (.bool xs[k].1):=hcs 0 zd;have hc1:wr.cell? ⟨b,o+k*2+1,none⟩=some (.string (bs xs[k].2)):=hcs 1 zd;have aX:=se xs.length cap k (k:Int) hab hlt rfl;have bR:=af (ahk xs k hlt);have kO:Hid (xs[k].2.length<=34359738368):=by have:=ahe xs _ (List.getElem_mem hlt);have:=Hl.out;show _<=_;omega
    have iW:=af (yU.out k);clear hcs hab;generalize xs[k]=x at*;obtain⟨t1,l1⟩:=x;generalize hS:fN (xs.take k)=S at*;have HS:=af hS;clear hS;obtain⟨r0,ah,r1,ai⟩:=Hr.out.g2;obtain⟨s0,aO,s1,aP⟩:=Hs.out.g2;have Fh:=Hr.out.lt;have MH:=Hs.out.lt;go_wp2_with fail;obtain⟨R,hR⟩:∃R:World->Prop,(λW1=>ag W1 (wr.heap.size) 32 [.bool t1,.string (bs l1)]/\Bw wr W1)=R:=⟨_,rfl⟩;first|refine bB R ?hR ?_|refine bz R ?hR ?_
    case hR=>subst hR;exact⟨(ag.newAt wr _ _ (b:=wr.heap.size) rfl),zl⟩
    subst hR;rintro W1 ⟨qa,ae⟩;have Ha:=af qa;clear qa r0 ah r1 ai;replace Hr:=kB Hr ae;obtain⟨r0,ah,r1,ai⟩:=Hr.out.g2;clear s0 aO s1 aP;replace Hs:=kB Hs ae;obtain⟨s0,aO,s1,aP⟩:=Hs.out.g2;obtain⟨a0,a1⟩:=Ha.out.c2;replace Hb:=ak Hb ae;clear ae;go_region_with (first| (go_at_call 114;refine(Gl l1 t1 _).mono ?_;rintro e w3 ⟨rfl,hq⟩;have hw3:Bw W1 w3:=aK hq;clear hq;have Nr:=cell_later hw3 s0;have Nt:=cell_later hw3 s1;have afx:=(Hs.out.below hw3).free 0;have afz:=(Hs.out.below hw3).free 1) | (go_at_call 136;refine(alj (nt S.natAbs) l1 t t1 _ iW.out (by have:=kO.out;omega)).mono ?_;rintro e w4 ⟨rfl,hw4⟩;have akj:=cell_later hw4 Nr;have akm:=cell_later hw4 Nt;have afy:=((Hs.out.below hw3).below hw4).free 0;have afA:=((Hs.out.below hw3).below hw4).free 1))
    all_goals
     go_wp2
     go_roundw
     case rel=>
      have hq:=ahp t (nt S.natAbs) t1 l1;rw[kU.out,<-bR.out]at hq;have hq2:nv (nt S.natAbs) *nv l1=(fN (xs.take (k+1))).natAbs:=by rw[bR.out,Int.natAbs_mul,qo,iG]
      rw[hq2]at hq⊢;refine⟨k+1,_,by omega,by go_num,hq,((((Hr.out.below hw3).below hw4).aqG ⟨w2.heap.size,0,none⟩ zp _).aqG ⟨w2.heap.size,1,none⟩ zp _),((((Hs.out.below hw3).below hw4).set 0 _).set 1 _),?_⟩;exact((aG (aG Hb.out hw3) hw4).setCell zp _).setCell zp _
     case measure=>simp[intOf];omega
  . obtain rfl:k=xs.length:=by omega
    rw[List.take_length]at Hs kU;have iW:=yU.out xs.length;rw[List.take_length]at iW;obtain⟨r0,ah,r1,ai⟩:=Hr.out.g2;obtain⟨s0,aO,s1,aP⟩:=Hs.out.g2;go_wp2_with fail;refine(uo (nt (fN xs).natAbs) t _ zo).mono ?_;rintro e w3 ⟨rfl,ae⟩;clear r0 ah r1 ai s0 aO s1 aP;replace Hr:=kB Hr ae;replace Hs:=kB Hs ae;obtain⟨r0,ah,r1,ai⟩:=Hr.out.g2;obtain⟨s0,aO,s1,aP⟩:=Hs.out.g2;replace Hb:=ak Hb ae;clear ae;rw[kU.out];go_wp2;refine bodyPost_ret (v:=bM (fN xs)) (by simp[results,Tryz.results88,go_sem,r0,r1]) rfl ⟨rfl,?_⟩;(repeat first|exact Hb.out| (refine Below.setCell ?_ (by have:=Hb.out.size;first| (dsimp only;omega) | (show _<=_;omega) | (simp<;>omega)) _) | (refine Below.alloc ?_ zt _) |refine Below.drew ?_)
theorem Yn (v:Nat)(h:0<v):∃m,v=2^tz v* (2*m+1):=by
 induction v using Nat.strongRecOn with
 | _ v ih=>
   by_cases he:v%2=0
   . obtain⟨u,rfl⟩:∃u,v=2*u:=⟨v/2,by omega⟩;obtain⟨m,hm⟩:=ih u zo zo;refine⟨m,?_⟩;have e:tz (2*u)=tz u+1:=by unfold tz;rw[show((2*u:Nat):Int)=2* (u:Int)by omega];exact Int.trailingZeros_two_mul zo
     rw[e,Nat.pow_succ];conv=>lhs;rw[hm]
     rw[Nat.mul_comm (2^tz u) 2,Nat.mul_assoc]
   . refine⟨v/2,?_⟩;have e:tz v=0:=by unfold tz;exact Int.trailingZeros_eq_zero_of_mod_eq zo
     rw[e];omega
theorem Yl (v k:Nat)(h:0<v):tz v<k↔v%2^k≠0:=by
 obtain⟨m,hm⟩:=Yn v h;generalize tz v=c at*;constructor
 . intro hc h0;have hd:2^k∣v:=Nat.dvd_of_mod_eq_zero h0;have hd2:2^(c+1)∣v:=Nat.dvd_trans (Nat.pow_dvd_pow 2 hc) hd;rw[hm,Nat.pow_succ]at hd2;have:=Nat.dvd_of_mul_dvd_mul_left (Nat.pow_pos zd) hd2;omega
 . intro hne;rcases Nat.lt_or_ge c k with h1|h1
   . exact h1
   . exfalso;apply hne
     rw[hm];exact Nat.mod_eq_zero_of_dvd (Nat.dvd_trans (Nat.pow_dvd_pow 2 h1) (Nat.dvd_mul_right _ _))
theorem ai1 (v k:Nat)(h:v%2^k=0): -(v:Int)/2^k= -((v/2^k:Nat):Int):=by
 obtain⟨q,rfl⟩:=Nat.dvd_of_mod_eq_zero h;have hp:=Nat.pow_pos (n:=k) (show 0<2 by decide);rw[Nat.mul_div_cancel_left _ hp];have e: -((2^k*q:Nat):Int)=2^k* (-(q:Int)):=by simp[Int.natCast_mul,Int.natCast_pow,Int.mul_neg]
 rw[e,Int.mul_ediv_cancel_left];have:((2^k:Nat):Int)≠0:=by omega
 simpa[Int.natCast_pow]using this
theorem ai2 (v k:Nat)(h:v%2^k≠0): -(v:Int)/2^k= -((v/2^k:Nat):Int)-1:=by
 have hp:=Nat.pow_pos (n:=k) (show 0<2 by decide);have e:=(Nat.mod_add_div v (2^k)).symm;have hr:=Nat.mod_lt v hp;rw[show((2:Int)^k)=((2^k:Nat):Int)by simp[Int.natCast_pow]];generalize v%2^k=r at*;generalize v/2^k=q at*;generalize 2^k=p at*;subst e;have e2: -((r+p*q:Nat):Int)=((p:Int)-r)+p* (-(q:Int)-1):=by rw[Int.natCast_add,Int.natCast_mul,Int.mul_sub,Int.mul_neg,Int.mul_one];omega
 rw[e2,Int.add_mul_ediv_left _ _ zo,Int.ediv_eq_zero_of_lt zo zo];omega
theorem ai9 (l:List UInt8)(k B:Nat)(hl:l.length<=B):(nt (nv l/2^k)).length<=B:=lL (Nat.lt_of_le_of_lt (Nat.div_le_self _ _) (Nat.lt_of_lt_of_le (iF l) (Nat.pow_le_pow_right zd hl)))
theorem YB (s:Bool)(l:List UInt8)(k:Nat)(w:World)(hl:l.length<=34359738368)(hk:0<k)(hk2:k<=1099511627776)(hT:au w):
 Calls Tryz.prog 38 #[.agg #[.bool s,.string (bs l)],.int .i64 (-(k:Int))] w λe w'=>e=.returned (bM (iv s l/2^k))/\Bw w w':=by
 have hmax:max (-(k:Int)) (-1099511627776)= -(k:Int):=by omega
 have hlen:(nt (nv l/2^k)).length<=34359738368:=ai9 l k _ hl;obtain⟨Z,hZ⟩:=az (nv l/2^k);have EQ:∀W,Calls Tryz.prog 80 #[.string (bs l),.int .i64 (k:Int)] W λe w'=>e=.returned (.string (bs (nt Z)))/\Bw W w':=λW=>by rw[<-hZ];exact aiZ l k W zo hk2
 rw[hZ]at hlen;have HZ:=af hZ;clear hZ;have abz:=af EQ;clear EQ;obtain⟨M,hM⟩:=az (iv s (nt Z));have HM:=af hM;clear hM;have Uw:∀W,Calls Tryz.prog 77 #[.agg #[.string (bs (nt Z)),.bool s]] W λe w'=>e=.returned (bM M)/\Bw W w':=λW=>by have:=uo (nt Z) s W zo;rw[HM.out]at this;exact this
 have aaS:=af Uw;clear Uw;go_enter Tryz.func38,Tryz.ntmps38;have Hb:Hid (Bw w w):=Below.refl _ _;go_upto_region 4 with fail
 go_wp2_with fail;obtain⟨R,hR⟩:∃R:World->Prop,(λW=>ag W (w.heap.size) 32 [.bool s,.string (bs l)]/\ag W (w.heap.size+1) 32 [.bool false,.string (bs [])]/\Bw w W)=R:=⟨_,rfl⟩;first|refine bB R ?hR ?_|refine bz R ?hR ?_
 case hR=>subst hR;exact⟨((ag.newAt w _ _ (b:=w.heap.size) rfl).alloc _),(ag.newAt (w.alloc _) _ _ (b:=w.heap.size+1) zm),(zl.alloc zj _)⟩
 subst hR;rintro W ⟨qx,qr,ae⟩;have Hx:=af qx;clear qx;have Hr:=af qr;clear qr;obtain⟨x0,x1⟩:=Hx.out.c2;obtain⟨r0,ah,r1,ai⟩:=Hr.out.g2;replace Hb:=ak Hb ae;clear ae;go_cut[5] (λs5 wx=>∃g:Nat,s5=.pointer (some ⟨g,0,none⟩)/\w.heap.size+1<g/\ag wx w.heap.size 32 [.bool s,.string (bs l)]/\ag wx (w.heap.size+1) 32 [.bool false,.string (bs [])]/\ag wx g 32 [.bool (aj M),.string (bs (nt M.natAbs))]/\Bw w wx);case first=>
  have hxW:w.heap.size<W.heap.size:=Hx.out.lt;have hrW:w.heap.size+1<W.heap.size:=Hr.out.lt;have hwk:IntKind.i64.wrap (k:Int)=(k:Int):=by rw[IntKind.wrap_i64];omega
  go_region_held3 (λw'=>w'.cell? ⟨w.heap.size,0,none⟩=some (.bool s)/\w'.cell? ⟨w.heap.size,1,none⟩=some (.string (bs l))) (((try dsimp only);go_split_ands;(repeat' apply And.intro)<;>(first|with_reducible assumption|exact aH (by with_reducible assumption) |exact JJ (by with_reducible assumption) |exact JJ (aH (by with_reducible assumption)) | ((with_reducible refine eW zf ?_);(repeat(with_reducible refine eW zf ?_));first|with_reducible assumption|exact aH (by with_reducible assumption) |exact JJ (by with_reducible assumption)) |go_keep))) (first| (go_at_call 80;(with_reducible refine(abz.out _).mono ?_);rintro e w1 ⟨rfl,hq⟩;(first| (have hw1:Bw W w1:=aK hq) | (have hw1:Bw W w1:=rF hq;have zL:=af (ag.below (ag.drew (ag.new W 32 [.bool false,.string (bs [])])) hq);have apT:w1.cell? ⟨W.heap.size,0,none⟩=some (.bool false):=zL.out.cell 0;have apU:w1.cell? ⟨W.heap.size,1,none⟩=some (.string (bs [])):=zL.out.cell 1;have am2:=zL.out.free 0;have am3:=zL.out.free 1));clear hq;have zs1:=hw1.size;obtain⟨Jj,abu⟩:=aJ (Hx.out.below hw1) (Hr.out.below hw1);have ap8:w1.cell? ⟨w.heap.size,0,none⟩=some (.bool s):=Jj.out.cell 0;have aqg:w1.cell? ⟨w.heap.size,1,none⟩=some (.string (bs l)):=Jj.out.cell 1) | (go_at_call 77;(with_reducible refine(aaS.out _).mono ?_);rintro e w2 ⟨rfl,hq⟩;(first| (have hw2:Bw w1 w2:=hq;(try(have nX:=af (ag.below zL.out hq);have aiL:w2.cell? ⟨W.heap.size,0,none⟩=some (.bool false):=nX.out.cell 0;have aiO:w2.cell? ⟨W.heap.size,1,none⟩=some (.string (bs [])):=nX.out.cell 1;have afm:=nX.out.free 0;have afn:=nX.out.free 1))) | (have hw2:Bw w1 w2:=ov hq;have nX:=af (ag.below (ag.new w1 32 [.bool false,.string (bs [])]) hq);have aiL:w2.cell? ⟨w1.heap.size,0,none⟩=some (.bool false):=nX.out.cell 0;have aiO:w2.cell? ⟨w1.heap.size,1,none⟩=some (.string (bs [])):=nX.out.cell 1;have afm:=nX.out.free 0;have afn:=nX.out.free 1));clear hq;have zs2:=hw2.size;obtain⟨zX,IQ⟩:=aJ (Jj.out.below hw2) (abu.out.below hw2);have ap9:w2.cell? ⟨w.heap.size,0,none⟩=some (.bool s):=zX.out.cell 0;have aqh:w2.cell? ⟨w.heap.size,1,none⟩=some (.string (bs l)):=zX.out.cell 1))
  all_goals(go_wp2_with fail;go_meet)
  . exact⟨w2.heap.size,rfl,by omega,zX.out.alloc _,IQ.out.alloc _,ag.new _ _ _,(aG (aG Hb.out hw1) hw2).alloc zo _⟩
  . exact⟨w1.heap.size,rfl,by omega,((zX.out.aqG ⟨w1.heap.size,0,none⟩ (by first| (dsimp only;omega) |omega| (simp<;>omega)) _).aqG ⟨w1.heap.size,1,none⟩ (by first| (dsimp only;omega) |omega| (simp<;>omega)) _),((IQ.out.aqG ⟨w1.heap.size,0,none⟩ (by first| (dsimp only;omega) |omega| (simp<;>omega)) _).aqG ⟨w1.heap.size,1,none⟩ (by first| (dsimp only;omega) |omega| (simp<;>omega)) _),((nX.out.set 0 _).set 1 _),((aG (aG Hb.out hw1) hw2).setCell (by first| (dsimp only;omega) |omega| (simp<;>omega)) _).setCell (by first| (dsimp only;omega) |omega| (simp<;>omega)) _⟩
  . exact⟨W.heap.size,rfl,hrW,((zX.out.aqG ⟨W.heap.size,0,none⟩ (by first| (dsimp only;omega) |omega| (simp<;>omega)) _).aqG ⟨W.heap.size,1,none⟩ (by first| (dsimp only;omega) |omega| (simp<;>omega)) _),((IQ.out.aqG ⟨W.heap.size,0,none⟩ (by first| (dsimp only;omega) |omega| (simp<;>omega)) _).aqG ⟨W.heap.size,1,none⟩ (by first| (dsimp only;omega) |omega| (simp<;>omega)) _),((nX.out.set 0 _).set 1 _),((aG (aG Hb.out hw1) hw2).setCell (by first| (dsimp only;omega) |omega| (simp<;>omega)) _).setCell (by first| (dsimp only;omega) |omega| (simp<;>omega)) _⟩
 case rest=>
  obtain⟨g,rfl,hg,qx,qr,qn,qb⟩:=hcut;replace Hx:=af qx;replace Hr:=af qr;have Hn:=af qn;replace Hb:=af qb;clear qx qr qn qb x0 x1 r0 r1 ah ai;cases s
  . obtain ⟨x0,x1⟩:=Hx.out.c2;obtain⟨r0,ah,r1,ai⟩:=Hr.out.g2;obtain⟨n0,n1⟩:=Hn.out.c2;have fg:Hid (iv false l/2^k=M):=by
     show _=_
     rw[<-HM.out,<-HZ.out,su];unfold iv;simp[Int.natCast_pow]
    go_wp2;refine bodyPost_ret (v:=bM M) (by simp[results,Tryz.results38,go_sem,r0,r1]) rfl ⟨by rw[fg.out],?_⟩;(repeat first|exact Hb.out| (refine Below.setCell ?_ (by have:=Hb.out.size;first| (dsimp only;omega) | (show _<=_;omega) | (simp<;>omega)) _) | (refine Below.alloc ?_ zt _) |refine Below.drew ?_)
  . obtain⟨x0,x1⟩:=Hx.out.c2;obtain⟨r0,ah,r1,ai⟩:=Hr.out.g2;obtain⟨n0,n1⟩:=Hn.out.c2;have mS:Hid (l.length<=68719476736):=by show _<=_;omega
    by_cases h0:nv l=0
    . have hb0:aU (nv l)=0:=by rw[h0];rfl
      have fg:Hid (iv true l/2^k=M):=by
       show _=_
       rw[<-HM.out,<-HZ.out,su,h0];unfold iv;simp[h0]
      have jI:=af hb0;clear hb0;go_wp2_with fail;refine(ML l _ mS.out).mono ?_;rintro e w3 ⟨rfl,ae⟩;clear x0 x1 r0 ah r1 ai n0 n1;replace Hx:=kB Hx ae;replace Hr:=kB Hr ae;replace Hn:=kB Hn ae;obtain⟨x0,x1⟩:=Hx.out.c2;obtain⟨r0,ah,r1,ai⟩:=Hr.out.g2;obtain⟨n0,n1⟩:=Hn.out.c2;replace Hb:=ak Hb ae;clear ae;rw[jI.out];go_wp2;refine bodyPost_ret (v:=bM M) (by simp[results,Tryz.results38,go_sem,r0,r1]) rfl ⟨by rw[fg.out],?_⟩;(repeat first|exact Hb.out| (refine Below.setCell ?_ (by have:=Hb.out.size;first| (dsimp only;omega) | (show _<=_;omega) | (simp<;>omega)) _) | (refine Below.alloc ?_ zt _) |refine Below.drew ?_)
    . have hbp:0<aU (nv l):=Dp zo;have yY:Hid (au wc):=hT.below Hb.out;by_cases hz:tz (nv l)<k
      . have fg:Hid (iv true l/2^k=M-1):=by
         show _=_
         rw[<-HM.out,<-HZ.out,su];have:=(Yl (nv l) k zo).1 hz;unfold iv;simp only[if_true];exact ai2 _ _ this
        have Zi:Hid ((nt M.natAbs).length<=34359738368):=by show _<=_;rw[<-HM.out,qo,iG];exact hlen
        obtain⟨one,hone⟩:∃one:Int,1=one:=⟨_,rfl⟩;have Hol:Hid ((nt one.natAbs).length<=34359738368):=by show _<=_;rw[<-hone];exact Nat.le_trans (lL (k:=1) zd) zd
        have zP:=af hone;clear hone;have abF:Hid (iv (aj M) (nt M.natAbs)-iv (aj one) (nt one.natAbs)=M-1):=by show _=_;rw[dI,dI,<-zP.out]
        go_wp2_with fail;refine(ML l _ mS.out).mono ?_;rintro e w3 ⟨rfl,ae⟩;clear x0 x1 r0 ah r1 ai n0 n1;replace Hx:=kB Hx ae;replace Hr:=kB Hr ae;replace Hn:=kB Hn ae;obtain⟨x0,x1⟩:=Hx.out.c2;obtain⟨r0,ah,r1,ai⟩:=Hr.out.g2;obtain⟨n0,n1⟩:=Hn.out.c2;replace Hb:=ak Hb ae;clear ae;replace yY:=af (hT.below Hb.out);go_wp2_with fail;refine(MM l _ mS.out yY.out).mono ?_;rintro e w4 ⟨rfl,ae⟩;clear x0 x1 r0 ah r1 ai n0 n1;replace Hx:=kB Hx ae;replace Hr:=kB Hr ae;replace Hn:=kB Hn ae;obtain⟨x0,x1⟩:=Hx.out.c2;obtain⟨r0,ah,r1,ai⟩:=Hr.out.g2;obtain⟨n0,n1⟩:=Hn.out.c2;replace Hb:=ak Hb ae;clear ae;go_wp2_with fail;have nen:g≠w.heap.size+1:=by omega
        go_region_held3 (λw'=>w'.cell? ⟨g,0,none⟩=some (.bool (aj M))/\w'.cell? ⟨g,1,none⟩=some (.string (bs (nt M.natAbs)))) (((try dsimp only);go_split_ands;(repeat' apply And.intro)<;>(first|exact True.intro|with_reducible assumption| ((with_reducible refine eW zg ?_);(repeat(with_reducible refine eW zg ?_));with_reducible assumption) |exact cell_later (by with_reducible assumption) (by with_reducible assumption) |exact aH (by with_reducible assumption) |go_keep))) (first| (go_at_call 36;(with_reducible refine(Gi 1 one zP.out _ zo zo).mono ?_);rintro e w5 ⟨rfl,hq⟩;have cz:Bw w4 w5:=(by first|exact aK hq|exact hq|exact ow hq|exact ov hq|exact rF hq);clear hq;obtain⟨Qj,xq⟩:=aJ (Hx.out.below cz) (Hr.out.below cz);have ajW:w5.cell? ⟨w.heap.size+1,0,none⟩=some (.bool false):=xq.out.cell 0;have aft:w5.frozen? ⟨w.heap.size+1,0,none⟩=false:=xq.out.free 0;have ajY:w5.cell? ⟨w.heap.size+1,1,none⟩=some (.string (bs [])):=xq.out.cell 1;have afv:w5.frozen? ⟨w.heap.size+1,1,none⟩=false:=xq.out.free 1;have CV:=af (Hn.out.below cz);have aiM:w5.cell? ⟨g,0,none⟩=some (.bool (aj M)):=CV.out.cell 0;have aiP:w5.cell? ⟨g,1,none⟩=some (.string (bs (nt M.natAbs))):=CV.out.cell 1) | (go_at_call 37;(with_reducible refine(Gk (aj M) (nt M.natAbs) (aj one) (nt one.natAbs) _ Zi.out Hol.out).mono ?_);rintro e w6 ⟨rfl,hq⟩;have BJ:Bw w5 w6:=(by first|exact aK hq|exact hq|exact ow hq|exact ov hq|exact rF hq);clear hq;obtain⟨abY,zS⟩:=aJ (Qj.out.below BJ) (xq.out.below BJ);have ajX:w6.cell? ⟨w.heap.size+1,0,none⟩=some (.bool false):=zS.out.cell 0;have afu:w6.frozen? ⟨w.heap.size+1,0,none⟩=false:=zS.out.free 0;have ajZ:w6.cell? ⟨w.heap.size+1,1,none⟩=some (.string (bs [])):=zS.out.cell 1;have afw:w6.frozen? ⟨w.heap.size+1,1,none⟩=false:=zS.out.free 1;have II:=af (CV.out.below BJ);have aiN:w6.cell? ⟨g,0,none⟩=some (.bool (aj M)):=II.out.cell 0;have aiQ:w6.cell? ⟨g,1,none⟩=some (.string (bs (nt M.natAbs))):=II.out.cell 1))
        replace Hb:=af (aG Hb.out cz);clear cz;replace Hb:=af (aG Hb.out BJ);clear BJ x0 x1 r0 ah r1 ai n0 n1;replace Hx:=abY;clear Qj;replace Hr:=zS;clear xq ajW aft ajY afv ajX afu ajZ afw;replace Hn:=II;clear CV aiM aiP aiN aiQ;obtain⟨x0,x1⟩:=Hx.out.c2;obtain⟨r0,ah,r1,ai⟩:=Hr.out.g2;obtain⟨n0,n1⟩:=Hn.out.c2;rw[abF.out];go_wp2;refine bodyPost_ret (v:=bM (M-1)) (by simp[results,Tryz.results38,go_sem,r0,r1]) rfl ⟨by rw[fg.out],?_⟩;(repeat first|exact Hb.out| (refine Below.setCell ?_ (by have:=Hb.out.size;first| (dsimp only;omega) | (show _<=_;omega) | (simp<;>omega)) _) | (refine Below.alloc ?_ zt _) |refine Below.drew ?_)
      . have fg:Hid (iv true l/2^k=M):=by
         show _=_
         rw[<-HM.out,<-HZ.out,su];have h2:nv l%2^k=0:=by
          rcases Nat.eq_zero_or_pos (nv l%2^k)with h|h
          . exact h
          . exact absurd ((Yl (nv l) k zo).2 zo) hz
         unfold iv;simp only[if_true];exact ai1 _ _ h2
        go_wp2_with fail;refine(ML l _ mS.out).mono ?_;rintro e w3 ⟨rfl,ae⟩;clear x0 x1 r0 ah r1 ai n0 n1;replace Hx:=kB Hx ae;replace Hr:=kB Hr ae;replace Hn:=kB Hn ae;obtain⟨x0,x1⟩:=Hx.out.c2;obtain⟨r0,ah,r1,ai⟩:=Hr.out.g2;obtain⟨n0,n1⟩:=Hn.out.c2;replace Hb:=ak Hb ae;clear ae;replace yY:=af (hT.below Hb.out);go_wp2_with fail;refine(MM l _ mS.out yY.out).mono ?_;rintro e w4 ⟨rfl,ae⟩;clear x0 x1 r0 ah r1 ai n0 n1;replace Hx:=kB Hx ae;replace Hr:=kB Hr ae;replace Hn:=kB Hn ae;obtain⟨x0,x1⟩:=Hx.out.c2;obtain⟨r0,ah,r1,ai⟩:=Hr.out.g2;obtain⟨n0,n1⟩:=Hn.out.c2;replace Hb:=ak Hb ae;clear ae;go_wp2;refine bodyPost_ret (v:=bM M) (by simp[results,Tryz.results38,go_sem,r0,r1]) rfl ⟨by rw[fg.out],?_⟩;(repeat first|exact Hb.out| (refine Below.setCell ?_ (by have:=Hb.out.size;first| (dsimp only;omega) | (show _<=_;omega) | (simp<;>omega)) _) | (refine Below.alloc ?_ zt _) |refine Below.drew ?_)
end Go.Proofs.YtoopepmmepmfnaaGreatDoor
