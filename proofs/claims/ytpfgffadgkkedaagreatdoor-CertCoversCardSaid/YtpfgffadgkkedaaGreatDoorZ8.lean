/- Package whole,on: Sub,Cmp,Mul,Shift. -/
import Derived.Test.YtpfgffadgkkedaaGreatDoorZ6
import Derived.Deep.DeepCutAuto
set_option linter.all false
set_option maxRecDepth 100000
set_option maxHeartbeats 16000000
namespace Go.Proofs.YtpfgffadgkkedaaGreatDoor
open Go.RowKit
attribute [local go_sem ↓] Go.wp_at_zero Go.wp_at_succ
def agc (s:Bool)(l:List UInt8)(t:Bool)(m:List UInt8)(b cap:Nat)(ty:TypeId)(w:World)(hl:l.length<=34359738368)(hm:m.length<=34359738368)
 (ha:ar w b ty [ag s,ah l,ag t,ah m]):
 Cv 167 #[.slice (some ⟨b,0,none⟩) 2 cap] w (cS (iv s l+iv t m)):=by
 have:=awf [(s,l),(t,m)] (some ⟨b,0,none⟩) cap w (by simp[hl,hm]) zm (At.azW ha);have e:mB [(s,l),(t,m)]=iv s l+iv t m:=by simp[mB]
 rw[e]at this;exact this
def Je (s:Bool)(m:List UInt8)(B:Nat)(hm:m.length<=B):(nt (-(iv s m)).natAbs).length<=B:=by rw[Int.natAbs_neg,uf];exact kC (Nat.lt_of_lt_of_le (ia m) (Nat.pow_le_pow_right zd hm))
def NI (s:Bool)(l:List UInt8)(N:Int)(hN: -(iv s l)=N)(w:World)(hl:l.length<=1099511627776):
 Cv 214 #[.agg #[ag s,ah l]] w (cS N):=by
 subst hN;exact agh s l w hl
def VR (s:Bool)(l:List UInt8)(t:Bool)(m:List UInt8)(w:World)(hl:l.length<=34359738368)(hm:m.length<=34359738368):
 Cv 249 #[.agg #[.bool s,.string (bs l)],.agg #[.bool t,.string (bs m)]] w (cS (iv s l-iv t m)):=by
 have hm2:=Je t m 34359738368 hm;have He:Hid (iv s l+iv (az (-(iv t m))) (nt (-(iv t m)).natAbs)=iv s l-iv t m):=by show _=_;rw[fu];omega
 generalize hN: -(iv t m)=N at*;have HN:=aj hN;clear hN;go_enter Tryz.func249,Tryz.ntmps249;have Hb:=hbz w;go_wp2_with fail;obtain⟨R,hR⟩:∃R:World->Prop,(λW=>ar W (w.heap.size) 43 [.bool s,.string (bs l)]/\ar W (w.heap.size+1) 43 [.bool t,.string (bs m)]/\ar W (w.heap.size+1+1) 43 [.bool false,.string (bs [])]/\Bw w W)=R:=⟨_,rfl⟩;first|refine eN R ?hR ?_|refine eJ R ?hR ?_
 case hR=>subst hR;exact⟨(((ar.newAt w _ _ (b:=w.heap.size) rfl).alloc _).alloc _),((ar.newAt (w.alloc _) _ _ (b:=w.heap.size+1) zm).alloc _),(ar.newAt ((w.alloc _).alloc _) _ _ (b:=w.heap.size+1+1) zm),((zl.alloc zj _).alloc zj _)⟩
 subst hR;rintro W ⟨qx,qy,qr,ak⟩;have Hx:=aj qx;clear qx;have Hy:=aj qy;clear qy;have Hr:=aj qr;clear qr;obtain⟨x0,x1⟩:=Hx.out.c2;obtain⟨y0,y1⟩:=Hy.out.c2;obtain⟨r0,aZ,r1,bf⟩:=Hr.out.g2;replace Hb:=bj Hb ak;have Uw:w.heap.size≠w.heap.size+1+1:=by omega
 have ney:w.heap.size+1≠w.heap.size+1+1:=by omega
 go_region_held3 (λw'=>w'.cell? ⟨w.heap.size,0,none⟩=some (.bool s)/\w'.cell? ⟨w.heap.size,1,none⟩=some (.string (bs l))/\w'.cell? ⟨w.heap.size+1,0,none⟩=some (.bool t)/\w'.cell? ⟨w.heap.size+1,1,none⟩=some (.string (bs m))) (((try dsimp only);go_split_ands;(repeat' apply And.intro)<;>(first|exact True.intro|with_reducible assumption| ((with_reducible refine gG zg ?_);(repeat(with_reducible refine gG zg ?_));with_reducible assumption) |exact cell_later (by with_reducible assumption) (by with_reducible assumption) |exact aM (by with_reducible assumption) |go_keep))) (first| (go_at_call 214;(with_reducible refine(NI t m N HN.out _ zo).mono ?_);rintro e w1 ⟨rfl,hq⟩;have hw1:Bw W w1:=(by first|exact cM hq|exact hq|exact sP hq|exact sO hq|exact wh hq);clear hq;have lQ:=aj (Hx.out.below hw1);have BX:w1.cell? ⟨w.heap.size,0,none⟩=some (.bool s):=lQ.out.cell 0;have BZ:w1.cell? ⟨w.heap.size,1,none⟩=some (.string (bs l)):=lQ.out.cell 1;have ry:=aj (Hy.out.below hw1);have JI:w1.cell? ⟨w.heap.size+1,0,none⟩=some (.bool t):=ry.out.cell 0;have JJ:w1.cell? ⟨w.heap.size+1,1,none⟩=some (.string (bs m)):=ry.out.cell 1;have ik:=aj (Hr.out.below hw1);have BP:w1.cell? ⟨w.heap.size+1+1,0,none⟩=some (.bool false):=ik.out.cell 0;have Aw:w1.frozen? ⟨w.heap.size+1+1,0,none⟩=false:=ik.out.free 0;have BQ:w1.cell? ⟨w.heap.size+1+1,1,none⟩=some (.string (bs [])):=ik.out.cell 1;have Ax:w1.frozen? ⟨w.heap.size+1+1,1,none⟩=false:=ik.out.free 1) | (go_at_call 167;(with_reducible refine(agc s l (az N) (nt N.natAbs) w1.heap.size 2 43 _ hl hm2 (by first|exact ar.drew (ar.new _ _ _) |exact ar.new _ _ _)).mono ?_);rintro e w2 ⟨rfl,hq⟩;have hw2:Bw w1 w2:=(by first|exact cM hq|exact hq|exact sP hq|exact sO hq|exact wh hq);clear hq;have Ad:=aj (lQ.out.below hw2);have VZ:w2.cell? ⟨w.heap.size,0,none⟩=some (.bool s):=Ad.out.cell 0;have Wa:w2.cell? ⟨w.heap.size,1,none⟩=some (.string (bs l)):=Ad.out.cell 1;have Qh:=aj (ry.out.below hw2);have awN:w2.cell? ⟨w.heap.size+1,0,none⟩=some (.bool t):=Qh.out.cell 0;have awO:w2.cell? ⟨w.heap.size+1,1,none⟩=some (.string (bs m)):=Qh.out.cell 1;have sH:=aj (ik.out.below hw2);have Vb:w2.cell? ⟨w.heap.size+1+1,0,none⟩=some (.bool false):=sH.out.cell 0;have Rp:w2.frozen? ⟨w.heap.size+1+1,0,none⟩=false:=sH.out.free 0;have Vd:w2.cell? ⟨w.heap.size+1+1,1,none⟩=some (.string (bs [])):=sH.out.cell 1;have Rq:w2.frozen? ⟨w.heap.size+1+1,1,none⟩=false:=sH.out.free 1))
 replace Hb:=aj (aF Hb.out hw1);clear hw1;replace Hb:=aj (aF Hb.out hw2);clear hw2 x0 x1 y0 y1 r0 aZ r1 bf;replace Hx:=Ad;clear lQ BX BZ VZ Wa;replace Hy:=Qh;clear ry JI JJ awN awO;replace Hr:=sH;clear ik BP Aw BQ Ax Vb Rp Vd Rq;obtain⟨x0,x1⟩:=Hx.out.c2;obtain⟨y0,y1⟩:=Hy.out.c2;obtain⟨r0,aZ,r1,bf⟩:=Hr.out.g2;rw[He.out];go_wp2;exact bodyPost_ret (v:=cS (iv s l-iv t m)) (by simp[results,Tryz.results249,go_sem,r0,r1]) rfl ⟨rfl,cK⟩
def awi (s:Bool)(l:List UInt8)(t:Bool)(m:List UInt8)(w:World)(hl:l.length<=34359738368)(hm:m.length<=34359738368)(hd:(nt (iv s l-iv t m).natAbs).length<=1099511627776):
 Cv 239 #[.agg #[ag s,ah l],.agg #[ag t,ah m]] w (af (eF (iv s l-iv t m))):=by
 have Hi:=aj (fu (iv s l-iv t m));go_enter Tryz.func239,Tryz.ntmps239;have Hb:=hbz w;go_wp2_with fail;obtain⟨R,hR⟩:∃R:World->Prop,(λW=>ar W (w.heap.size) 43 [ag s,ah l]/\ar W (w.heap.size+1) 43 [ag t,ah m]/\Bw w W)=R:=⟨_,rfl⟩;first|refine eN R ?hR ?_|refine eJ R ?hR ?_
 case hR=>subst hR;exact⟨((ar.newAt w _ _ (b:=w.heap.size) rfl).alloc _),(ar.newAt (w.alloc _) _ _ (b:=w.heap.size+1) zm),(zl.alloc zj _)⟩
 subst hR;rintro W ⟨qx,qy,ak⟩;have Hx:=aj qx;clear qx;have Hy:=aj qy;clear qy;obtain⟨x0,x1⟩:=Hx.out.c2;obtain⟨y0,y1⟩:=Hy.out.c2;replace Hb:=bj Hb ak;go_wp2_with fail;refine(VR s l t m _ hl hm).mono ?_;rintro e w1 ⟨rfl,ak⟩;obtain⟨Hx,x0,x1⟩:=fI Hx ak;obtain⟨Hy,y0,y1⟩:=fI Hy ak;replace Hb:=bj Hb ak;go_wp2_with fail;refine(JF (az (iv s l-iv t m)) (nt (iv s l-iv t m).natAbs) _ hd).mono ?_;rintro e w2 ⟨rfl,ak⟩;obtain⟨Hx,x0,x1⟩:=fI Hx ak;obtain⟨Hy,y0,y1⟩:=fI Hy ak;replace Hb:=bj Hb ak;rw[Hi.out];go_wp2;go_ret;exact⟨rfl,Hb.out⟩
def VQ (s:Bool)(l:List UInt8)(n:Nat)(w:World)(hl:l.length<=68719476736)(hn:n<=549755813888):
 Cv 209 #[.agg #[.bool s,.string (bs l)],.int .i64 (n:Int)] w (cS (iv s l*2^n)):=by
 have hlen:(nt (nv l*2^n)).length<=1099511627776:=by
  have h1:nv l*2^n<2^(8*l.length+n):=by rw[Nat.pow_add,Nat.pow_mul];exact Nat.mul_lt_mul_of_pos_right (ia l) (Nat.pow_pos zd)
  have h2:=im h1;rw[asH];omega
 have He:Hid (iv s (nt (nv l*2^n))=iv s l*2^n):=by
  show _=_
  rw[rN];unfold iv;cases s<;>simp[Int.natCast_mul,Int.natCast_pow,Int.neg_mul]
 go_enter Tryz.func209,Tryz.ntmps209;have Hb:=hbz w;go_wp2_with fail;obtain⟨R,hR⟩:∃R:World->Prop,(λW=>ar W (w.heap.size) 43 [.bool s,.string (bs l)]/\ar W (w.heap.size+1) 43 [.bool false,.string (bs [])]/\Bw w W)=R:=⟨_,rfl⟩;first|refine eN R ?hR ?_|refine eJ R ?hR ?_
 case hR=>subst hR;exact⟨((ar.newAt w _ _ (b:=w.heap.size) rfl).alloc _),(ar.newAt (w.alloc _) _ _ (b:=w.heap.size+1) zm),(zl.alloc zj _)⟩
 subst hR;rintro W ⟨qx,qr,ak⟩;have Hx:=aj qx;clear qx;have Hr:=aj qr;clear qr;obtain⟨x0,x1⟩:=Hx.out.c2;obtain⟨r0,aZ,r1,bf⟩:=Hr.out.g2;replace Hb:=bj Hb ak;have Uw:w.heap.size≠w.heap.size+1:=by omega
 go_region_held3 (λw'=>w'.cell? ⟨w.heap.size,0,none⟩=some (.bool s)/\w'.cell? ⟨w.heap.size,1,none⟩=some (.string (bs l))) (((try dsimp only);go_split_ands;(repeat' apply And.intro)<;>(first|exact True.intro|with_reducible assumption| ((with_reducible refine gG zg ?_);(repeat(with_reducible refine gG zg ?_));with_reducible assumption) |exact cell_later (by with_reducible assumption) (by with_reducible assumption) |exact aM (by with_reducible assumption) |go_keep))) (first| (go_at_call 257;(with_reducible refine(asq l n _ hl hn).mono ?_);rintro e w1 ⟨rfl,hq⟩;have hw1:Bw W w1:=(by first|exact cM hq|exact hq|exact sP hq|exact sO hq|exact wh hq);clear hq;have lQ:=aj (Hx.out.below hw1);have BX:w1.cell? ⟨w.heap.size,0,none⟩=some (.bool s):=lQ.out.cell 0;have BZ:w1.cell? ⟨w.heap.size,1,none⟩=some (.string (bs l)):=lQ.out.cell 1;have ik:=aj (Hr.out.below hw1);have BP:w1.cell? ⟨w.heap.size+1,0,none⟩=some (.bool false):=ik.out.cell 0;have Aw:w1.frozen? ⟨w.heap.size+1,0,none⟩=false:=ik.out.free 0;have BQ:w1.cell? ⟨w.heap.size+1,1,none⟩=some (.string (bs [])):=ik.out.cell 1;have Ax:w1.frozen? ⟨w.heap.size+1,1,none⟩=false:=ik.out.free 1) | (go_at_call 211;(with_reducible refine(yO (nt (nv l*2^n)) s _ hlen).mono ?_);rintro e w2 ⟨rfl,hq⟩;have hw2:Bw w1 w2:=(by first|exact cM hq|exact hq|exact sP hq|exact sO hq|exact wh hq);clear hq;have Ad:=aj (lQ.out.below hw2);have VZ:w2.cell? ⟨w.heap.size,0,none⟩=some (.bool s):=Ad.out.cell 0;have Wa:w2.cell? ⟨w.heap.size,1,none⟩=some (.string (bs l)):=Ad.out.cell 1;have sH:=aj (ik.out.below hw2);have Vb:w2.cell? ⟨w.heap.size+1,0,none⟩=some (.bool false):=sH.out.cell 0;have Rp:w2.frozen? ⟨w.heap.size+1,0,none⟩=false:=sH.out.free 0;have Vd:w2.cell? ⟨w.heap.size+1,1,none⟩=some (.string (bs [])):=sH.out.cell 1;have Rq:w2.frozen? ⟨w.heap.size+1,1,none⟩=false:=sH.out.free 1))
 replace Hb:=aj (aF Hb.out hw1);clear hw1;replace Hb:=aj (aF Hb.out hw2);clear hw2 x0 x1 r0 aZ r1 bf;replace Hx:=Ad;clear lQ BX BZ VZ Wa;replace Hr:=sH;clear ik BP Aw BQ Ax Vb Rp Vd Rq;obtain⟨x0,x1⟩:=Hx.out.c2;obtain⟨r0,aZ,r1,bf⟩:=Hr.out.g2;rw[He.out];go_wp2;exact bodyPost_ret (v:=cS (iv s l*2^n)) (by simp[results,Tryz.results209,go_sem,r0,r1]) rfl ⟨rfl,cK⟩
def VP (n N:Int)(hN:n=N)(w:World)(h0: -9223372036854775808<=n)(h1:n<=9223372036854775807):
 Cv 125 #[af n] w (cS N):=by
 subst hN;exact VO n w h0 h1
def gY :List (Bool×List UInt8)->Int
 |[]=>1
 |x::xs=>iv x.1 x.2*gY xs
def aqH (xs ys:List (Bool×List UInt8)):gY (xs++ys)=gY xs*gY ys:=by
 induction xs with
 |nil=>simp[gY]
 |cons x xs ih=>simp[gY,ih,Int.mul_assoc]
def aqK (xs:List (Bool×List UInt8))(k:Nat)(hk:k<xs.length):gY (xs.take (k+1))=gY (xs.take k) *iv xs[k].1 xs[k].2:=by rw[List.take_succ_eq_append_getElem hk,aqH];simp[gY]
def qI (xs:List (Bool×List UInt8)):Nat:=(xs.map λx=>x.2.length).sum
def aqz (xs:List (Bool×List UInt8))(k:Nat):qI (xs.take k)<=qI xs:=by
 unfold qI;induction xs generalizing k with
 |nil=>simp
 | cons x xs ih=>cases k with
   |zero=>simp
   |succ k=>simp only[List.take_succ_cons,List.map_cons,List.sum_cons];have:=ih k;omega
def aqy (xs:List (Bool×List UInt8))(x)(h:x∈xs):x.2.length<=qI xs:=by
 unfold qI;induction xs with
 |nil=>simp at h
 | cons y xs ih=>
   simp at h⊢;rcases h with h|h
   . subst h;omega
   . have:=ih h;omega
def aqJ (xs:List (Bool×List UInt8)):(gY xs).natAbs<=256^qI xs:=by
 induction xs with
 |nil=>simp[gY,qI]
 | cons x xs ih=>
   simp only[gY,Int.natAbs_mul,uf];have h1:=ia x.2;have:qI (x::xs)=x.2.length+qI xs:=by simp[qI]
   rw[this,Nat.pow_add];exact Nat.mul_le_mul (Nat.le_of_lt h1) ih
def aqI (xs:List (Bool×List UInt8))(N:Nat)(h:qI xs+1<=N):(nt (gY xs).natAbs).length<=N:=by refine kC (Nat.lt_of_le_of_lt (aqJ xs) ?_);exact Nat.pow_lt_pow_right zd zo
def awl (xs:List (Bool×List UInt8))(a:Option Addr)(cap:Nat)(w:World)(hl:qI xs<=34359738368)(hx:xs.length<=1048576)
 (ha:At w a (xs.flatMap MS)):
 Cv 126 #[.slice a xs.length cap] w (cS (gY xs)):=by
 have Hl:=aj hl;clear hl;have Ha:=aj ha;clear ha;have EE:Hid (∀k,(nt (gY (xs.take k)).natAbs).length<=68719476736):=λk=>aqI _ _ (by have:=aqz xs k;have:=Hl.out;omega);obtain⟨one,hone⟩:∃one:Int,1=one:=⟨_,rfl⟩;have xM:=aj hone;clear hone;go_enter Tryz.func126,Tryz.ntmps126;have Hb:=hbz w;go_wp2_with fail;obtain⟨R,hR⟩:∃R:World->Prop,(λW=>ar W (w.heap.size) 43 [ag false,.string (bs [])]/\Bw w W)=R:=⟨_,rfl⟩;first|refine eN R ?hR ?_|refine eJ R ?hR ?_
 case hR=>subst hR;exact⟨(ar.newAt w _ _ (b:=w.heap.size) rfl),zl⟩
 subst hR;rintro W ⟨qr,ak⟩;have Hr:=aj qr;clear qr;obtain⟨r0,aZ,r1,bf⟩:=Hr.out.g2;replace Hb:=bj Hb ak;go_wp2_with fail;refine(VP 1 one xM.out _ zo zo).mono ?_;rintro e w1 ⟨rfl,ak⟩;obtain⟨Hr,r0,aZ,r1,bf⟩:=dS Hr ak;replace Hb:=bj Hb ak;go_wp2_with fail;refine(NK (nt one.natAbs) (az one) _).mono ?_;rintro e w2 ⟨rfl,ak⟩;obtain⟨Hr,r0,aZ,r1,bf⟩:=dS Hr ak;replace Hb:=bj Hb ak;have ayL:w.heap.size<w2.heap.size:=Hr.out.lt;have ay5:=Hr.out.lt;go_wp2_with fail;obtain⟨R,hR⟩:∃R:World->Prop,(λW2=>ar W2 (w2.heap.size) 224 [ah (nt one.natAbs),ag (az one)]/\Bw w2 W2)=R:=⟨_,rfl⟩;first|refine eN R ?hR ?_|refine eJ R ?hR ?_
 case hR=>subst hR;exact⟨(ar.newAt w2 _ _ (b:=w2.heap.size) rfl),zl⟩
 subst hR;rintro W2 ⟨qs,ak⟩;have Hs:=aj qs;clear qs r0 aZ r1 bf;obtain⟨Hr,r0,aZ,r1,bf⟩:=dS Hr ak;obtain⟨s0,uP,s1,uQ⟩:=Hs.out.g2;replace Hb:=bj Hb ak
 go_loopw[5,10] (λ_ i wr=>∃(k:Nat) (t:Bool),k<=xs.length/\i=af k/\iv t (nt (gY (xs.take k)).natAbs)=gY (xs.take k)/\ar wr w.heap.size 43 [ag false,.string (bs [])]/\
  ar wr w2.heap.size 224 [ah (nt (gY (xs.take k)).natAbs),ag t]/\Bw w wr) (λ_ i _=>xs.length-(intOf i).toNat)
 case atStart=>
  have e:gY (xs.take 0)=one:=by rw[<-xM.out];simp[gY]
  refine⟨0,az one,Nat.zero_le _,rfl,?_,Hr.out,?_,Hb.out⟩
  . rw[e];exact fu one
  . rw[e];exact Hs.out
 case round=>
  obtain⟨k,t,hk,rfl,lu,qr,qs,hb⟩:=hrel;replace Hr:=aj qr;replace Hs:=aj qs;replace Hb:=aj hb;have mM:=aj lu;clear qr qs hb lu r0 r1 aZ bf s0 s1 uP uQ;by_cases hlt:k<xs.length
  . obtain⟨b,o,hab,hcs⟩:=(Ha.out.below Hb.out).elem (f:=MS) (sz:=2) (λ_=>rfl) zd k hlt;have hc0:wr.cell? ⟨b,o+k*2,none⟩=some (ag xs[k].1):=hcs 0 zd;have hc1:wr.cell? ⟨b,o+k*2+1,none⟩=some (.string (bs xs[k].2)):=hcs 1 zd;have aX:=wX xs.length cap k (k:Int) hab hlt rfl;have bN:=aj (aqK xs k hlt);have lI:Hid (xs[k].2.length<=34359738368):=by have:=aqy xs _ (List.getElem_mem hlt);have:=Hl.out;show _<=_;omega
    have kL:=aj (EE.out k);clear hcs hab;generalize xs[k]=x at*;obtain⟨t1,l1⟩:=x;generalize hS:gY (xs.take k)=S at*;have HS:=aj hS;clear hS;obtain⟨r0,aZ,r1,bf⟩:=Hr.out.g2;obtain⟨s0,uP,s1,uQ⟩:=Hs.out.g2;have arF:=Hr.out.lt;have arG:=Hs.out.lt;go_wp2_with fail;obtain⟨R,hR⟩:∃R:World->Prop,(λW1=>ar W1 (wr.heap.size) 43 [ag t1,ah l1]/\Bw wr W1)=R:=⟨_,rfl⟩;first|refine eN R ?hR ?_|refine eJ R ?hR ?_
    case hR=>subst hR;exact⟨(ar.newAt wr _ _ (b:=wr.heap.size) rfl),zl⟩
    subst hR;rintro W1 ⟨qa,ak⟩;have Ha:=aj qa;clear qa r0 aZ r1 bf;obtain⟨Hr,r0,aZ,r1,bf⟩:=dS Hr ak;obtain⟨Hs,s0,uP,s1,uQ⟩:=dS Hs ak;obtain⟨a0,a1⟩:=Ha.out.c2;replace Hb:=bj Hb ak;go_region_with (first| (go_at_call 212;refine(NK l1 t1 _).mono ?_;rintro e w3 ⟨rfl,hq⟩;have hw3:Bw W1 w3:=cM hq;clear hq;have Vk:=cell_later hw3 s0;have Vm:=cell_later hw3 s1;have aoh:=(Hs.out.below hw3).free 0;have aoj:=(Hs.out.below hw3).free 1) | (go_at_call 213;refine(avI (nt S.natAbs) l1 t t1 _ kL.out (by have:=lI.out;omega)).mono ?_;rintro e w4 ⟨rfl,hw4⟩;have auG:=cell_later hw4 Vk;have auJ:=cell_later hw4 Vm;have aoi:=((Hs.out.below hw3).below hw4).free 0;have aok:=((Hs.out.below hw3).below hw4).free 1))
    all_goals
     go_wp2
     go_roundw
     case rel=>
      have hq:=aqP t (nt S.natAbs) t1 l1;rw[mM.out,<-bN.out]at hq;have hq2:nv (nt S.natAbs) *nv l1=(gY (xs.take (k+1))).natAbs:=by rw[bN.out,Int.natAbs_mul,uf,jl]
      rw[hq2]at hq⊢;refine⟨k+1,_,by omega,by go_num,hq,((((Hr.out.below hw3).below hw4).azV ⟨w2.heap.size,0,none⟩ zp _).azV ⟨w2.heap.size,1,none⟩ zp _),((((Hs.out.below hw3).below hw4).set 0 _).set 1 _),?_⟩;exact((aF (aF Hb.out hw3) hw4).setCell zp _).setCell zp _
     case measure=>exact bi
  . obtain rfl:k=xs.length:=by omega
    rw[List.take_length]at Hs mM;have kL:=EE.out xs.length;rw[List.take_length]at kL;obtain⟨r0,aZ,r1,bf⟩:=Hr.out.g2;obtain⟨s0,uP,s1,uQ⟩:=Hs.out.g2;go_wp2_with fail;refine(yO (nt (gY xs).natAbs) t _ zo).mono ?_;rintro e w3 ⟨rfl,ak⟩;obtain⟨Hr,r0,aZ,r1,bf⟩:=dS Hr ak;obtain⟨Hs,s0,uP,s1,uQ⟩:=dS Hs ak;replace Hb:=bj Hb ak;rw[mM.out];go_wp2;exact bodyPost_ret (v:=cS (gY xs)) (by simp[results,Tryz.results126,go_sem,r0,r1]) rfl ⟨rfl,cK⟩
def aog {w wx:World}{a:Addr}{v:Value}(hb:Bw w wx)(hc:w.cell? a=some v)(hf:w.frozen? a=false):wx.frozen? a=false:=
 (hb.frozen (World.block_lt_of_cell? w a hc)).trans hf
def af1 (v:Nat)(h:0<v):∃m,v=2^tz v* (2*m+1):=by
 induction v using Nat.strongRecOn with
 | _ v ih=>
   by_cases he:v%2=0
   . obtain⟨u,rfl⟩:∃u,v=2*u:=⟨v/2,by omega⟩;obtain⟨m,hm⟩:=ih u zo zo;refine⟨m,?_⟩;have e:tz (2*u)=tz u+1:=by unfold tz;rw[show((2*u:Nat):Int)=2* (u:Int)by omega];exact Int.trailingZeros_two_mul zo
     rw[e,Nat.pow_succ];conv=>lhs;rw[hm]
     rw[Nat.mul_comm (2^tz u) 2,Nat.mul_assoc]
   . refine⟨v/2,?_⟩;have e:tz v=0:=by unfold tz;exact Int.trailingZeros_eq_zero_of_mod_eq zo
     rw[e];omega
def afZ (v k:Nat)(h:0<v):tz v<k↔v%2^k≠0:=by
 obtain⟨m,hm⟩:=af1 v h;generalize tz v=c at*;constructor
 . intro hc h0;have hd:2^k∣v:=Nat.dvd_of_mod_eq_zero h0;have hd2:2^(c+1)∣v:=Nat.dvd_trans (Nat.pow_dvd_pow 2 hc) hd;rw[hm,Nat.pow_succ]at hd2;have:=Nat.dvd_of_mul_dvd_mul_left (Nat.pow_pos zd) hd2;omega
 . intro hne;rcases Nat.lt_or_ge c k with h1|h1
   . exact h1
   . exfalso;apply hne
     rw[hm];exact Nat.mod_eq_zero_of_dvd (Nat.dvd_trans (Nat.pow_dvd_pow 2 h1) (Nat.dvd_mul_right _ _))
def asu (v k:Nat)(h:v%2^k=0): -(v:Int)/2^k= -((v/2^k:Nat):Int):=by
 obtain⟨q,rfl⟩:=Nat.dvd_of_mod_eq_zero h;have hp:=Nat.pow_pos (n:=k) (show 0<2 by decide);rw[Nat.mul_div_cancel_left _ hp];have e: -((2^k*q:Nat):Int)=2^k* (-(q:Int)):=by simp[Int.natCast_mul,Int.natCast_pow,Int.mul_neg]
 rw[e,Int.mul_ediv_cancel_left];have:((2^k:Nat):Int)≠0:=by omega
 simpa[Int.natCast_pow]using this
def asv (v k:Nat)(h:v%2^k≠0): -(v:Int)/2^k= -((v/2^k:Nat):Int)-1:=by
 have hp:=Nat.pow_pos (n:=k) (show 0<2 by decide);have e:=(Nat.mod_add_div v (2^k)).symm;have hr:=Nat.mod_lt v hp;rw[show((2:Int)^k)=((2^k:Nat):Int)by simp[Int.natCast_pow]];generalize v%2^k=r at*;generalize v/2^k=q at*;generalize 2^k=p at*;subst e;have e2: -((r+p*q:Nat):Int)=((p:Int)-r)+p* (-(q:Int)-1):=by rw[Int.natCast_add,Int.natCast_mul,Int.mul_sub,Int.mul_neg,Int.mul_one];omega
 rw[e2,Int.add_mul_ediv_left _ _ zo,Int.ediv_eq_zero_of_lt zo zo];omega
def asG (l:List UInt8)(k B:Nat)(hl:l.length<=B):(nt (nv l/2^k)).length<=B:=kC (Nat.lt_of_le_of_lt (Nat.div_le_self _ _) (Nat.lt_of_lt_of_le (ia l) (Nat.pow_le_pow_right zd hl)))
def agj (s:Bool)(l:List UInt8)(k:Nat)(w:World)(hl:l.length<=34359738368)(hk:0<k)(hk2:k<=1099511627776)(hT:aB w):
 Cv 209 #[.agg #[.bool s,.string (bs l)],.int .i64 (-(k:Int))] w (cS (iv s l/2^k)):=by
 have hmax:max (-(k:Int)) (-1099511627776)= -(k:Int):=by omega
 have hlen:(nt (nv l/2^k)).length<=34359738368:=asG l k _ hl;obtain⟨Z,hZ⟩:=au (nv l/2^k);have MH:∀W,Cv 258 #[.string (bs l),.int .i64 (k:Int)] W (.string (bs (nt Z))):=λW=>by rw[<-hZ];exact asr l k W zo hk2
 rw[hZ]at hlen;have HZ:=aj hZ;clear hZ;have ajD:=aj MH;clear MH;obtain⟨M,hM⟩:=au (iv s (nt Z));have HM:=aj hM;clear hM;have acE:∀W,Cv 211 #[.agg #[.string (bs (nt Z)),.bool s]] W (cS M):=λW=>by have:=yO (nt Z) s W zo;rw[HM.out]at this;exact this
 have aiN:=aj acE;clear acE;go_enter Tryz.func209,Tryz.ntmps209;have Hb:=hbz w;go_upto_region 4 with fail
 go_wp2_with fail;obtain⟨R,hR⟩:∃R:World->Prop,(λW=>ar W (w.heap.size) 43 [.bool s,.string (bs l)]/\ar W (w.heap.size+1) 43 [.bool false,.string (bs [])]/\Bw w W)=R:=⟨_,rfl⟩;first|refine eN R ?hR ?_|refine eJ R ?hR ?_
 case hR=>subst hR;exact⟨((ar.newAt w _ _ (b:=w.heap.size) rfl).alloc _),(ar.newAt (w.alloc _) _ _ (b:=w.heap.size+1) zm),(zl.alloc zj _)⟩
 subst hR;rintro W ⟨qx,qr,ak⟩;have Hx:=aj qx;clear qx;have Hr:=aj qr;clear qr;obtain⟨x0,x1⟩:=Hx.out.c2;obtain⟨r0,aZ,r1,bf⟩:=Hr.out.g2;replace Hb:=bj Hb ak;go_cut[5] (λs5 wx=>∃g:Nat,s5=.pointer (some ⟨g,0,none⟩)/\w.heap.size+1<g/\ar wx w.heap.size 43 [.bool s,.string (bs l)]/\ar wx (w.heap.size+1) 43 [.bool false,.string (bs [])]/\ar wx g 43 [.bool (az M),.string (bs (nt M.natAbs))]/\Bw w wx);case first=>
  have hxW:w.heap.size<W.heap.size:=Hx.out.lt;have hrW:w.heap.size+1<W.heap.size:=Hr.out.lt;have hwk:IntKind.i64.wrap (k:Int)=(k:Int):=by rw[IntKind.wrap_i64];omega
  go_region_held3 (λw'=>w'.cell? ⟨w.heap.size,0,none⟩=some (.bool s)/\w'.cell? ⟨w.heap.size,1,none⟩=some (.string (bs l))) (((try dsimp only);go_split_ands;(repeat' apply And.intro)<;>(first|with_reducible assumption|exact aM (by with_reducible assumption) |exact QH (by with_reducible assumption) |exact QH (aM (by with_reducible assumption)) | ((with_reducible refine gG zf ?_);(repeat(with_reducible refine gG zf ?_));first|with_reducible assumption|exact aM (by with_reducible assumption) |exact QH (by with_reducible assumption)) |go_keep))) (first| (go_at_call 258;(with_reducible refine(ajD.out _).mono ?_);rintro e w1 ⟨rfl,hq⟩;(first| (have hw1:Bw W w1:=cM hq) | (have hw1:Bw W w1:=wh hq;have Fi:=aj (ar.below (ar.drew (ar.new W 43 [.bool false,.string (bs [])])) hq);have aze:w1.cell? ⟨W.heap.size,0,none⟩=some (.bool false):=Fi.out.cell 0;have azf:w1.cell? ⟨W.heap.size,1,none⟩=some (.string (bs [])):=Fi.out.cell 1;have axI:=Fi.out.free 0;have axJ:=Fi.out.free 1));clear hq;have zs1:=hw1.size;obtain⟨Qf,ajq⟩:=aH (Hx.out.below hw1) (Hr.out.below hw1);have azC:w1.cell? ⟨w.heap.size,0,none⟩=some (.bool s):=Qf.out.cell 0;have azE:w1.cell? ⟨w.heap.size,1,none⟩=some (.string (bs l)):=Qf.out.cell 1) | (go_at_call 211;(with_reducible refine(aiN.out _).mono ?_);rintro e w2 ⟨rfl,hq⟩;(first| (have hw2:Bw w1 w2:=hq;(try(have sG:=aj (ar.below Fi.out hq);have asb:w2.cell? ⟨W.heap.size,0,none⟩=some (.bool false):=sG.out.cell 0;have asf:w2.cell? ⟨W.heap.size,1,none⟩=some (.string (bs [])):=sG.out.cell 1;have an8:=sG.out.free 0;have an9:=sG.out.free 1))) | (have hw2:Bw w1 w2:=sO hq;have sG:=aj (ar.below (ar.new w1 43 [.bool false,.string (bs [])]) hq);have asb:w2.cell? ⟨w1.heap.size,0,none⟩=some (.bool false):=sG.out.cell 0;have asf:w2.cell? ⟨w1.heap.size,1,none⟩=some (.string (bs [])):=sG.out.cell 1;have an8:=sG.out.free 0;have an9:=sG.out.free 1));clear hq;have zs2:=hw2.size;obtain⟨FC,PK⟩:=aH (Qf.out.below hw2) (ajq.out.below hw2);have azD:w2.cell? ⟨w.heap.size,0,none⟩=some (.bool s):=FC.out.cell 0;have azF:w2.cell? ⟨w.heap.size,1,none⟩=some (.string (bs l)):=FC.out.cell 1))
  all_goals(go_wp2_with fail;go_meet)
  . exact⟨w2.heap.size,rfl,by omega,FC.out.alloc _,PK.out.alloc _,ar.new _ _ _,(aF (aF Hb.out hw1) hw2).alloc zo _⟩
  . exact⟨w1.heap.size,rfl,by omega,((FC.out.azV ⟨w1.heap.size,0,none⟩ (by first| (dsimp only;omega) |omega| (simp<;>omega)) _).azV ⟨w1.heap.size,1,none⟩ (by first| (dsimp only;omega) |omega| (simp<;>omega)) _),((PK.out.azV ⟨w1.heap.size,0,none⟩ (by first| (dsimp only;omega) |omega| (simp<;>omega)) _).azV ⟨w1.heap.size,1,none⟩ (by first| (dsimp only;omega) |omega| (simp<;>omega)) _),((sG.out.set 0 _).set 1 _),((aF (aF Hb.out hw1) hw2).setCell (by first| (dsimp only;omega) |omega| (simp<;>omega)) _).setCell (by first| (dsimp only;omega) |omega| (simp<;>omega)) _⟩
  . exact⟨W.heap.size,rfl,hrW,((FC.out.azV ⟨W.heap.size,0,none⟩ (by first| (dsimp only;omega) |omega| (simp<;>omega)) _).azV ⟨W.heap.size,1,none⟩ (by first| (dsimp only;omega) |omega| (simp<;>omega)) _),((PK.out.azV ⟨W.heap.size,0,none⟩ (by first| (dsimp only;omega) |omega| (simp<;>omega)) _).azV ⟨W.heap.size,1,none⟩ (by first| (dsimp only;omega) |omega| (simp<;>omega)) _),((sG.out.set 0 _).set 1 _),((aF (aF Hb.out hw1) hw2).setCell (by first| (dsimp only;omega) |omega| (simp<;>omega)) _).setCell (by first| (dsimp only;omega) |omega| (simp<;>omega)) _⟩
 case rest=>
  obtain⟨g,rfl,hg,qx,qr,qn,qb⟩:=hcut;replace Hx:=aj qx;replace Hr:=aj qr;have Hn:=aj qn;replace Hb:=aj qb;clear qx qr qn qb x0 x1 r0 r1 aZ bf;cases s
  . obtain ⟨x0,x1⟩:=Hx.out.c2;obtain⟨r0,aZ,r1,bf⟩:=Hr.out.g2;obtain⟨n0,n1⟩:=Hn.out.c2;have gF:Hid (iv false l/2^k=M):=by
     show _=_
     rw[<-HM.out,<-HZ.out,rN];unfold iv;simp[Int.natCast_pow]
    go_wp2;exact bodyPost_ret (v:=cS M) (by simp[results,Tryz.results209,go_sem,r0,r1]) rfl ⟨by rw[gF.out],cK⟩
  . obtain⟨x0,x1⟩:=Hx.out.c2;obtain⟨r0,aZ,r1,bf⟩:=Hr.out.g2;obtain⟨n0,n1⟩:=Hn.out.c2;have jV:Hid (l.length<=68719476736):=by show _<=_;omega
    by_cases h0:nv l=0
    . have hb0:bF (nv l)=0:=by rw[h0];rfl
      have gF:Hid (iv true l/2^k=M):=by
       show _=_
       rw[<-HM.out,<-HZ.out,rN,h0];unfold iv;simp[h0]
      have jC:=aj hb0;clear hb0;go_wp2_with fail;refine(Uu l _ jV.out).mono ?_;rintro e w3 ⟨rfl,ak⟩;obtain⟨Hx,x0,x1⟩:=fI Hx ak;obtain⟨Hr,r0,aZ,r1,bf⟩:=dS Hr ak;obtain⟨Hn,n0,n1⟩:=fI Hn ak;replace Hb:=bj Hb ak;rw[jC.out];go_wp2;exact bodyPost_ret (v:=cS M) (by simp[results,Tryz.results209,go_sem,r0,r1]) rfl ⟨by rw[gF.out],cK⟩
    . have hbp:0<bF (nv l):=FV zo;have EH:Hid (aB wc):=hT.below Hb.out;by_cases hz:tz (nv l)<k
      . have gF:Hid (iv true l/2^k=M-1):=by
         show _=_
         rw[<-HM.out,<-HZ.out,rN];have:=(afZ (nv l) k zo).1 hz;unfold iv;simp only[if_true];exact asv _ _ this
        have HMl:Hid ((nt M.natAbs).length<=34359738368):=by show _<=_;rw[<-HM.out,uf,jl];exact hlen
        obtain⟨one,hone⟩:∃one:Int,1=one:=⟨_,rfl⟩;have Hol:Hid ((nt one.natAbs).length<=34359738368):=by show _<=_;rw[<-hone];exact Nat.le_trans (kC (k:=1) zd) zd
        have xM:=aj hone;clear hone;have PP:Hid (iv (az M) (nt M.natAbs)-iv (az one) (nt one.natAbs)=M-1):=by show _=_;rw[fu,fu,<-xM.out]
        go_wp2_with fail;refine(Uu l _ jV.out).mono ?_;rintro e w3 ⟨rfl,ak⟩;obtain⟨Hx,x0,x1⟩:=fI Hx ak;obtain⟨Hr,r0,aZ,r1,bf⟩:=dS Hr ak;obtain⟨Hn,n0,n1⟩:=fI Hn ak;replace Hb:=bj Hb ak;replace EH:=aj (hT.below Hb.out);go_wp2_with fail;refine(Uv l _ jV.out EH.out).mono ?_;rintro e w4 ⟨rfl,ak⟩;obtain⟨Hx,x0,x1⟩:=fI Hx ak;obtain⟨Hr,r0,aZ,r1,bf⟩:=dS Hr ak;obtain⟨Hn,n0,n1⟩:=fI Hn ak;replace Hb:=bj Hb ak;go_wp2_with fail;have nen:g≠w.heap.size+1:=by omega
        go_region_held3 (λw'=>w'.cell? ⟨g,0,none⟩=some (.bool (az M))/\w'.cell? ⟨g,1,none⟩=some (.string (bs (nt M.natAbs)))) (((try dsimp only);go_split_ands;(repeat' apply And.intro)<;>(first|exact True.intro|with_reducible assumption| ((with_reducible refine gG zg ?_);(repeat(with_reducible refine gG zg ?_));with_reducible assumption) |exact cell_later (by with_reducible assumption) (by with_reducible assumption) |exact aM (by with_reducible assumption) |go_keep))) (first| (go_at_call 125;(with_reducible refine(VP 1 one xM.out _ zo zo).mono ?_);rintro e w5 ⟨rfl,hq⟩;have dh:Bw w4 w5:=(by first|exact cM hq|exact hq|exact sP hq|exact sO hq|exact wh hq);clear hq;obtain⟨Yr,Cw⟩:=aH (Hx.out.below dh) (Hr.out.below dh);have aua:w5.cell? ⟨w.heap.size+1,0,none⟩=some (.bool false):=Cw.out.cell 0;have aoc:w5.frozen? ⟨w.heap.size+1,0,none⟩=false:=Cw.out.free 0;have auc:w5.cell? ⟨w.heap.size+1,1,none⟩=some (.string (bs [])):=Cw.out.cell 1;have aoe:w5.frozen? ⟨w.heap.size+1,1,none⟩=false:=Cw.out.free 1;have Km:=aj (Hn.out.below dh);have asc:w5.cell? ⟨g,0,none⟩=some (.bool (az M)):=Km.out.cell 0;have asg:w5.cell? ⟨g,1,none⟩=some (.string (bs (nt M.natAbs))):=Km.out.cell 1) | (go_at_call 249;(with_reducible refine(VR (az M) (nt M.natAbs) (az one) (nt one.natAbs) _ HMl.out Hol.out).mono ?_);rintro e w6 ⟨rfl,hq⟩;have Bi:Bw w5 w6:=(by first|exact cM hq|exact hq|exact sP hq|exact sO hq|exact wh hq);clear hq;obtain⟨aj3,Fq⟩:=aH (Yr.out.below Bi) (Cw.out.below Bi);have aub:w6.cell? ⟨w.heap.size+1,0,none⟩=some (.bool false):=Fq.out.cell 0;have aod:w6.frozen? ⟨w.heap.size+1,0,none⟩=false:=Fq.out.free 0;have aud:w6.cell? ⟨w.heap.size+1,1,none⟩=some (.string (bs [])):=Fq.out.cell 1;have aof:w6.frozen? ⟨w.heap.size+1,1,none⟩=false:=Fq.out.free 1;have Pk:=aj (Km.out.below Bi);have ase:w6.cell? ⟨g,0,none⟩=some (.bool (az M)):=Pk.out.cell 0;have ash:w6.cell? ⟨g,1,none⟩=some (.string (bs (nt M.natAbs))):=Pk.out.cell 1))
        replace Hb:=aj (aF Hb.out dh);clear dh;replace Hb:=aj (aF Hb.out Bi);clear Bi x0 x1 r0 aZ r1 bf n0 n1;replace Hx:=aj3;clear Yr;replace Hr:=Fq;clear Cw aua aoc auc aoe aub aod aud aof;replace Hn:=Pk;clear Km asc asg ase ash;obtain⟨x0,x1⟩:=Hx.out.c2;obtain⟨r0,aZ,r1,bf⟩:=Hr.out.g2;obtain⟨n0,n1⟩:=Hn.out.c2;rw[PP.out];go_wp2;exact bodyPost_ret (v:=cS (M-1)) (by simp[results,Tryz.results209,go_sem,r0,r1]) rfl ⟨by rw[gF.out],cK⟩
      . have gF:Hid (iv true l/2^k=M):=by
         show _=_
         rw[<-HM.out,<-HZ.out,rN];have h2:nv l%2^k=0:=by
          rcases Nat.eq_zero_or_pos (nv l%2^k)with h|h
          . exact h
          . exact absurd ((afZ (nv l) k zo).2 zo) hz
         unfold iv;simp only[if_true];exact asu _ _ h2
        go_wp2_with fail;refine(Uu l _ jV.out).mono ?_;rintro e w3 ⟨rfl,ak⟩;obtain⟨Hx,x0,x1⟩:=fI Hx ak;obtain⟨Hr,r0,aZ,r1,bf⟩:=dS Hr ak;obtain⟨Hn,n0,n1⟩:=fI Hn ak;replace Hb:=bj Hb ak;replace EH:=aj (hT.below Hb.out);go_wp2_with fail;refine(Uv l _ jV.out EH.out).mono ?_;rintro e w4 ⟨rfl,ak⟩;obtain⟨Hx,x0,x1⟩:=fI Hx ak;obtain⟨Hr,r0,aZ,r1,bf⟩:=dS Hr ak;obtain⟨Hn,n0,n1⟩:=fI Hn ak;replace Hb:=bj Hb ak;go_wp2;exact bodyPost_ret (v:=cS M) (by simp[results,Tryz.results209,go_sem,r0,r1]) rfl ⟨by rw[gF.out],cK⟩
end Go.Proofs.YtpfgffadgkkedaaGreatDoor
