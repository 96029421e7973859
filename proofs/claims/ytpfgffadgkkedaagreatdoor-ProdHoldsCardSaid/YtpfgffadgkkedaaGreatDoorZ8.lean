/- Package whole,on: Sub,Cmp,Mul,Shift. -/
import Derived.Test.YtpfgffadgkkedaaGreatDoorZ6
import Derived.Deep.DeepCutAuto
set_option linter.all false
set_option maxRecDepth 100000
set_option maxHeartbeats 16000000
namespace Go.Proofs.YtpfgffadgkkedaaGreatDoor
open Go.RowKit
attribute [local go_sem ↓] Go.wp_at_zero Go.wp_at_succ
def adk (s:Bool)(l:List UInt8)(t:Bool)(m:List UInt8)(b cap:Nat)(ty:TypeId)(w:World)(hl:l.length<=34359738368)(hm:m.length<=34359738368)
 (ha:ar w b ty [ag s,ah l,ag t,ah m]):
 Cv 167 #[.slice (some ⟨b,0,none⟩) 2 cap] w (cw (iv s l+iv t m)):=by
 have:=asN [(s,l),(t,m)] (some ⟨b,0,none⟩) cap w (by simp[hl,hm]) zm (At.awH ha);have e:kA [(s,l),(t,m)]=iv s l+iv t m:=by simp[kA]
 rw[e]at this;exact this
def Eu (s:Bool)(m:List UInt8)(B:Nat)(hm:m.length<=B):(nt (-(iv s m)).natAbs).length<=B:=by rw[Int.natAbs_neg,ov];exact iY (Nat.lt_of_lt_of_le (fY m) (Nat.pow_le_pow_right zd hm))
def Kc (s:Bool)(l:List UInt8)(N:Int)(hN: -(iv s l)=N)(w:World)(hl:l.length<=1099511627776):
 Cv 214 #[.agg #[ag s,ah l]] w (cw N):=by
 subst hN;exact ado s l w hl
def RJ (s:Bool)(l:List UInt8)(t:Bool)(m:List UInt8)(w:World)(hl:l.length<=34359738368)(hm:m.length<=34359738368):
 Cv 249 #[.agg #[.bool s,.string (bs l)],.agg #[.bool t,.string (bs m)]] w (cw (iv s l-iv t m)):=by
 have hm2:=Eu t m 34359738368 hm;have He:Hid (iv s l+iv (au (-(iv t m))) (nt (-(iv t m)).natAbs)=iv s l-iv t m):=by show _=_;rw[dX];omega
 generalize hN: -(iv t m)=N at*;have HN:=aj hN;clear hN;go_enter Tryz.func249,Tryz.ntmps249;have Hb:=hbz w;go_wp2_with fail;obtain⟨R,hR⟩:∃R:World->Prop,(λW=>ar W (w.heap.size) 43 [.bool s,.string (bs l)]/\ar W (w.heap.size+1) 43 [.bool t,.string (bs m)]/\ar W (w.heap.size+1+1) 43 [.bool false,.string (bs [])]/\Bw w W)=R:=⟨_,rfl⟩;first|refine eu R ?hR ?_|refine dS R ?hR ?_
 case hR=>subst hR;exact⟨(((ar.newAt w _ _ (b:=w.heap.size) rfl).alloc _).alloc _),((ar.newAt (w.alloc _) _ _ (b:=w.heap.size+1) zm).alloc _),(ar.newAt ((w.alloc _).alloc _) _ _ (b:=w.heap.size+1+1) zm),((zl.alloc zj _).alloc zj _)⟩
 subst hR;rintro W ⟨qx,qy,qr,ak⟩;have Hx:=aj qx;clear qx;have Hy:=aj qy;clear qy;have Hr:=aj qr;clear qr;obtain⟨x0,x1⟩:=Hx.out.c2;obtain⟨y0,y1⟩:=Hy.out.c2;obtain⟨r0,aW,r1,aX⟩:=Hr.out.g2;replace Hb:=aZ Hb ak;have Qu:w.heap.size≠w.heap.size+1+1:=by omega
 have ney:w.heap.size+1≠w.heap.size+1+1:=by omega
 go_region_held3 (λw'=>w'.cell? ⟨w.heap.size,0,none⟩=some (.bool s)/\w'.cell? ⟨w.heap.size,1,none⟩=some (.string (bs l))/\w'.cell? ⟨w.heap.size+1,0,none⟩=some (.bool t)/\w'.cell? ⟨w.heap.size+1,1,none⟩=some (.string (bs m))) (((try dsimp only);go_split_ands;(repeat' apply And.intro)<;>(first|exact True.intro|with_reducible assumption| ((with_reducible refine fT zg ?_);(repeat(with_reducible refine fT zg ?_));with_reducible assumption) |exact cell_later (by with_reducible assumption) (by with_reducible assumption) |exact aV (by with_reducible assumption) |go_keep))) (first| (go_at_call 214;(with_reducible refine(Kc t m N HN.out _ zo).mono ?_);rintro e w1 ⟨rfl,hq⟩;have hw1:Bw W w1:=(by first|exact cJ hq|exact hq|exact uM hq|exact pO hq|exact sS hq);clear hq;have jZ:=aj (Hx.out.below hw1);have yx:w1.cell? ⟨w.heap.size,0,none⟩=some (.bool s):=jZ.out.cell 0;have yz:w1.cell? ⟨w.heap.size,1,none⟩=some (.string (bs l)):=jZ.out.cell 1;have oH:=aj (Hy.out.below hw1);have ET:w1.cell? ⟨w.heap.size+1,0,none⟩=some (.bool t):=oH.out.cell 0;have EU:w1.cell? ⟨w.heap.size+1,1,none⟩=some (.string (bs m)):=oH.out.cell 1;have gv:=aj (Hr.out.below hw1);have yr:w1.cell? ⟨w.heap.size+1+1,0,none⟩=some (.bool false):=gv.out.cell 0;have xj:w1.frozen? ⟨w.heap.size+1+1,0,none⟩=false:=gv.out.free 0;have yt:w1.cell? ⟨w.heap.size+1+1,1,none⟩=some (.string (bs [])):=gv.out.cell 1;have xk:w1.frozen? ⟨w.heap.size+1+1,1,none⟩=false:=gv.out.free 1) | (go_at_call 167;(with_reducible refine(adk s l (au N) (nt N.natAbs) w1.heap.size 2 43 _ hl hm2 (by first|exact ar.drew (ar.new _ _ _) |exact ar.new _ _ _)).mono ?_);rintro e w2 ⟨rfl,hq⟩;have hw2:Bw w1 w2:=(by first|exact cJ hq|exact hq|exact uM hq|exact pO hq|exact sS hq);clear hq;have wQ:=aj (jZ.out.below hw2);have RP:w2.cell? ⟨w.heap.size,0,none⟩=some (.bool s):=wQ.out.cell 0;have RQ:w2.cell? ⟨w.heap.size,1,none⟩=some (.string (bs l)):=wQ.out.cell 1;have Mq:=aj (oH.out.below hw2);have atk:w2.cell? ⟨w.heap.size+1,0,none⟩=some (.bool t):=Mq.out.cell 0;have atl:w2.cell? ⟨w.heap.size+1,1,none⟩=some (.string (bs m)):=Mq.out.cell 1;have pK:=aj (gv.out.below hw2);have QU:w2.cell? ⟨w.heap.size+1+1,0,none⟩=some (.bool false):=pK.out.cell 0;have Nw:w2.frozen? ⟨w.heap.size+1+1,0,none⟩=false:=pK.out.free 0;have QV:w2.cell? ⟨w.heap.size+1+1,1,none⟩=some (.string (bs [])):=pK.out.cell 1;have Ny:w2.frozen? ⟨w.heap.size+1+1,1,none⟩=false:=pK.out.free 1))
 replace Hb:=aj (aC Hb.out hw1);clear hw1;replace Hb:=aj (aC Hb.out hw2);clear hw2 x0 x1 y0 y1 r0 aW r1 aX;replace Hx:=wQ;clear jZ yx yz RP RQ;replace Hy:=Mq;clear oH ET EU atk atl;replace Hr:=pK;clear gv yr xj yt xk QU Nw QV Ny;obtain⟨x0,x1⟩:=Hx.out.c2;obtain⟨y0,y1⟩:=Hy.out.c2;obtain⟨r0,aW,r1,aX⟩:=Hr.out.g2;rw[He.out];go_wp2;exact bodyPost_ret (v:=cw (iv s l-iv t m)) (by simp[results,Tryz.results249,go_sem,r0,r1]) rfl ⟨rfl,cm⟩
def asQ (s:Bool)(l:List UInt8)(t:Bool)(m:List UInt8)(w:World)(hl:l.length<=34359738368)(hm:m.length<=34359738368)(hd:(nt (iv s l-iv t m).natAbs).length<=1099511627776):
 Cv 239 #[.agg #[ag s,ah l],.agg #[ag t,ah m]] w (af (dL (iv s l-iv t m))):=by
 have Hi:=aj (dX (iv s l-iv t m));go_enter Tryz.func239,Tryz.ntmps239;have Hb:=hbz w;go_wp2_with fail;obtain⟨R,hR⟩:∃R:World->Prop,(λW=>ar W (w.heap.size) 43 [ag s,ah l]/\ar W (w.heap.size+1) 43 [ag t,ah m]/\Bw w W)=R:=⟨_,rfl⟩;first|refine eu R ?hR ?_|refine dS R ?hR ?_
 case hR=>subst hR;exact⟨((ar.newAt w _ _ (b:=w.heap.size) rfl).alloc _),(ar.newAt (w.alloc _) _ _ (b:=w.heap.size+1) zm),(zl.alloc zj _)⟩
 subst hR;rintro W ⟨qx,qy,ak⟩;have Hx:=aj qx;clear qx;have Hy:=aj qy;clear qy;obtain⟨x0,x1⟩:=Hx.out.c2;obtain⟨y0,y1⟩:=Hy.out.c2;replace Hb:=aZ Hb ak;go_wp2_with fail;refine(RJ s l t m _ hl hm).mono ?_;rintro e w1 ⟨rfl,ak⟩;obtain⟨Hx,x0,x1⟩:=fc Hx ak;obtain⟨Hy,y0,y1⟩:=fc Hy ak;replace Hb:=aZ Hb ak;go_wp2_with fail;refine(EQ (au (iv s l-iv t m)) (nt (iv s l-iv t m).natAbs) _ hd).mono ?_;rintro e w2 ⟨rfl,ak⟩;obtain⟨Hx,x0,x1⟩:=fc Hx ak;obtain⟨Hy,y0,y1⟩:=fc Hy ak;replace Hb:=aZ Hb ak;rw[Hi.out];go_wp2;go_ret;exact⟨rfl,Hb.out⟩
def RI (s:Bool)(l:List UInt8)(n:Nat)(w:World)(hl:l.length<=68719476736)(hn:n<=549755813888):
 Cv 209 #[.agg #[.bool s,.string (bs l)],.int .i64 (n:Int)] w (cw (iv s l*2^n)):=by
 have hlen:(nt (nv l*2^n)).length<=1099511627776:=by
  have h1:nv l*2^n<2^(8*l.length+n):=by rw[Nat.pow_add,Nat.pow_mul];exact Nat.mul_lt_mul_of_pos_right (fY l) (Nat.pow_pos zd)
  have h2:=gw h1;rw[apd];omega
 have He:Hid (iv s (nt (nv l*2^n))=iv s l*2^n):=by
  show _=_
  rw[oX];unfold iv;cases s<;>simp[Int.natCast_mul,Int.natCast_pow,Int.neg_mul]
 go_enter Tryz.func209,Tryz.ntmps209;have Hb:=hbz w;go_wp2_with fail;obtain⟨R,hR⟩:∃R:World->Prop,(λW=>ar W (w.heap.size) 43 [.bool s,.string (bs l)]/\ar W (w.heap.size+1) 43 [.bool false,.string (bs [])]/\Bw w W)=R:=⟨_,rfl⟩;first|refine eu R ?hR ?_|refine dS R ?hR ?_
 case hR=>subst hR;exact⟨((ar.newAt w _ _ (b:=w.heap.size) rfl).alloc _),(ar.newAt (w.alloc _) _ _ (b:=w.heap.size+1) zm),(zl.alloc zj _)⟩
 subst hR;rintro W ⟨qx,qr,ak⟩;have Hx:=aj qx;clear qx;have Hr:=aj qr;clear qr;obtain⟨x0,x1⟩:=Hx.out.c2;obtain⟨r0,aW,r1,aX⟩:=Hr.out.g2;replace Hb:=aZ Hb ak;have Qu:w.heap.size≠w.heap.size+1:=by omega
 go_region_held3 (λw'=>w'.cell? ⟨w.heap.size,0,none⟩=some (.bool s)/\w'.cell? ⟨w.heap.size,1,none⟩=some (.string (bs l))) (((try dsimp only);go_split_ands;(repeat' apply And.intro)<;>(first|exact True.intro|with_reducible assumption| ((with_reducible refine fT zg ?_);(repeat(with_reducible refine fT zg ?_));with_reducible assumption) |exact cell_later (by with_reducible assumption) (by with_reducible assumption) |exact aV (by with_reducible assumption) |go_keep))) (first| (go_at_call 257;(with_reducible refine(ao0 l n _ hl hn).mono ?_);rintro e w1 ⟨rfl,hq⟩;have hw1:Bw W w1:=(by first|exact cJ hq|exact hq|exact uM hq|exact pO hq|exact sS hq);clear hq;have jZ:=aj (Hx.out.below hw1);have yx:w1.cell? ⟨w.heap.size,0,none⟩=some (.bool s):=jZ.out.cell 0;have yz:w1.cell? ⟨w.heap.size,1,none⟩=some (.string (bs l)):=jZ.out.cell 1;have gv:=aj (Hr.out.below hw1);have yr:w1.cell? ⟨w.heap.size+1,0,none⟩=some (.bool false):=gv.out.cell 0;have xj:w1.frozen? ⟨w.heap.size+1,0,none⟩=false:=gv.out.free 0;have yt:w1.cell? ⟨w.heap.size+1,1,none⟩=some (.string (bs [])):=gv.out.cell 1;have xk:w1.frozen? ⟨w.heap.size+1,1,none⟩=false:=gv.out.free 1) | (go_at_call 211;(with_reducible refine(tT (nt (nv l*2^n)) s _ hlen).mono ?_);rintro e w2 ⟨rfl,hq⟩;have hw2:Bw w1 w2:=(by first|exact cJ hq|exact hq|exact uM hq|exact pO hq|exact sS hq);clear hq;have wQ:=aj (jZ.out.below hw2);have RP:w2.cell? ⟨w.heap.size,0,none⟩=some (.bool s):=wQ.out.cell 0;have RQ:w2.cell? ⟨w.heap.size,1,none⟩=some (.string (bs l)):=wQ.out.cell 1;have pK:=aj (gv.out.below hw2);have QU:w2.cell? ⟨w.heap.size+1,0,none⟩=some (.bool false):=pK.out.cell 0;have Nw:w2.frozen? ⟨w.heap.size+1,0,none⟩=false:=pK.out.free 0;have QV:w2.cell? ⟨w.heap.size+1,1,none⟩=some (.string (bs [])):=pK.out.cell 1;have Ny:w2.frozen? ⟨w.heap.size+1,1,none⟩=false:=pK.out.free 1))
 replace Hb:=aj (aC Hb.out hw1);clear hw1;replace Hb:=aj (aC Hb.out hw2);clear hw2 x0 x1 r0 aW r1 aX;replace Hx:=wQ;clear jZ yx yz RP RQ;replace Hr:=pK;clear gv yr xj yt xk QU Nw QV Ny;obtain⟨x0,x1⟩:=Hx.out.c2;obtain⟨r0,aW,r1,aX⟩:=Hr.out.g2;rw[He.out];go_wp2;exact bodyPost_ret (v:=cw (iv s l*2^n)) (by simp[results,Tryz.results209,go_sem,r0,r1]) rfl ⟨rfl,cm⟩
def Ke (n N:Int)(hN:n=N)(w:World)(h0: -9223372036854775808<=n)(h1:n<=9223372036854775807):
 Cv 125 #[af n] w (cw N):=by
 subst hN;exact RG n w h0 h1
def gp :List (Bool×List UInt8)->Int
 |[]=>1
 |x::xs=>iv x.1 x.2*gp xs
def anx (xs ys:List (Bool×List UInt8)):gp (xs++ys)=gp xs*gp ys:=by
 induction xs with
 |nil=>simp[gp]
 |cons x xs ih=>simp[gp,ih,Int.mul_assoc]
def anB (xs:List (Bool×List UInt8))(k:Nat)(hk:k<xs.length):gp (xs.take (k+1))=gp (xs.take k) *iv xs[k].1 xs[k].2:=by rw[List.take_succ_eq_append_getElem hk,anx];simp[gp]
def ou (xs:List (Bool×List UInt8)):Nat:=(xs.map λx=>x.2.length).sum
def anq (xs:List (Bool×List UInt8))(k:Nat):ou (xs.take k)<=ou xs:=by
 unfold ou;induction xs generalizing k with
 |nil=>simp
 | cons x xs ih=>cases k with
   |zero=>simp
   |succ k=>simp only[List.take_succ_cons,List.map_cons,List.sum_cons];have:=ih k;omega
def anp (xs:List (Bool×List UInt8))(x)(h:x∈xs):x.2.length<=ou xs:=by
 unfold ou;induction xs with
 |nil=>simp at h
 | cons y xs ih=>
   simp at h⊢;rcases h with h|h
   . subst h;omega
   . have:=ih h;omega
def anA (xs:List (Bool×List UInt8)):(gp xs).natAbs<=256^ou xs:=by
 induction xs with
 |nil=>simp[gp,ou]
 | cons x xs ih=>
   simp only[gp,Int.natAbs_mul,ov];have h1:=fY x.2;have:ou (x::xs)=x.2.length+ou xs:=by simp[ou]
   rw[this,Nat.pow_add];exact Nat.mul_le_mul (Nat.le_of_lt h1) ih
def anz (xs:List (Bool×List UInt8))(N:Nat)(h:ou xs+1<=N):(nt (gp xs).natAbs).length<=N:=by refine iY (Nat.lt_of_le_of_lt (anA xs) ?_);exact Nat.pow_lt_pow_right zd zo
def asT (xs:List (Bool×List UInt8))(a:Option Addr)(cap:Nat)(w:World)(hl:ou xs<=34359738368)(hx:xs.length<=1048576)
 (ha:At w a (xs.flatMap Jp)):
 Cv 126 #[.slice a xs.length cap] w (cw (gp xs)):=by
 have Hl:=aj hl;clear hl;have Ha:=aj ha;clear ha;have un:Hid (∀k,(nt (gp (xs.take k)).natAbs).length<=68719476736):=λk=>anz _ _ (by have:=anq xs k;have:=Hl.out;omega);obtain⟨one,hone⟩:∃one:Int,1=one:=⟨_,rfl⟩;have uz:=aj hone;clear hone;go_enter Tryz.func126,Tryz.ntmps126;have Hb:=hbz w;go_wp2_with fail;obtain⟨R,hR⟩:∃R:World->Prop,(λW=>ar W (w.heap.size) 43 [ag false,.string (bs [])]/\Bw w W)=R:=⟨_,rfl⟩;first|refine eu R ?hR ?_|refine dS R ?hR ?_
 case hR=>subst hR;exact⟨(ar.newAt w _ _ (b:=w.heap.size) rfl),zl⟩
 subst hR;rintro W ⟨qr,ak⟩;have Hr:=aj qr;clear qr;obtain⟨r0,aW,r1,aX⟩:=Hr.out.g2;replace Hb:=aZ Hb ak;go_wp2_with fail;refine(Ke 1 one uz.out _ zo zo).mono ?_;rintro e w1 ⟨rfl,ak⟩;obtain⟨Hr,r0,aW,r1,aX⟩:=dD Hr ak;replace Hb:=aZ Hb ak;go_wp2_with fail;refine(Bj (nt one.natAbs) (au one) _).mono ?_;rintro e w2 ⟨rfl,ak⟩;obtain⟨Hr,r0,aW,r1,aX⟩:=dD Hr ak;replace Hb:=aZ Hb ak;have ana:w.heap.size<w2.heap.size:=Hr.out.lt;have avI:=Hr.out.lt;go_wp2_with fail;obtain⟨R,hR⟩:∃R:World->Prop,(λW2=>ar W2 (w2.heap.size) 224 [ah (nt one.natAbs),ag (au one)]/\Bw w2 W2)=R:=⟨_,rfl⟩;first|refine eu R ?hR ?_|refine dS R ?hR ?_
 case hR=>subst hR;exact⟨(ar.newAt w2 _ _ (b:=w2.heap.size) rfl),zl⟩
 subst hR;rintro W2 ⟨qs,ak⟩;have Hs:=aj qs;clear qs r0 aW r1 aX;obtain⟨Hr,r0,aW,r1,aX⟩:=dD Hr ak;obtain⟨s0,rF,s1,rG⟩:=Hs.out.g2;replace Hb:=aZ Hb ak
 go_loopw[5,10] (λ_ i wr=>∃(k:Nat) (t:Bool),k<=xs.length/\i=af k/\iv t (nt (gp (xs.take k)).natAbs)=gp (xs.take k)/\ar wr w.heap.size 43 [ag false,.string (bs [])]/\
  ar wr w2.heap.size 224 [ah (nt (gp (xs.take k)).natAbs),ag t]/\Bw w wr) (λ_ i _=>xs.length-(intOf i).toNat)
 case atStart=>
  have e:gp (xs.take 0)=one:=by rw[<-uz.out];simp[gp]
  refine⟨0,au one,Nat.zero_le _,rfl,?_,Hr.out,?_,Hb.out⟩
  . rw[e];exact dX one
  . rw[e];exact Hs.out
 case round=>
  obtain⟨k,t,hk,rfl,iI,qr,qs,hb⟩:=hrel;replace Hr:=aj qr;replace Hs:=aj qs;replace Hb:=aj hb;have gJ:=aj iI;clear qr qs hb iI r0 r1 aW aX s0 s1 rF rG;by_cases hlt:k<xs.length
  . obtain⟨b,o,hab,hcs⟩:=(Ha.out.below Hb.out).elem (f:=Jp) (sz:=2) (λ_=>rfl) zd k hlt;have hc0:wr.cell? ⟨b,o+k*2,none⟩=some (ag xs[k].1):=hcs 0 zd;have hc1:wr.cell? ⟨b,o+k*2+1,none⟩=some (.string (bs xs[k].2)):=hcs 1 zd;have aQ:=tM xs.length cap k (k:Int) hab hlt rfl;have bE:=aj (anB xs k hlt);have jU:Hid (xs[k].2.length<=34359738368):=by have:=anp xs _ (List.getElem_mem hlt);have:=Hl.out;show _<=_;omega
    have gH:=aj (un.out k);clear hcs hab;generalize xs[k]=x at*;obtain⟨t1,l1⟩:=x;generalize hS:gp (xs.take k)=S at*;have HS:=aj hS;clear hS;obtain⟨r0,aW,r1,aX⟩:=Hr.out.g2;obtain⟨s0,rF,s1,rG⟩:=Hs.out.g2;have aoj:=Hr.out.lt;have aol:=Hs.out.lt;go_wp2_with fail;obtain⟨R,hR⟩:∃R:World->Prop,(λW1=>ar W1 (wr.heap.size) 43 [ag t1,ah l1]/\Bw wr W1)=R:=⟨_,rfl⟩;first|refine eu R ?hR ?_|refine dS R ?hR ?_
    case hR=>subst hR;exact⟨(ar.newAt wr _ _ (b:=wr.heap.size) rfl),zl⟩
    subst hR;rintro W1 ⟨qa,ak⟩;have Ha:=aj qa;clear qa r0 aW r1 aX;obtain⟨Hr,r0,aW,r1,aX⟩:=dD Hr ak;obtain⟨Hs,s0,rF,s1,rG⟩:=dD Hs ak;obtain⟨a0,a1⟩:=Ha.out.c2;replace Hb:=aZ Hb ak;go_region_with (first| (go_at_call 212;refine(Bj l1 t1 _).mono ?_;rintro e w3 ⟨rfl,hq⟩;have hw3:Bw W1 w3:=cJ hq;clear hq;have Re:=cell_later hw3 s0;have Ri:=cell_later hw3 s1;have alv:=(Hs.out.below hw3).free 0;have aly:=(Hs.out.below hw3).free 1) | (go_at_call 213;refine(acR (nt S.natAbs) l1 t t1 _ gH.out (by have:=jU.out;omega)).mono ?_;rintro e w4 ⟨rfl,hw4⟩;have arh:=cell_later hw4 Re;have arl:=cell_later hw4 Ri;have alx:=((Hs.out.below hw3).below hw4).free 0;have alz:=((Hs.out.below hw3).below hw4).free 1))
    all_goals
     go_wp2
     go_roundw
     case rel=>
      have hq:=aaM t (nt S.natAbs) t1 l1;rw[gJ.out,<-bE.out]at hq;have hq2:nv (nt S.natAbs) *nv l1=(gp (xs.take (k+1))).natAbs:=by rw[bE.out,Int.natAbs_mul,ov,ib]
      rw[hq2]at hq⊢;refine⟨k+1,_,by omega,by go_num,hq,((((Hr.out.below hw3).below hw4).awI ⟨w2.heap.size,0,none⟩ zp _).awI ⟨w2.heap.size,1,none⟩ zp _),((((Hs.out.below hw3).below hw4).set 0 _).set 1 _),?_⟩;exact((aC (aC Hb.out hw3) hw4).setCell zp _).setCell zp _
     case measure=>exact bf
  . obtain rfl:k=xs.length:=by omega
    rw[List.take_length]at Hs gJ;have gH:=un.out xs.length;rw[List.take_length]at gH;obtain⟨r0,aW,r1,aX⟩:=Hr.out.g2;obtain⟨s0,rF,s1,rG⟩:=Hs.out.g2;go_wp2_with fail;refine(tT (nt (gp xs).natAbs) t _ zo).mono ?_;rintro e w3 ⟨rfl,ak⟩;obtain⟨Hr,r0,aW,r1,aX⟩:=dD Hr ak;obtain⟨Hs,s0,rF,s1,rG⟩:=dD Hs ak;replace Hb:=aZ Hb ak;rw[gJ.out];go_wp2;exact bodyPost_ret (v:=cw (gp xs)) (by simp[results,Tryz.results126,go_sem,r0,r1]) rfl ⟨rfl,cm⟩
def alu {w wx:World}{a:Addr}{v:Value}(hb:Bw w wx)(hc:w.cell? a=some v)(hf:w.frozen? a=false):wx.frozen? a=false:=
 (hb.frozen (World.block_lt_of_cell? w a hc)).trans hf
def acZ (v:Nat)(h:0<v):∃m,v=2^tz v* (2*m+1):=by
 induction v using Nat.strongRecOn with
 | _ v ih=>
   by_cases he:v%2=0
   . obtain⟨u,rfl⟩:∃u,v=2*u:=⟨v/2,by omega⟩;obtain⟨m,hm⟩:=ih u zo zo;refine⟨m,?_⟩;have e:tz (2*u)=tz u+1:=by unfold tz;rw[show((2*u:Nat):Int)=2* (u:Int)by omega];exact Int.trailingZeros_two_mul zo
     rw[e,Nat.pow_succ];conv=>lhs;rw[hm]
     rw[Nat.mul_comm (2^tz u) 2,Nat.mul_assoc]
   . refine⟨v/2,?_⟩;have e:tz v=0:=by unfold tz;exact Int.trailingZeros_eq_zero_of_mod_eq zo
     rw[e];omega
def acX (v k:Nat)(h:0<v):tz v<k↔v%2^k≠0:=by
 obtain⟨m,hm⟩:=acZ v h;generalize tz v=c at*;constructor
 . intro hc h0;have hd:2^k∣v:=Nat.dvd_of_mod_eq_zero h0;have hd2:2^(c+1)∣v:=Nat.dvd_trans (Nat.pow_dvd_pow 2 hc) hd;rw[hm,Nat.pow_succ]at hd2;have:=Nat.dvd_of_mul_dvd_mul_left (Nat.pow_pos zd) hd2;omega
 . intro hne;rcases Nat.lt_or_ge c k with h1|h1
   . exact h1
   . exfalso;apply hne
     rw[hm];exact Nat.mod_eq_zero_of_dvd (Nat.dvd_trans (Nat.pow_dvd_pow 2 h1) (Nat.dvd_mul_right _ _))
def ao3 (v k:Nat)(h:v%2^k=0): -(v:Int)/2^k= -((v/2^k:Nat):Int):=by
 obtain⟨q,rfl⟩:=Nat.dvd_of_mod_eq_zero h;have hp:=Nat.pow_pos (n:=k) (show 0<2 by decide);rw[Nat.mul_div_cancel_left _ hp];have e: -((2^k*q:Nat):Int)=2^k* (-(q:Int)):=by simp[Int.natCast_mul,Int.natCast_pow,Int.mul_neg]
 rw[e,Int.mul_ediv_cancel_left];have:((2^k:Nat):Int)≠0:=by omega
 simpa[Int.natCast_pow]using this
def ao4 (v k:Nat)(h:v%2^k≠0): -(v:Int)/2^k= -((v/2^k:Nat):Int)-1:=by
 have hp:=Nat.pow_pos (n:=k) (show 0<2 by decide);have e:=(Nat.mod_add_div v (2^k)).symm;have hr:=Nat.mod_lt v hp;rw[show((2:Int)^k)=((2^k:Nat):Int)by simp[Int.natCast_pow]];generalize v%2^k=r at*;generalize v/2^k=q at*;generalize 2^k=p at*;subst e;have e2: -((r+p*q:Nat):Int)=((p:Int)-r)+p* (-(q:Int)-1):=by rw[Int.natCast_add,Int.natCast_mul,Int.mul_sub,Int.mul_neg,Int.mul_one];omega
 rw[e2,Int.add_mul_ediv_left _ _ zo,Int.ediv_eq_zero_of_lt zo zo];omega
def apc (l:List UInt8)(k B:Nat)(hl:l.length<=B):(nt (nv l/2^k)).length<=B:=iY (Nat.lt_of_le_of_lt (Nat.div_le_self _ _) (Nat.lt_of_lt_of_le (fY l) (Nat.pow_le_pow_right zd hl)))
def adq (s:Bool)(l:List UInt8)(k:Nat)(w:World)(hl:l.length<=34359738368)(hk:0<k)(hk2:k<=1099511627776)(hT:aB w):
 Cv 209 #[.agg #[.bool s,.string (bs l)],.int .i64 (-(k:Int))] w (cw (iv s l/2^k)):=by
 have hmax:max (-(k:Int)) (-1099511627776)= -(k:Int):=by omega
 have hlen:(nt (nv l/2^k)).length<=34359738368:=apc l k _ hl;obtain⟨Z,hZ⟩:=az (nv l/2^k);have Je:∀W,Cv 258 #[.string (bs l),.int .i64 (k:Int)] W (.string (bs (nt Z))):=λW=>by rw[<-hZ];exact ao1 l k W zo hk2
 rw[hZ]at hlen;have HZ:=aj hZ;clear hZ;have agS:=aj Je;clear Je;obtain⟨M,hM⟩:=az (iv s (nt Z));have HM:=aj hM;clear hM;have Zd:∀W,Cv 211 #[.agg #[.string (bs (nt Z)),.bool s]] W (cw M):=λW=>by have:=tT (nt Z) s W zo;rw[HM.out]at this;exact this
 have afW:=aj Zd;clear Zd;go_enter Tryz.func209,Tryz.ntmps209;have Hb:=hbz w;go_upto_region 4 with fail
 go_wp2_with fail;obtain⟨R,hR⟩:∃R:World->Prop,(λW=>ar W (w.heap.size) 43 [.bool s,.string (bs l)]/\ar W (w.heap.size+1) 43 [.bool false,.string (bs [])]/\Bw w W)=R:=⟨_,rfl⟩;first|refine eu R ?hR ?_|refine dS R ?hR ?_
 case hR=>subst hR;exact⟨((ar.newAt w _ _ (b:=w.heap.size) rfl).alloc _),(ar.newAt (w.alloc _) _ _ (b:=w.heap.size+1) zm),(zl.alloc zj _)⟩
 subst hR;rintro W ⟨qx,qr,ak⟩;have Hx:=aj qx;clear qx;have Hr:=aj qr;clear qr;obtain⟨x0,x1⟩:=Hx.out.c2;obtain⟨r0,aW,r1,aX⟩:=Hr.out.g2;replace Hb:=aZ Hb ak;go_cut[5] (λs5 wx=>∃g:Nat,s5=.pointer (some ⟨g,0,none⟩)/\w.heap.size+1<g/\ar wx w.heap.size 43 [.bool s,.string (bs l)]/\ar wx (w.heap.size+1) 43 [.bool false,.string (bs [])]/\ar wx g 43 [.bool (au M),.string (bs (nt M.natAbs))]/\Bw w wx);case first=>
  have hxW:w.heap.size<W.heap.size:=Hx.out.lt;have hrW:w.heap.size+1<W.heap.size:=Hr.out.lt;have hwk:IntKind.i64.wrap (k:Int)=(k:Int):=by rw[IntKind.wrap_i64];omega
  go_region_held3 (λw'=>w'.cell? ⟨w.heap.size,0,none⟩=some (.bool s)/\w'.cell? ⟨w.heap.size,1,none⟩=some (.string (bs l))) (((try dsimp only);go_split_ands;(repeat' apply And.intro)<;>(first|with_reducible assumption|exact aV (by with_reducible assumption) |exact MM (by with_reducible assumption) |exact MM (aV (by with_reducible assumption)) | ((with_reducible refine fT zf ?_);(repeat(with_reducible refine fT zf ?_));first|with_reducible assumption|exact aV (by with_reducible assumption) |exact MM (by with_reducible assumption)) |go_keep))) (first| (go_at_call 258;(with_reducible refine(agS.out _).mono ?_);rintro e w1 ⟨rfl,hq⟩;(first| (have hw1:Bw W w1:=cJ hq) | (have hw1:Bw W w1:=sS hq;have BR:=aj (ar.below (ar.drew (ar.new W 43 [.bool false,.string (bs [])])) hq);have avS:w1.cell? ⟨W.heap.size,0,none⟩=some (.bool false):=BR.out.cell 0;have avT:w1.cell? ⟨W.heap.size,1,none⟩=some (.string (bs [])):=BR.out.cell 1;have aue:=BR.out.free 0;have auf:=BR.out.free 1));clear hq;have zs1:=hw1.size;obtain⟨Mn,agH⟩:=aI (Hx.out.below hw1) (Hr.out.below hw1);have awq:w1.cell? ⟨w.heap.size,0,none⟩=some (.bool s):=Mn.out.cell 0;have aws:w1.cell? ⟨w.heap.size,1,none⟩=some (.string (bs l)):=Mn.out.cell 1) | (go_at_call 211;(with_reducible refine(afW.out _).mono ?_);rintro e w2 ⟨rfl,hq⟩;(first| (have hw2:Bw w1 w2:=hq;(try(have pF:=aj (ar.below BR.out hq);have aoN:w2.cell? ⟨W.heap.size,0,none⟩=some (.bool false):=pF.out.cell 0;have aoQ:w2.cell? ⟨W.heap.size,1,none⟩=some (.string (bs [])):=pF.out.cell 1;have alj:=pF.out.free 0;have alk:=pF.out.free 1))) | (have hw2:Bw w1 w2:=pO hq;have pF:=aj (ar.below (ar.new w1 43 [.bool false,.string (bs [])]) hq);have aoN:w2.cell? ⟨w1.heap.size,0,none⟩=some (.bool false):=pF.out.cell 0;have aoQ:w2.cell? ⟨w1.heap.size,1,none⟩=some (.string (bs [])):=pF.out.cell 1;have alj:=pF.out.free 0;have alk:=pF.out.free 1));clear hq;have zs2:=hw2.size;obtain⟨Ck,LS⟩:=aI (Mn.out.below hw2) (agH.out.below hw2);have awr:w2.cell? ⟨w.heap.size,0,none⟩=some (.bool s):=Ck.out.cell 0;have awt:w2.cell? ⟨w.heap.size,1,none⟩=some (.string (bs l)):=Ck.out.cell 1))
  all_goals(go_wp2_with fail;go_meet)
  . exact⟨w2.heap.size,rfl,by omega,Ck.out.alloc _,LS.out.alloc _,ar.new _ _ _,(aC (aC Hb.out hw1) hw2).alloc zo _⟩
  . exact⟨w1.heap.size,rfl,by omega,((Ck.out.awI ⟨w1.heap.size,0,none⟩ (by first| (dsimp only;omega) |omega| (simp<;>omega)) _).awI ⟨w1.heap.size,1,none⟩ (by first| (dsimp only;omega) |omega| (simp<;>omega)) _),((LS.out.awI ⟨w1.heap.size,0,none⟩ (by first| (dsimp only;omega) |omega| (simp<;>omega)) _).awI ⟨w1.heap.size,1,none⟩ (by first| (dsimp only;omega) |omega| (simp<;>omega)) _),((pF.out.set 0 _).set 1 _),((aC (aC Hb.out hw1) hw2).setCell (by first| (dsimp only;omega) |omega| (simp<;>omega)) _).setCell (by first| (dsimp only;omega) |omega| (simp<;>omega)) _⟩
  . exact⟨W.heap.size,rfl,hrW,((Ck.out.awI ⟨W.heap.size,0,none⟩ (by first| (dsimp only;omega) |omega| (simp<;>omega)) _).awI ⟨W.heap.size,1,none⟩ (by first| (dsimp only;omega) |omega| (simp<;>omega)) _),((LS.out.awI ⟨W.heap.size,0,none⟩ (by first| (dsimp only;omega) |omega| (simp<;>omega)) _).awI ⟨W.heap.size,1,none⟩ (by first| (dsimp only;omega) |omega| (simp<;>omega)) _),((pF.out.set 0 _).set 1 _),((aC (aC Hb.out hw1) hw2).setCell (by first| (dsimp only;omega) |omega| (simp<;>omega)) _).setCell (by first| (dsimp only;omega) |omega| (simp<;>omega)) _⟩
 case rest=>
  obtain⟨g,rfl,hg,qx,qr,qn,qb⟩:=hcut;replace Hx:=aj qx;replace Hr:=aj qr;have Hn:=aj qn;replace Hb:=aj qb;clear qx qr qn qb x0 x1 r0 r1 aW aX;cases s
  . obtain ⟨x0,x1⟩:=Hx.out.c2;obtain⟨r0,aW,r1,aX⟩:=Hr.out.g2;obtain⟨n0,n1⟩:=Hn.out.c2;have fR:Hid (iv false l/2^k=M):=by
     show _=_
     rw[<-HM.out,<-HZ.out,oX];unfold iv;simp[Int.natCast_pow]
    go_wp2;exact bodyPost_ret (v:=cw M) (by simp[results,Tryz.results209,go_sem,r0,r1]) rfl ⟨by rw[fR.out],cm⟩
  . obtain⟨x0,x1⟩:=Hx.out.c2;obtain⟨r0,aW,r1,aX⟩:=Hr.out.g2;obtain⟨n0,n1⟩:=Hn.out.c2;have lD:Hid (l.length<=68719476736):=by show _<=_;omega
    by_cases h0:nv l=0
    . have hb0:bu (nv l)=0:=by rw[h0];rfl
      have fR:Hid (iv true l/2^k=M):=by
       show _=_
       rw[<-HM.out,<-HZ.out,oX,h0];unfold iv;simp[h0]
      have jC:=aj hb0;clear hb0;go_wp2_with fail;refine(Qs l _ lD.out).mono ?_;rintro e w3 ⟨rfl,ak⟩;obtain⟨Hx,x0,x1⟩:=fc Hx ak;obtain⟨Hr,r0,aW,r1,aX⟩:=dD Hr ak;obtain⟨Hn,n0,n1⟩:=fc Hn ak;replace Hb:=aZ Hb ak;rw[jC.out];go_wp2;exact bodyPost_ret (v:=cw M) (by simp[results,Tryz.results209,go_sem,r0,r1]) rfl ⟨by rw[fR.out],cm⟩
    . have hbp:0<bu (nv l):=CB zo;have Bt:Hid (aB wc):=hT.below Hb.out;by_cases hz:tz (nv l)<k
      . have fR:Hid (iv true l/2^k=M-1):=by
         show _=_
         rw[<-HM.out,<-HZ.out,oX];have:=(acX (nv l) k zo).1 hz;unfold iv;simp only[if_true];exact ao4 _ _ this
        have HMl:Hid ((nt M.natAbs).length<=34359738368):=by show _<=_;rw[<-HM.out,ov,ib];exact hlen
        obtain⟨one,hone⟩:∃one:Int,1=one:=⟨_,rfl⟩;have Hol:Hid ((nt one.natAbs).length<=34359738368):=by show _<=_;rw[<-hone];exact Nat.le_trans (iY (k:=1) zd) zd
        have uz:=aj hone;clear hone;have FU:Hid (iv (au M) (nt M.natAbs)-iv (au one) (nt one.natAbs)=M-1):=by show _=_;rw[dX,dX,<-uz.out]
        go_wp2_with fail;refine(Qs l _ lD.out).mono ?_;rintro e w3 ⟨rfl,ak⟩;obtain⟨Hx,x0,x1⟩:=fc Hx ak;obtain⟨Hr,r0,aW,r1,aX⟩:=dD Hr ak;obtain⟨Hn,n0,n1⟩:=fc Hn ak;replace Hb:=aZ Hb ak;replace Bt:=aj (hT.below Hb.out);go_wp2_with fail;refine(Qt l _ lD.out Bt.out).mono ?_;rintro e w4 ⟨rfl,ak⟩;obtain⟨Hx,x0,x1⟩:=fc Hx ak;obtain⟨Hr,r0,aW,r1,aX⟩:=dD Hr ak;obtain⟨Hn,n0,n1⟩:=fc Hn ak;replace Hb:=aZ Hb ak;go_wp2_with fail;have nen:g≠w.heap.size+1:=by omega
        go_region_held3 (λw'=>w'.cell? ⟨g,0,none⟩=some (.bool (au M))/\w'.cell? ⟨g,1,none⟩=some (.string (bs (nt M.natAbs)))) (((try dsimp only);go_split_ands;(repeat' apply And.intro)<;>(first|exact True.intro|with_reducible assumption| ((with_reducible refine fT zg ?_);(repeat(with_reducible refine fT zg ?_));with_reducible assumption) |exact cell_later (by with_reducible assumption) (by with_reducible assumption) |exact aV (by with_reducible assumption) |go_keep))) (first| (go_at_call 125;(with_reducible refine(Ke 1 one uz.out _ zo zo).mono ?_);rintro e w5 ⟨rfl,hq⟩;have Ei:Bw w4 w5:=(by first|exact cJ hq|exact hq|exact uM hq|exact pO hq|exact sS hq);clear hq;obtain⟨Ux,yZ⟩:=aI (Hx.out.below Ei) (Hr.out.below Ei);have aqI:w5.cell? ⟨w.heap.size+1,0,none⟩=some (.bool false):=yZ.out.cell 0;have alp:w5.frozen? ⟨w.heap.size+1,0,none⟩=false:=yZ.out.free 0;have aqK:w5.cell? ⟨w.heap.size+1,1,none⟩=some (.string (bs [])):=yZ.out.cell 1;have alr:w5.frozen? ⟨w.heap.size+1,1,none⟩=false:=yZ.out.free 1;have FI:=aj (Hn.out.below Ei);have aoO:w5.cell? ⟨g,0,none⟩=some (.bool (au M)):=FI.out.cell 0;have aoR:w5.cell? ⟨g,1,none⟩=some (.string (bs (nt M.natAbs))):=FI.out.cell 1) | (go_at_call 249;(with_reducible refine(RJ (au M) (nt M.natAbs) (au one) (nt one.natAbs) _ HMl.out Hol.out).mono ?_);rintro e w6 ⟨rfl,hq⟩;have Ej:Bw w5 w6:=(by first|exact cJ hq|exact hq|exact uM hq|exact pO hq|exact sS hq);clear hq;obtain⟨ahi,Cc⟩:=aI (Ux.out.below Ej) (yZ.out.below Ej);have aqJ:w6.cell? ⟨w.heap.size+1,0,none⟩=some (.bool false):=Cc.out.cell 0;have alq:w6.frozen? ⟨w.heap.size+1,0,none⟩=false:=Cc.out.free 0;have aqL:w6.cell? ⟨w.heap.size+1,1,none⟩=some (.string (bs [])):=Cc.out.cell 1;have als:w6.frozen? ⟨w.heap.size+1,1,none⟩=false:=Cc.out.free 1;have LG:=aj (FI.out.below Ej);have aoP:w6.cell? ⟨g,0,none⟩=some (.bool (au M)):=LG.out.cell 0;have aoS:w6.cell? ⟨g,1,none⟩=some (.string (bs (nt M.natAbs))):=LG.out.cell 1))
        replace Hb:=aj (aC Hb.out Ei);clear Ei;replace Hb:=aj (aC Hb.out Ej);clear Ej x0 x1 r0 aW r1 aX n0 n1;replace Hx:=ahi;clear Ux;replace Hr:=Cc;clear yZ aqI alp aqK alr aqJ alq aqL als;replace Hn:=LG;clear FI aoO aoR aoP aoS;obtain⟨x0,x1⟩:=Hx.out.c2;obtain⟨r0,aW,r1,aX⟩:=Hr.out.g2;obtain⟨n0,n1⟩:=Hn.out.c2;rw[FU.out];go_wp2;exact bodyPost_ret (v:=cw (M-1)) (by simp[results,Tryz.results209,go_sem,r0,r1]) rfl ⟨by rw[fR.out],cm⟩
      . have fR:Hid (iv true l/2^k=M):=by
         show _=_
         rw[<-HM.out,<-HZ.out,oX];have h2:nv l%2^k=0:=by
          rcases Nat.eq_zero_or_pos (nv l%2^k)with h|h
          . exact h
          . exact absurd ((acX (nv l) k zo).2 zo) hz
         unfold iv;simp only[if_true];exact ao3 _ _ h2
        go_wp2_with fail;refine(Qs l _ lD.out).mono ?_;rintro e w3 ⟨rfl,ak⟩;obtain⟨Hx,x0,x1⟩:=fc Hx ak;obtain⟨Hr,r0,aW,r1,aX⟩:=dD Hr ak;obtain⟨Hn,n0,n1⟩:=fc Hn ak;replace Hb:=aZ Hb ak;replace Bt:=aj (hT.below Hb.out);go_wp2_with fail;refine(Qt l _ lD.out Bt.out).mono ?_;rintro e w4 ⟨rfl,ak⟩;obtain⟨Hx,x0,x1⟩:=fc Hx ak;obtain⟨Hr,r0,aW,r1,aX⟩:=dD Hr ak;obtain⟨Hn,n0,n1⟩:=fc Hn ak;replace Hb:=aZ Hb ak;go_wp2;exact bodyPost_ret (v:=cw M) (by simp[results,Tryz.results209,go_sem,r0,r1]) rfl ⟨by rw[fR.out],cm⟩
end Go.Proofs.YtpfgffadgkkedaaGreatDoor
