/- Package whole,on: Sub,Cmp,Mul,Shift. -/
import Derived.Test.YtpfgffadgkkedaaGreatDoorZ6
import Derived.Deep.DeepCutAuto
set_option linter.all false
set_option maxRecDepth 100000
set_option maxHeartbeats 16000000
namespace Go.Proofs.YtpfgffadgkkedaaGreatDoor
open Go.RowKit
attribute [local go_sem ↓] Go.wp_at_zero Go.wp_at_succ
def agH (s:Bool)(l:List UInt8)(t:Bool)(m:List UInt8)(b cap:Nat)(ty:TypeId)(w:World)(hl:l.length<=34359738368)(hm:m.length<=34359738368)
 (ha:ar w b ty [ag s,ah l,ag t,ah m]):
 Cv 167 #[.slice (some ⟨b,0,none⟩) 2 cap] w (cP (iv s l+iv t m)):=by
 have:=axg [(s,l),(t,m)] (some ⟨b,0,none⟩) cap w (by simp[hl,hm]) zm (At.aBa ha);have e:mK [(s,l),(t,m)]=iv s l+iv t m:=by simp[mK]
 rw[e]at this;exact this
def IM (s:Bool)(m:List UInt8)(B:Nat)(hm:m.length<=B):(nt (-(iv s m)).natAbs).length<=B:=by rw[Int.natAbs_neg,uf];exact ky (Nat.lt_of_lt_of_le (ib m) (Nat.pow_le_pow_right zd hm))
def NK (s:Bool)(l:List UInt8)(N:Int)(hN: -(iv s l)=N)(w:World)(hl:l.length<=1099511627776):
 Cv 214 #[.agg #[ag s,ah l]] w (cP N):=by
 subst hN;exact agL s l w hl
def VO (s:Bool)(l:List UInt8)(t:Bool)(m:List UInt8)(w:World)(hl:l.length<=34359738368)(hm:m.length<=34359738368):
 Cv 249 #[.agg #[.bool s,.string (bs l)],.agg #[.bool t,.string (bs m)]] w (cP (iv s l-iv t m)):=by
 have hm2:=IM t m 34359738368 hm;have He:Hid (iv s l+iv (au (-(iv t m))) (nt (-(iv t m)).natAbs)=iv s l-iv t m):=by show _=_;rw[fu];omega
 generalize hN: -(iv t m)=N at*;have HN:=aj hN;clear hN;go_enter Tryz.func249,Tryz.ntmps249;have Hb:=hbz w;go_wp2_with fail;obtain⟨R,hR⟩:∃R:World->Prop,(λW=>ar W (w.heap.size) 43 [.bool s,.string (bs l)]/\ar W (w.heap.size+1) 43 [.bool t,.string (bs m)]/\ar W (w.heap.size+1+1) 43 [.bool false,.string (bs [])]/\Bw w W)=R:=⟨_,rfl⟩;first|refine eG R ?hR ?_|refine eF R ?hR ?_
 case hR=>subst hR;exact⟨(((ar.newAt w _ _ (b:=w.heap.size) rfl).alloc _).alloc _),((ar.newAt (w.alloc _) _ _ (b:=w.heap.size+1) zm).alloc _),(ar.newAt ((w.alloc _).alloc _) _ _ (b:=w.heap.size+1+1) zm),((zl.alloc zj _).alloc zj _)⟩
 subst hR;rintro W ⟨qx,qy,qr,ak⟩;have Hx:=aj qx;clear qx;have Hy:=aj qy;clear qy;have Hr:=aj qr;clear qr;obtain⟨x0,x1⟩:=Hx.out.c2;obtain⟨y0,y1⟩:=Hy.out.c2;obtain⟨r0,aX,r1,aY⟩:=Hr.out.g2;replace Hb:=bg Hb ak;have Ux:w.heap.size≠w.heap.size+1+1:=by omega
 have ney:w.heap.size+1≠w.heap.size+1+1:=by omega
 go_region_held3 (λw'=>w'.cell? ⟨w.heap.size,0,none⟩=some (.bool s)/\w'.cell? ⟨w.heap.size,1,none⟩=some (.string (bs l))/\w'.cell? ⟨w.heap.size+1,0,none⟩=some (.bool t)/\w'.cell? ⟨w.heap.size+1,1,none⟩=some (.string (bs m))) (((try dsimp only);go_split_ands;(repeat' apply And.intro)<;>(first|exact True.intro|with_reducible assumption| ((with_reducible refine gG zg ?_);(repeat(with_reducible refine gG zg ?_));with_reducible assumption) |exact cell_later (by with_reducible assumption) (by with_reducible assumption) |exact aM (by with_reducible assumption) |go_keep))) (first| (go_at_call 214;(with_reducible refine(NK t m N HN.out _ zo).mono ?_);rintro e w1 ⟨rfl,hq⟩;have hw1:Bw W w1:=(by first|exact cS hq|exact hq|exact sP hq|exact sO hq|exact vT hq);clear hq;have lU:=aj (Hx.out.below hw1);have BU:w1.cell? ⟨w.heap.size,0,none⟩=some (.bool s):=lU.out.cell 0;have BV:w1.cell? ⟨w.heap.size,1,none⟩=some (.string (bs l)):=lU.out.cell 1;have rh:=aj (Hy.out.below hw1);have Ju:w1.cell? ⟨w.heap.size+1,0,none⟩=some (.bool t):=rh.out.cell 0;have Jv:w1.cell? ⟨w.heap.size+1,1,none⟩=some (.string (bs m)):=rh.out.cell 1;have il:=aj (Hr.out.below hw1);have BN:w1.cell? ⟨w.heap.size+1+1,0,none⟩=some (.bool false):=il.out.cell 0;have Aw:w1.frozen? ⟨w.heap.size+1+1,0,none⟩=false:=il.out.free 0;have BO:w1.cell? ⟨w.heap.size+1+1,1,none⟩=some (.string (bs [])):=il.out.cell 1;have Ax:w1.frozen? ⟨w.heap.size+1+1,1,none⟩=false:=il.out.free 1) | (go_at_call 167;(with_reducible refine(agH s l (au N) (nt N.natAbs) w1.heap.size 2 43 _ hl hm2 (by first|exact ar.drew (ar.new _ _ _) |exact ar.new _ _ _)).mono ?_);rintro e w2 ⟨rfl,hq⟩;have hw2:Bw w1 w2:=(by first|exact cS hq|exact hq|exact sP hq|exact sO hq|exact vT hq);clear hq;have Ad:=aj (lU.out.below hw2);have VT:w2.cell? ⟨w.heap.size,0,none⟩=some (.bool s):=Ad.out.cell 0;have VU:w2.cell? ⟨w.heap.size,1,none⟩=some (.string (bs l)):=Ad.out.cell 1;have Qd:=aj (rh.out.below hw2);have axR:w2.cell? ⟨w.heap.size+1,0,none⟩=some (.bool t):=Qd.out.cell 0;have axS:w2.cell? ⟨w.heap.size+1,1,none⟩=some (.string (bs m)):=Qd.out.cell 1;have sF:=aj (il.out.below hw2);have UY:w2.cell? ⟨w.heap.size+1+1,0,none⟩=some (.bool false):=sF.out.cell 0;have Rp:w2.frozen? ⟨w.heap.size+1+1,0,none⟩=false:=sF.out.free 0;have UZ:w2.cell? ⟨w.heap.size+1+1,1,none⟩=some (.string (bs [])):=sF.out.cell 1;have Rq:w2.frozen? ⟨w.heap.size+1+1,1,none⟩=false:=sF.out.free 1))
 replace Hb:=aj (aC Hb.out hw1);clear hw1;replace Hb:=aj (aC Hb.out hw2);clear hw2 x0 x1 y0 y1 r0 aX r1 aY;replace Hx:=Ad;clear lU BU BV VT VU;replace Hy:=Qd;clear rh Ju Jv axR axS;replace Hr:=sF;clear il BN Aw BO Ax UY Rp UZ Rq;obtain⟨x0,x1⟩:=Hx.out.c2;obtain⟨y0,y1⟩:=Hy.out.c2;obtain⟨r0,aX,r1,aY⟩:=Hr.out.g2;rw[He.out];go_wp2;exact bodyPost_ret (v:=cP (iv s l-iv t m)) (by simp[results,Tryz.results249,go_sem,r0,r1]) rfl ⟨rfl,cM⟩
def axj (s:Bool)(l:List UInt8)(t:Bool)(m:List UInt8)(w:World)(hl:l.length<=34359738368)(hm:m.length<=34359738368)(hd:(nt (iv s l-iv t m).natAbs).length<=1099511627776):
 Cv 239 #[.agg #[ag s,ah l],.agg #[ag t,ah m]] w (af (eo (iv s l-iv t m))):=by
 have Hi:=aj (fu (iv s l-iv t m));go_enter Tryz.func239,Tryz.ntmps239;have Hb:=hbz w;go_wp2_with fail;obtain⟨R,hR⟩:∃R:World->Prop,(λW=>ar W (w.heap.size) 43 [ag s,ah l]/\ar W (w.heap.size+1) 43 [ag t,ah m]/\Bw w W)=R:=⟨_,rfl⟩;first|refine eG R ?hR ?_|refine eF R ?hR ?_
 case hR=>subst hR;exact⟨((ar.newAt w _ _ (b:=w.heap.size) rfl).alloc _),(ar.newAt (w.alloc _) _ _ (b:=w.heap.size+1) zm),(zl.alloc zj _)⟩
 subst hR;rintro W ⟨qx,qy,ak⟩;have Hx:=aj qx;clear qx;have Hy:=aj qy;clear qy;obtain⟨x0,x1⟩:=Hx.out.c2;obtain⟨y0,y1⟩:=Hy.out.c2;replace Hb:=bg Hb ak;go_wp2_with fail;refine(VO s l t m _ hl hm).mono ?_;rintro e w1 ⟨rfl,ak⟩;obtain⟨Hx,x0,x1⟩:=fJ Hx ak;obtain⟨Hy,y0,y1⟩:=fJ Hy ak;replace Hb:=bg Hb ak;go_wp2_with fail;refine(Jq (au (iv s l-iv t m)) (nt (iv s l-iv t m).natAbs) _ hd).mono ?_;rintro e w2 ⟨rfl,ak⟩;obtain⟨Hx,x0,x1⟩:=fJ Hx ak;obtain⟨Hy,y0,y1⟩:=fJ Hy ak;replace Hb:=bg Hb ak;rw[Hi.out];go_wp2;go_ret;exact⟨rfl,Hb.out⟩
def VN (s:Bool)(l:List UInt8)(n:Nat)(w:World)(hl:l.length<=68719476736)(hn:n<=549755813888):
 Cv 209 #[.agg #[.bool s,.string (bs l)],.int .i64 (n:Int)] w (cP (iv s l*2^n)):=by
 have hlen:(nt (nv l*2^n)).length<=1099511627776:=by
  have h1:nv l*2^n<2^(8*l.length+n):=by rw[Nat.pow_add,Nat.pow_mul];exact Nat.mul_lt_mul_of_pos_right (ib l) (Nat.pow_pos zd)
  have h2:=im h1;rw[atJ];omega
 have He:Hid (iv s (nt (nv l*2^n))=iv s l*2^n):=by
  show _=_
  rw[rL];unfold iv;cases s<;>simp[Int.natCast_mul,Int.natCast_pow,Int.neg_mul]
 go_enter Tryz.func209,Tryz.ntmps209;have Hb:=hbz w;go_wp2_with fail;obtain⟨R,hR⟩:∃R:World->Prop,(λW=>ar W (w.heap.size) 43 [.bool s,.string (bs l)]/\ar W (w.heap.size+1) 43 [.bool false,.string (bs [])]/\Bw w W)=R:=⟨_,rfl⟩;first|refine eG R ?hR ?_|refine eF R ?hR ?_
 case hR=>subst hR;exact⟨((ar.newAt w _ _ (b:=w.heap.size) rfl).alloc _),(ar.newAt (w.alloc _) _ _ (b:=w.heap.size+1) zm),(zl.alloc zj _)⟩
 subst hR;rintro W ⟨qx,qr,ak⟩;have Hx:=aj qx;clear qx;have Hr:=aj qr;clear qr;obtain⟨x0,x1⟩:=Hx.out.c2;obtain⟨r0,aX,r1,aY⟩:=Hr.out.g2;replace Hb:=bg Hb ak;have Ux:w.heap.size≠w.heap.size+1:=by omega
 go_region_held3 (λw'=>w'.cell? ⟨w.heap.size,0,none⟩=some (.bool s)/\w'.cell? ⟨w.heap.size,1,none⟩=some (.string (bs l))) (((try dsimp only);go_split_ands;(repeat' apply And.intro)<;>(first|exact True.intro|with_reducible assumption| ((with_reducible refine gG zg ?_);(repeat(with_reducible refine gG zg ?_));with_reducible assumption) |exact cell_later (by with_reducible assumption) (by with_reducible assumption) |exact aM (by with_reducible assumption) |go_keep))) (first| (go_at_call 257;(with_reducible refine(atv l n _ hl hn).mono ?_);rintro e w1 ⟨rfl,hq⟩;have hw1:Bw W w1:=(by first|exact cS hq|exact hq|exact sP hq|exact sO hq|exact vT hq);clear hq;have lU:=aj (Hx.out.below hw1);have BU:w1.cell? ⟨w.heap.size,0,none⟩=some (.bool s):=lU.out.cell 0;have BV:w1.cell? ⟨w.heap.size,1,none⟩=some (.string (bs l)):=lU.out.cell 1;have il:=aj (Hr.out.below hw1);have BN:w1.cell? ⟨w.heap.size+1,0,none⟩=some (.bool false):=il.out.cell 0;have Aw:w1.frozen? ⟨w.heap.size+1,0,none⟩=false:=il.out.free 0;have BO:w1.cell? ⟨w.heap.size+1,1,none⟩=some (.string (bs [])):=il.out.cell 1;have Ax:w1.frozen? ⟨w.heap.size+1,1,none⟩=false:=il.out.free 1) | (go_at_call 211;(with_reducible refine(yM (nt (nv l*2^n)) s _ hlen).mono ?_);rintro e w2 ⟨rfl,hq⟩;have hw2:Bw w1 w2:=(by first|exact cS hq|exact hq|exact sP hq|exact sO hq|exact vT hq);clear hq;have Ad:=aj (lU.out.below hw2);have VT:w2.cell? ⟨w.heap.size,0,none⟩=some (.bool s):=Ad.out.cell 0;have VU:w2.cell? ⟨w.heap.size,1,none⟩=some (.string (bs l)):=Ad.out.cell 1;have sF:=aj (il.out.below hw2);have UY:w2.cell? ⟨w.heap.size+1,0,none⟩=some (.bool false):=sF.out.cell 0;have Rp:w2.frozen? ⟨w.heap.size+1,0,none⟩=false:=sF.out.free 0;have UZ:w2.cell? ⟨w.heap.size+1,1,none⟩=some (.string (bs [])):=sF.out.cell 1;have Rq:w2.frozen? ⟨w.heap.size+1,1,none⟩=false:=sF.out.free 1))
 replace Hb:=aj (aC Hb.out hw1);clear hw1;replace Hb:=aj (aC Hb.out hw2);clear hw2 x0 x1 r0 aX r1 aY;replace Hx:=Ad;clear lU BU BV VT VU;replace Hr:=sF;clear il BN Aw BO Ax UY Rp UZ Rq;obtain⟨x0,x1⟩:=Hx.out.c2;obtain⟨r0,aX,r1,aY⟩:=Hr.out.g2;rw[He.out];go_wp2;exact bodyPost_ret (v:=cP (iv s l*2^n)) (by simp[results,Tryz.results209,go_sem,r0,r1]) rfl ⟨rfl,cM⟩
def VL (n N:Int)(hN:n=N)(w:World)(h0: -9223372036854775808<=n)(h1:n<=9223372036854775807):
 Cv 125 #[af n] w (cP N):=by
 subst hN;exact VK n w h0 h1
def gZ :List (Bool×List UInt8)->Int
 |[]=>1
 |x::xs=>iv x.1 x.2*gZ xs
def arL (xs ys:List (Bool×List UInt8)):gZ (xs++ys)=gZ xs*gZ ys:=by
 induction xs with
 |nil=>simp[gZ]
 |cons x xs ih=>simp[gZ,ih,Int.mul_assoc]
def arO (xs:List (Bool×List UInt8))(k:Nat)(hk:k<xs.length):gZ (xs.take (k+1))=gZ (xs.take k) *iv xs[k].1 xs[k].2:=by rw[List.take_succ_eq_append_getElem hk,arL];simp[gZ]
def qJ (xs:List (Bool×List UInt8)):Nat:=(xs.map λx=>x.2.length).sum
def arB (xs:List (Bool×List UInt8))(k:Nat):qJ (xs.take k)<=qJ xs:=by
 unfold qJ;induction xs generalizing k with
 |nil=>simp
 | cons x xs ih=>cases k with
   |zero=>simp
   |succ k=>simp only[List.take_succ_cons,List.map_cons,List.sum_cons];have:=ih k;omega
def arA (xs:List (Bool×List UInt8))(x)(h:x∈xs):x.2.length<=qJ xs:=by
 unfold qJ;induction xs with
 |nil=>simp at h
 | cons y xs ih=>
   simp at h⊢;rcases h with h|h
   . subst h;omega
   . have:=ih h;omega
def arN (xs:List (Bool×List UInt8)):(gZ xs).natAbs<=256^qJ xs:=by
 induction xs with
 |nil=>simp[gZ,qJ]
 | cons x xs ih=>
   simp only[gZ,Int.natAbs_mul,uf];have h1:=ib x.2;have:qJ (x::xs)=x.2.length+qJ xs:=by simp[qJ]
   rw[this,Nat.pow_add];exact Nat.mul_le_mul (Nat.le_of_lt h1) ih
def arM (xs:List (Bool×List UInt8))(N:Nat)(h:qJ xs+1<=N):(nt (gZ xs).natAbs).length<=N:=by refine ky (Nat.lt_of_le_of_lt (arN xs) ?_);exact Nat.pow_lt_pow_right zd zo
def axm (xs:List (Bool×List UInt8))(a:Option Addr)(cap:Nat)(w:World)(hl:qJ xs<=34359738368)(hx:xs.length<=1048576)
 (ha:At w a (xs.flatMap MS)):
 Cv 126 #[.slice a xs.length cap] w (cP (gZ xs)):=by
 have Hl:=aj hl;clear hl;have Ha:=aj ha;clear ha;have EI:Hid (∀k,(nt (gZ (xs.take k)).natAbs).length<=68719476736):=λk=>arM _ _ (by have:=arB xs k;have:=Hl.out;omega);obtain⟨one,hone⟩:∃one:Int,1=one:=⟨_,rfl⟩;have xC:=aj hone;clear hone;go_enter Tryz.func126,Tryz.ntmps126;have Hb:=hbz w;go_wp2_with fail;obtain⟨R,hR⟩:∃R:World->Prop,(λW=>ar W (w.heap.size) 43 [ag false,.string (bs [])]/\Bw w W)=R:=⟨_,rfl⟩;first|refine eG R ?hR ?_|refine eF R ?hR ?_
 case hR=>subst hR;exact⟨(ar.newAt w _ _ (b:=w.heap.size) rfl),zl⟩
 subst hR;rintro W ⟨qr,ak⟩;have Hr:=aj qr;clear qr;obtain⟨r0,aX,r1,aY⟩:=Hr.out.g2;replace Hb:=bg Hb ak;go_wp2_with fail;refine(VL 1 one xC.out _ zo zo).mono ?_;rintro e w1 ⟨rfl,ak⟩;obtain⟨Hr,r0,aX,r1,aY⟩:=dS Hr ak;replace Hb:=bg Hb ak;go_wp2_with fail;refine(NL (nt one.natAbs) (au one) _).mono ?_;rintro e w2 ⟨rfl,ak⟩;obtain⟨Hr,r0,aX,r1,aY⟩:=dS Hr ak;replace Hb:=bg Hb ak;have azW:w.heap.size<w2.heap.size:=Hr.out.lt;have aAl:=Hr.out.lt;go_wp2_with fail;obtain⟨R,hR⟩:∃R:World->Prop,(λW2=>ar W2 (w2.heap.size) 224 [ah (nt one.natAbs),ag (au one)]/\Bw w2 W2)=R:=⟨_,rfl⟩;first|refine eG R ?hR ?_|refine eF R ?hR ?_
 case hR=>subst hR;exact⟨(ar.newAt w2 _ _ (b:=w2.heap.size) rfl),zl⟩
 subst hR;rintro W2 ⟨qs,ak⟩;have Hs:=aj qs;clear qs r0 aX r1 aY;obtain⟨Hr,r0,aX,r1,aY⟩:=dS Hr ak;obtain⟨s0,uK,s1,uL⟩:=Hs.out.g2;replace Hb:=bg Hb ak
 go_loopw[5,10] (λ_ i wr=>∃(k:Nat) (t:Bool),k<=xs.length/\i=af k/\iv t (nt (gZ (xs.take k)).natAbs)=gZ (xs.take k)/\ar wr w.heap.size 43 [ag false,.string (bs [])]/\
  ar wr w2.heap.size 224 [ah (nt (gZ (xs.take k)).natAbs),ag t]/\Bw w wr) (λ_ i _=>xs.length-(intOf i).toNat)
 case atStart=>
  have e:gZ (xs.take 0)=one:=by rw[<-xC.out];simp[gZ]
  refine⟨0,au one,Nat.zero_le _,rfl,?_,Hr.out,?_,Hb.out⟩
  . rw[e];exact fu one
  . rw[e];exact Hs.out
 case round=>
  obtain⟨k,t,hk,rfl,lh,qr,qs,hb⟩:=hrel;replace Hr:=aj qr;replace Hs:=aj qs;replace Hb:=aj hb;have jD:=aj lh;clear qr qs hb lh r0 r1 aX aY s0 s1 uK uL;by_cases hlt:k<xs.length
  . obtain⟨b,o,hab,hcs⟩:=(Ha.out.below Hb.out).elem (f:=MS) (sz:=2) (λ_=>rfl) zd k hlt;have hc0:wr.cell? ⟨b,o+k*2,none⟩=some (ag xs[k].1):=hcs 0 zd;have hc1:wr.cell? ⟨b,o+k*2+1,none⟩=some (.string (bs xs[k].2)):=hcs 1 zd;have aU:=wO xs.length cap k (k:Int) hab hlt rfl;have bK:=aj (arO xs k hlt);have lM:Hid (xs[k].2.length<=34359738368):=by have:=arA xs _ (List.getElem_mem hlt);have:=Hl.out;show _<=_;omega
    have kG:=aj (EI.out k);clear hcs hab;generalize xs[k]=x at*;obtain⟨t1,l1⟩:=x;generalize hS:gZ (xs.take k)=S at*;have HS:=aj hS;clear hS;obtain⟨r0,aX,r1,aY⟩:=Hr.out.g2;obtain⟨s0,uK,s1,uL⟩:=Hs.out.g2;have asI:=Hr.out.lt;have asK:=Hs.out.lt;go_wp2_with fail;obtain⟨R,hR⟩:∃R:World->Prop,(λW1=>ar W1 (wr.heap.size) 43 [ag t1,ah l1]/\Bw wr W1)=R:=⟨_,rfl⟩;first|refine eG R ?hR ?_|refine eF R ?hR ?_
    case hR=>subst hR;exact⟨(ar.newAt wr _ _ (b:=wr.heap.size) rfl),zl⟩
    subst hR;rintro W1 ⟨qa,ak⟩;have Ha:=aj qa;clear qa r0 aX r1 aY;obtain⟨Hr,r0,aX,r1,aY⟩:=dS Hr ak;obtain⟨Hs,s0,uK,s1,uL⟩:=dS Hs ak;obtain⟨a0,a1⟩:=Ha.out.c2;replace Hb:=bg Hb ak;go_region_with (first| (go_at_call 212;refine(NL l1 t1 _).mono ?_;rintro e w3 ⟨rfl,hq⟩;have hw3:Bw W1 w3:=cS hq;clear hq;have Vh:=cell_later hw3 s0;have Vj:=cell_later hw3 s1;have apf:=(Hs.out.below hw3).free 0;have aph:=(Hs.out.below hw3).free 1) | (go_at_call 213;refine(awI (nt S.natAbs) l1 t t1 _ kG.out (by have:=lM.out;omega)).mono ?_;rintro e w4 ⟨rfl,hw4⟩;have avI:=cell_later hw4 Vh;have avL:=cell_later hw4 Vj;have apg:=((Hs.out.below hw3).below hw4).free 0;have api:=((Hs.out.below hw3).below hw4).free 1))
    all_goals
     go_wp2
     go_roundw
     case rel=>
      have hq:=arT t (nt S.natAbs) t1 l1;rw[jD.out,<-bK.out]at hq;have hq2:nv (nt S.natAbs) *nv l1=(gZ (xs.take (k+1))).natAbs:=by rw[bK.out,Int.natAbs_mul,uf,ji]
      rw[hq2]at hq⊢;refine⟨k+1,_,by omega,by go_num,hq,((((Hr.out.below hw3).below hw4).aA9 ⟨w2.heap.size,0,none⟩ zp _).aA9 ⟨w2.heap.size,1,none⟩ zp _),((((Hs.out.below hw3).below hw4).set 0 _).set 1 _),?_⟩;exact((aC (aC Hb.out hw3) hw4).setCell zp _).setCell zp _
     case measure=>exact bf
  . obtain rfl:k=xs.length:=by omega
    rw[List.take_length]at Hs jD;have kG:=EI.out xs.length;rw[List.take_length]at kG;obtain⟨r0,aX,r1,aY⟩:=Hr.out.g2;obtain⟨s0,uK,s1,uL⟩:=Hs.out.g2;go_wp2_with fail;refine(yM (nt (gZ xs).natAbs) t _ zo).mono ?_;rintro e w3 ⟨rfl,ak⟩;obtain⟨Hr,r0,aX,r1,aY⟩:=dS Hr ak;obtain⟨Hs,s0,uK,s1,uL⟩:=dS Hs ak;replace Hb:=bg Hb ak;rw[jD.out];go_wp2;exact bodyPost_ret (v:=cP (gZ xs)) (by simp[results,Tryz.results126,go_sem,r0,r1]) rfl ⟨rfl,cM⟩
def ape {w wx:World}{a:Addr}{v:Value}(hb:Bw w wx)(hc:w.cell? a=some v)(hf:w.frozen? a=false):wx.frozen? a=false:=
 (hb.frozen (World.block_lt_of_cell? w a hc)).trans hf
def agw (v:Nat)(h:0<v):∃m,v=2^tz v* (2*m+1):=by
 induction v using Nat.strongRecOn with
 | _ v ih=>
   by_cases he:v%2=0
   . obtain⟨u,rfl⟩:∃u,v=2*u:=⟨v/2,by omega⟩;obtain⟨m,hm⟩:=ih u zo zo;refine⟨m,?_⟩;have e:tz (2*u)=tz u+1:=by unfold tz;rw[show((2*u:Nat):Int)=2* (u:Int)by omega];exact Int.trailingZeros_two_mul zo
     rw[e,Nat.pow_succ];conv=>lhs;rw[hm]
     rw[Nat.mul_comm (2^tz u) 2,Nat.mul_assoc]
   . refine⟨v/2,?_⟩;have e:tz v=0:=by unfold tz;exact Int.trailingZeros_eq_zero_of_mod_eq zo
     rw[e];omega
def agu (v k:Nat)(h:0<v):tz v<k↔v%2^k≠0:=by
 obtain⟨m,hm⟩:=agw v h;generalize tz v=c at*;constructor
 . intro hc h0;have hd:2^k∣v:=Nat.dvd_of_mod_eq_zero h0;have hd2:2^(c+1)∣v:=Nat.dvd_trans (Nat.pow_dvd_pow 2 hc) hd;rw[hm,Nat.pow_succ]at hd2;have:=Nat.dvd_of_mul_dvd_mul_left (Nat.pow_pos zd) hd2;omega
 . intro hne;rcases Nat.lt_or_ge c k with h1|h1
   . exact h1
   . exfalso;apply hne
     rw[hm];exact Nat.mod_eq_zero_of_dvd (Nat.dvd_trans (Nat.pow_dvd_pow 2 h1) (Nat.dvd_mul_right _ _))
def atz (v k:Nat)(h:v%2^k=0): -(v:Int)/2^k= -((v/2^k:Nat):Int):=by
 obtain⟨q,rfl⟩:=Nat.dvd_of_mod_eq_zero h;have hp:=Nat.pow_pos (n:=k) (show 0<2 by decide);rw[Nat.mul_div_cancel_left _ hp];have e: -((2^k*q:Nat):Int)=2^k* (-(q:Int)):=by simp[Int.natCast_mul,Int.natCast_pow,Int.mul_neg]
 rw[e,Int.mul_ediv_cancel_left];have:((2^k:Nat):Int)≠0:=by omega
 simpa[Int.natCast_pow]using this
def atA (v k:Nat)(h:v%2^k≠0): -(v:Int)/2^k= -((v/2^k:Nat):Int)-1:=by
 have hp:=Nat.pow_pos (n:=k) (show 0<2 by decide);have e:=(Nat.mod_add_div v (2^k)).symm;have hr:=Nat.mod_lt v hp;rw[show((2:Int)^k)=((2^k:Nat):Int)by simp[Int.natCast_pow]];generalize v%2^k=r at*;generalize v/2^k=q at*;generalize 2^k=p at*;subst e;have e2: -((r+p*q:Nat):Int)=((p:Int)-r)+p* (-(q:Int)-1):=by rw[Int.natCast_add,Int.natCast_mul,Int.mul_sub,Int.mul_neg,Int.mul_one];omega
 rw[e2,Int.add_mul_ediv_left _ _ zo,Int.ediv_eq_zero_of_lt zo zo];omega
def atI (l:List UInt8)(k B:Nat)(hl:l.length<=B):(nt (nv l/2^k)).length<=B:=ky (Nat.lt_of_le_of_lt (Nat.div_le_self _ _) (Nat.lt_of_lt_of_le (ib l) (Nat.pow_le_pow_right zd hl)))
def agN (s:Bool)(l:List UInt8)(k:Nat)(w:World)(hl:l.length<=34359738368)(hk:0<k)(hk2:k<=1099511627776)(hT:aB w):
 Cv 209 #[.agg #[.bool s,.string (bs l)],.int .i64 (-(k:Int))] w (cP (iv s l/2^k)):=by
 have hmax:max (-(k:Int)) (-1099511627776)= -(k:Int):=by omega
 have hlen:(nt (nv l/2^k)).length<=34359738368:=atI l k _ hl;obtain⟨Z,hZ⟩:=az (nv l/2^k);have MH:∀W,Cv 258 #[.string (bs l),.int .i64 (k:Int)] W (.string (bs (nt Z))):=λW=>by rw[<-hZ];exact atw l k W zo hk2
 rw[hZ]at hlen;have HZ:=aj hZ;clear hZ;have akv:=aj MH;clear MH;obtain⟨M,hM⟩:=az (iv s (nt Z));have HM:=aj hM;clear hM;have acV:∀W,Cv 211 #[.agg #[.string (bs (nt Z)),.bool s]] W (cP M):=λW=>by have:=yM (nt Z) s W zo;rw[HM.out]at this;exact this
 have ajy:=aj acV;clear acV;go_enter Tryz.func209,Tryz.ntmps209;have Hb:=hbz w;go_upto_region 4 with fail
 go_wp2_with fail;obtain⟨R,hR⟩:∃R:World->Prop,(λW=>ar W (w.heap.size) 43 [.bool s,.string (bs l)]/\ar W (w.heap.size+1) 43 [.bool false,.string (bs [])]/\Bw w W)=R:=⟨_,rfl⟩;first|refine eG R ?hR ?_|refine eF R ?hR ?_
 case hR=>subst hR;exact⟨((ar.newAt w _ _ (b:=w.heap.size) rfl).alloc _),(ar.newAt (w.alloc _) _ _ (b:=w.heap.size+1) zm),(zl.alloc zj _)⟩
 subst hR;rintro W ⟨qx,qr,ak⟩;have Hx:=aj qx;clear qx;have Hr:=aj qr;clear qr;obtain⟨x0,x1⟩:=Hx.out.c2;obtain⟨r0,aX,r1,aY⟩:=Hr.out.g2;replace Hb:=bg Hb ak;go_cut[5] (λs5 wx=>∃g:Nat,s5=.pointer (some ⟨g,0,none⟩)/\w.heap.size+1<g/\ar wx w.heap.size 43 [.bool s,.string (bs l)]/\ar wx (w.heap.size+1) 43 [.bool false,.string (bs [])]/\ar wx g 43 [.bool (au M),.string (bs (nt M.natAbs))]/\Bw w wx);case first=>
  have hxW:w.heap.size<W.heap.size:=Hx.out.lt;have hrW:w.heap.size+1<W.heap.size:=Hr.out.lt;have hwk:IntKind.i64.wrap (k:Int)=(k:Int):=by rw[IntKind.wrap_i64];omega
  go_region_held3 (λw'=>w'.cell? ⟨w.heap.size,0,none⟩=some (.bool s)/\w'.cell? ⟨w.heap.size,1,none⟩=some (.string (bs l))) (((try dsimp only);go_split_ands;(repeat' apply And.intro)<;>(first|with_reducible assumption|exact aM (by with_reducible assumption) |exact QF (by with_reducible assumption) |exact QF (aM (by with_reducible assumption)) | ((with_reducible refine gG zf ?_);(repeat(with_reducible refine gG zf ?_));first|with_reducible assumption|exact aM (by with_reducible assumption) |exact QF (by with_reducible assumption)) |go_keep))) (first| (go_at_call 258;(with_reducible refine(akv.out _).mono ?_);rintro e w1 ⟨rfl,hq⟩;(first| (have hw1:Bw W w1:=cS hq) | (have hw1:Bw W w1:=vT hq;have Fe:=aj (ar.below (ar.drew (ar.new W 43 [.bool false,.string (bs [])])) hq);have aAu:w1.cell? ⟨W.heap.size,0,none⟩=some (.bool false):=Fe.out.cell 0;have aAv:w1.cell? ⟨W.heap.size,1,none⟩=some (.string (bs [])):=Fe.out.cell 1;have ayO:=Fe.out.free 0;have ayP:=Fe.out.free 1));clear hq;have zs1:=hw1.size;obtain⟨Qb,akj⟩:=aI (Hx.out.below hw1) (Hr.out.below hw1);have aAQ:w1.cell? ⟨w.heap.size,0,none⟩=some (.bool s):=Qb.out.cell 0;have aAS:w1.cell? ⟨w.heap.size,1,none⟩=some (.string (bs l)):=Qb.out.cell 1) | (go_at_call 211;(with_reducible refine(ajy.out _).mono ?_);rintro e w2 ⟨rfl,hq⟩;(first| (have hw2:Bw w1 w2:=hq;(try(have sA:=aj (ar.below Fe.out hq);have ath:w2.cell? ⟨W.heap.size,0,none⟩=some (.bool false):=sA.out.cell 0;have atk:w2.cell? ⟨W.heap.size,1,none⟩=some (.string (bs [])):=sA.out.cell 1;have ao6:=sA.out.free 0;have ao7:=sA.out.free 1))) | (have hw2:Bw w1 w2:=sO hq;have sA:=aj (ar.below (ar.new w1 43 [.bool false,.string (bs [])]) hq);have ath:w2.cell? ⟨w1.heap.size,0,none⟩=some (.bool false):=sA.out.cell 0;have atk:w2.cell? ⟨w1.heap.size,1,none⟩=some (.string (bs [])):=sA.out.cell 1;have ao6:=sA.out.free 0;have ao7:=sA.out.free 1));clear hq;have zs2:=hw2.size;obtain⟨Fz,PC⟩:=aI (Qb.out.below hw2) (akj.out.below hw2);have aAR:w2.cell? ⟨w.heap.size,0,none⟩=some (.bool s):=Fz.out.cell 0;have aAT:w2.cell? ⟨w.heap.size,1,none⟩=some (.string (bs l)):=Fz.out.cell 1))
  all_goals(go_wp2_with fail;go_meet)
  . exact⟨w2.heap.size,rfl,by omega,Fz.out.alloc _,PC.out.alloc _,ar.new _ _ _,(aC (aC Hb.out hw1) hw2).alloc zo _⟩
  . exact⟨w1.heap.size,rfl,by omega,((Fz.out.aA9 ⟨w1.heap.size,0,none⟩ (by first| (dsimp only;omega) |omega| (simp<;>omega)) _).aA9 ⟨w1.heap.size,1,none⟩ (by first| (dsimp only;omega) |omega| (simp<;>omega)) _),((PC.out.aA9 ⟨w1.heap.size,0,none⟩ (by first| (dsimp only;omega) |omega| (simp<;>omega)) _).aA9 ⟨w1.heap.size,1,none⟩ (by first| (dsimp only;omega) |omega| (simp<;>omega)) _),((sA.out.set 0 _).set 1 _),((aC (aC Hb.out hw1) hw2).setCell (by first| (dsimp only;omega) |omega| (simp<;>omega)) _).setCell (by first| (dsimp only;omega) |omega| (simp<;>omega)) _⟩
  . exact⟨W.heap.size,rfl,hrW,((Fz.out.aA9 ⟨W.heap.size,0,none⟩ (by first| (dsimp only;omega) |omega| (simp<;>omega)) _).aA9 ⟨W.heap.size,1,none⟩ (by first| (dsimp only;omega) |omega| (simp<;>omega)) _),((PC.out.aA9 ⟨W.heap.size,0,none⟩ (by first| (dsimp only;omega) |omega| (simp<;>omega)) _).aA9 ⟨W.heap.size,1,none⟩ (by first| (dsimp only;omega) |omega| (simp<;>omega)) _),((sA.out.set 0 _).set 1 _),((aC (aC Hb.out hw1) hw2).setCell (by first| (dsimp only;omega) |omega| (simp<;>omega)) _).setCell (by first| (dsimp only;omega) |omega| (simp<;>omega)) _⟩
 case rest=>
  obtain⟨g,rfl,hg,qx,qr,qn,qb⟩:=hcut;replace Hx:=aj qx;replace Hr:=aj qr;have Hn:=aj qn;replace Hb:=aj qb;clear qx qr qn qb x0 x1 r0 r1 aX aY;cases s
  . obtain ⟨x0,x1⟩:=Hx.out.c2;obtain⟨r0,aX,r1,aY⟩:=Hr.out.g2;obtain⟨n0,n1⟩:=Hn.out.c2;have gD:Hid (iv false l/2^k=M):=by
     show _=_
     rw[<-HM.out,<-HZ.out,rL];unfold iv;simp[Int.natCast_pow]
    go_wp2;exact bodyPost_ret (v:=cP M) (by simp[results,Tryz.results209,go_sem,r0,r1]) rfl ⟨by rw[gD.out],cM⟩
  . obtain⟨x0,x1⟩:=Hx.out.c2;obtain⟨r0,aX,r1,aY⟩:=Hr.out.g2;obtain⟨n0,n1⟩:=Hn.out.c2;have jV:Hid (l.length<=68719476736):=by show _<=_;omega
    by_cases h0:nv l=0
    . have hb0:bF (nv l)=0:=by rw[h0];rfl
      have gD:Hid (iv true l/2^k=M):=by
       show _=_
       rw[<-HM.out,<-HZ.out,rL,h0];unfold iv;simp[h0]
      have iH:=aj hb0;clear hb0;go_wp2_with fail;refine(Uv l _ jV.out).mono ?_;rintro e w3 ⟨rfl,ak⟩;obtain⟨Hx,x0,x1⟩:=fJ Hx ak;obtain⟨Hr,r0,aX,r1,aY⟩:=dS Hr ak;obtain⟨Hn,n0,n1⟩:=fJ Hn ak;replace Hb:=bg Hb ak;rw[iH.out];go_wp2;exact bodyPost_ret (v:=cP M) (by simp[results,Tryz.results209,go_sem,r0,r1]) rfl ⟨by rw[gD.out],cM⟩
    . have hbp:0<bF (nv l):=FR zo;have EK:Hid (aB wc):=hT.below Hb.out;by_cases hz:tz (nv l)<k
      . have gD:Hid (iv true l/2^k=M-1):=by
         show _=_
         rw[<-HM.out,<-HZ.out,rL];have:=(agu (nv l) k zo).1 hz;unfold iv;simp only[if_true];exact atA _ _ this
        have HMl:Hid ((nt M.natAbs).length<=34359738368):=by show _<=_;rw[<-HM.out,uf,ji];exact hlen
        obtain⟨one,hone⟩:∃one:Int,1=one:=⟨_,rfl⟩;have Hol:Hid ((nt one.natAbs).length<=34359738368):=by show _<=_;rw[<-hone];exact Nat.le_trans (ky (k:=1) zd) zd
        have xC:=aj hone;clear hone;have PK:Hid (iv (au M) (nt M.natAbs)-iv (au one) (nt one.natAbs)=M-1):=by show _=_;rw[fu,fu,<-xC.out]
        go_wp2_with fail;refine(Uv l _ jV.out).mono ?_;rintro e w3 ⟨rfl,ak⟩;obtain⟨Hx,x0,x1⟩:=fJ Hx ak;obtain⟨Hr,r0,aX,r1,aY⟩:=dS Hr ak;obtain⟨Hn,n0,n1⟩:=fJ Hn ak;replace Hb:=bg Hb ak;replace EK:=aj (hT.below Hb.out);go_wp2_with fail;refine(Uw l _ jV.out EK.out).mono ?_;rintro e w4 ⟨rfl,ak⟩;obtain⟨Hx,x0,x1⟩:=fJ Hx ak;obtain⟨Hr,r0,aX,r1,aY⟩:=dS Hr ak;obtain⟨Hn,n0,n1⟩:=fJ Hn ak;replace Hb:=bg Hb ak;go_wp2_with fail;have nen:g≠w.heap.size+1:=by omega
        go_region_held3 (λw'=>w'.cell? ⟨g,0,none⟩=some (.bool (au M))/\w'.cell? ⟨g,1,none⟩=some (.string (bs (nt M.natAbs)))) (((try dsimp only);go_split_ands;(repeat' apply And.intro)<;>(first|exact True.intro|with_reducible assumption| ((with_reducible refine gG zg ?_);(repeat(with_reducible refine gG zg ?_));with_reducible assumption) |exact cell_later (by with_reducible assumption) (by with_reducible assumption) |exact aM (by with_reducible assumption) |go_keep))) (first| (go_at_call 125;(with_reducible refine(VL 1 one xC.out _ zo zo).mono ?_);rintro e w5 ⟨rfl,hq⟩;have dh:Bw w4 w5:=(by first|exact cS hq|exact hq|exact sP hq|exact sO hq|exact vT hq);clear hq;obtain⟨Yp,Cw⟩:=aI (Hx.out.below dh) (Hr.out.below dh);have avc:w5.cell? ⟨w.heap.size+1,0,none⟩=some (.bool false):=Cw.out.cell 0;have apa:w5.frozen? ⟨w.heap.size+1,0,none⟩=false:=Cw.out.free 0;have ave:w5.cell? ⟨w.heap.size+1,1,none⟩=some (.string (bs [])):=Cw.out.cell 1;have apc:w5.frozen? ⟨w.heap.size+1,1,none⟩=false:=Cw.out.free 1;have Kg:=aj (Hn.out.below dh);have ati:w5.cell? ⟨g,0,none⟩=some (.bool (au M)):=Kg.out.cell 0;have atl:w5.cell? ⟨g,1,none⟩=some (.string (bs (nt M.natAbs))):=Kg.out.cell 1) | (go_at_call 249;(with_reducible refine(VO (au M) (nt M.natAbs) (au one) (nt one.natAbs) _ HMl.out Hol.out).mono ?_);rintro e w6 ⟨rfl,hq⟩;have IA:Bw w5 w6:=(by first|exact cS hq|exact hq|exact sP hq|exact sO hq|exact vT hq);clear hq;obtain⟨akV,Fp⟩:=aI (Yp.out.below IA) (Cw.out.below IA);have avd:w6.cell? ⟨w.heap.size+1,0,none⟩=some (.bool false):=Fp.out.cell 0;have apb:w6.frozen? ⟨w.heap.size+1,0,none⟩=false:=Fp.out.free 0;have avf:w6.cell? ⟨w.heap.size+1,1,none⟩=some (.string (bs [])):=Fp.out.cell 1;have apd:w6.frozen? ⟨w.heap.size+1,1,none⟩=false:=Fp.out.free 1;have Pi:=aj (Kg.out.below IA);have atj:w6.cell? ⟨g,0,none⟩=some (.bool (au M)):=Pi.out.cell 0;have atm:w6.cell? ⟨g,1,none⟩=some (.string (bs (nt M.natAbs))):=Pi.out.cell 1))
        replace Hb:=aj (aC Hb.out dh);clear dh;replace Hb:=aj (aC Hb.out IA);clear IA x0 x1 r0 aX r1 aY n0 n1;replace Hx:=akV;clear Yp;replace Hr:=Fp;clear Cw avc apa ave apc avd apb avf apd;replace Hn:=Pi;clear Kg ati atl atj atm;obtain⟨x0,x1⟩:=Hx.out.c2;obtain⟨r0,aX,r1,aY⟩:=Hr.out.g2;obtain⟨n0,n1⟩:=Hn.out.c2;rw[PK.out];go_wp2;exact bodyPost_ret (v:=cP (M-1)) (by simp[results,Tryz.results209,go_sem,r0,r1]) rfl ⟨by rw[gD.out],cM⟩
      . have gD:Hid (iv true l/2^k=M):=by
         show _=_
         rw[<-HM.out,<-HZ.out,rL];have h2:nv l%2^k=0:=by
          rcases Nat.eq_zero_or_pos (nv l%2^k)with h|h
          . exact h
          . exact absurd ((agu (nv l) k zo).2 zo) hz
         unfold iv;simp only[if_true];exact atz _ _ h2
        go_wp2_with fail;refine(Uv l _ jV.out).mono ?_;rintro e w3 ⟨rfl,ak⟩;obtain⟨Hx,x0,x1⟩:=fJ Hx ak;obtain⟨Hr,r0,aX,r1,aY⟩:=dS Hr ak;obtain⟨Hn,n0,n1⟩:=fJ Hn ak;replace Hb:=bg Hb ak;replace EK:=aj (hT.below Hb.out);go_wp2_with fail;refine(Uw l _ jV.out EK.out).mono ?_;rintro e w4 ⟨rfl,ak⟩;obtain⟨Hx,x0,x1⟩:=fJ Hx ak;obtain⟨Hr,r0,aX,r1,aY⟩:=dS Hr ak;obtain⟨Hn,n0,n1⟩:=fJ Hn ak;replace Hb:=bg Hb ak;go_wp2;exact bodyPost_ret (v:=cP M) (by simp[results,Tryz.results209,go_sem,r0,r1]) rfl ⟨by rw[gD.out],cM⟩
end Go.Proofs.YtpfgffadgkkedaaGreatDoor
