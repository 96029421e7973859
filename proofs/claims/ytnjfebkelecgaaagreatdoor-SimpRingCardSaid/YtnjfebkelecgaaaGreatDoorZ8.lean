/- Package whole,on: Sub,Cmp,Mul,Shift. -/
import Derived.Test.YtnjfebkelecgaaaGreatDoorZ6
import Derived.Deep.DeepCutAuto
set_option linter.unusedVariables false
set_option linter.unusedSimpArgs false
set_option maxRecDepth 100000
set_option maxHeartbeats 16000000
namespace Go.Proofs.YtnjfebkelecgaaaGreatDoor
open Go.RowKit
attribute [local go_sem ↓] Go.wp_at_zero Go.wp_at_succ
theorem agx (s:Bool)(l:List UInt8)(t:Bool)(m:List UInt8)(b cap:Nat)(ty:TypeId)(w:World)(hl:l.length<=34359738368)(hm:m.length<=34359738368)
 (ha:aC w b ty [ar s,ai l,ar t,ai m]):
 Calls Tryz.prog 60 #[.slice (some ⟨b,0,none⟩) 2 cap] w λe w'=>e=.returned (dt (iv s l+iv t m))/\Bw w w':=by
 have:=awc [(s,l),(t,m)] (some ⟨b,0,none⟩) cap w (by simp[hl,hm]) zm (At.aBf ha);have e:mH [(s,l),(t,m)]=iv s l+iv t m:=by simp[mH]
 rw[e]at this;exact this
theorem Jb (s:Bool)(m:List UInt8)(B:Nat)(hm:m.length<=B):(nt (-(iv s m)).natAbs).length<=B:=by rw[Int.natAbs_neg,oX];exact jR (Nat.lt_of_lt_of_le (gz m) (Nat.pow_le_pow_right zd hm))
theorem Oi (s:Bool)(l:List UInt8)(N:Int)(hN: -(iv s l)=N)(w:World)(hl:l.length<=1099511627776):
 Calls Tryz.prog 114 #[.agg #[ar s,ai l]] w λe w'=>e=.returned (dt N)/\Bw w w':=by
 subst hN;exact agB s l w hl
theorem agF (s:Bool)(l:List UInt8)(t:Bool)(m:List UInt8)(w:World)(hl:l.length<=34359738368)(hm:m.length<=34359738368):
 Calls Tryz.prog 141 #[.agg #[.bool s,.string (bs l)],.agg #[.bool t,.string (bs m)]] w λe w'=>e=.returned (dt (iv s l-iv t m))/\Bw w w':=by
 have hm2:=Jb t m 34359738368 hm;have He:Hid (iv s l+iv (aI (-(iv t m))) (nt (-(iv t m)).natAbs)=iv s l-iv t m):=by show _=_;rw[fT];omega
 generalize hN: -(iv t m)=N at*;have HN:=aj hN;clear hN;go_enter Tryz.func141,Tryz.ntmps141;have Hb:Hid (Bw w w):=Below.refl _ _;go_wp2_with fail;obtain⟨R,hR⟩:∃R:World->Prop,(λW=>aC W (w.heap.size) 46 [.bool s,.string (bs l)]/\aC W (w.heap.size+1) 46 [.bool t,.string (bs m)]/\aC W (w.heap.size+1+1) 46 [.bool false,.string (bs [])]/\Bw w W)=R:=⟨_,rfl⟩;first|refine cj R ?hR ?_|refine cu R ?hR ?_
 case hR=>subst hR;exact⟨(((aC.newAt w _ _ (b:=w.heap.size) rfl).alloc _).alloc _),((aC.newAt (w.alloc _) _ _ (b:=w.heap.size+1) zm).alloc _),(aC.newAt ((w.alloc _).alloc _) _ _ (b:=w.heap.size+1+1) zm),((zl.alloc zj _).alloc zj _)⟩
 subst hR;rintro W ⟨qx,qy,qr,ag⟩;have Hx:=aj qx;clear qx;have Hy:=aj qy;clear qy;have Hr:=aj qr;clear qr;obtain⟨x0,x1⟩:=Hx.out.c2;obtain⟨y0,y1⟩:=Hy.out.c2;obtain⟨r0,au,r1,az⟩:=Hr.out.g2;replace Hb:=aF Hb ag;clear ag;have UN:w.heap.size≠w.heap.size+1+1:=by omega
 have ney:w.heap.size+1≠w.heap.size+1+1:=by omega
 go_region_held3 (λw'=>w'.cell? ⟨w.heap.size,0,none⟩=some (.bool s)/\w'.cell? ⟨w.heap.size,1,none⟩=some (.string (bs l))/\w'.cell? ⟨w.heap.size+1,0,none⟩=some (.bool t)/\w'.cell? ⟨w.heap.size+1,1,none⟩=some (.string (bs m))) (((try dsimp only);go_split_ands;(repeat' apply And.intro)<;>(first|exact True.intro|with_reducible assumption| ((with_reducible refine ie zg ?_);(repeat(with_reducible refine ie zg ?_));with_reducible assumption) |exact cell_later (by with_reducible assumption) (by with_reducible assumption) |exact aX (by with_reducible assumption) |go_keep))) (first| (go_at_call 114;(with_reducible refine(Oi t m N HN.out _ zo).mono ?_);rintro e w1 ⟨rfl,hq⟩;have hw1:Bw W w1:=(by first|exact bo hq|exact hq|exact yi hq|exact tK hq|exact wG hq);clear hq;have lW:=aj (Hx.out.below hw1);have BU:w1.cell? ⟨w.heap.size,0,none⟩=some (.bool s):=lW.out.cell 0;have BV:w1.cell? ⟨w.heap.size,1,none⟩=some (.string (bs l)):=lW.out.cell 1;have rV:=aj (Hy.out.below hw1);have JL:w1.cell? ⟨w.heap.size+1,0,none⟩=some (.bool t):=rV.out.cell 0;have JM:w1.cell? ⟨w.heap.size+1,1,none⟩=some (.string (bs m)):=rV.out.cell 1;have iR:=aj (Hr.out.below hw1);have BL:w1.cell? ⟨w.heap.size+1+1,0,none⟩=some (.bool false):=iR.out.cell 0;have AC:w1.frozen? ⟨w.heap.size+1+1,0,none⟩=false:=iR.out.free 0;have BM:w1.cell? ⟨w.heap.size+1+1,1,none⟩=some (.string (bs [])):=iR.out.cell 1;have AE:w1.frozen? ⟨w.heap.size+1+1,1,none⟩=false:=iR.out.free 1) | (go_at_call 60;(with_reducible refine(agx s l (aI N) (nt N.natAbs) w1.heap.size 2 46 _ hl hm2 (by first|exact aC.drew (aC.new _ _ _) |exact aC.new _ _ _)).mono ?_);rintro e w2 ⟨rfl,hq⟩;have hw2:Bw w1 w2:=(by first|exact bo hq|exact hq|exact yi hq|exact tK hq|exact wG hq);clear hq;have Ae:=aj (lW.out.below hw2);have Wu:w2.cell? ⟨w.heap.size,0,none⟩=some (.bool s):=Ae.out.cell 0;have Wv:w2.cell? ⟨w.heap.size,1,none⟩=some (.string (bs l)):=Ae.out.cell 1;have QB:=aj (rV.out.below hw2);have awy:w2.cell? ⟨w.heap.size+1,0,none⟩=some (.bool t):=QB.out.cell 0;have awz:w2.cell? ⟨w.heap.size+1,1,none⟩=some (.string (bs m)):=QB.out.cell 1;have tv:=aj (iR.out.below hw2);have Vp:w2.cell? ⟨w.heap.size+1+1,0,none⟩=some (.bool false):=tv.out.cell 0;have RD:w2.frozen? ⟨w.heap.size+1+1,0,none⟩=false:=tv.out.free 0;have Vq:w2.cell? ⟨w.heap.size+1+1,1,none⟩=some (.string (bs [])):=tv.out.cell 1;have RF:w2.frozen? ⟨w.heap.size+1+1,1,none⟩=false:=tv.out.free 1))
 replace Hb:=aj (aV Hb.out hw1);clear hw1;replace Hb:=aj (aV Hb.out hw2);clear hw2 x0 x1 y0 y1 r0 au r1 az;replace Hx:=Ae;clear lW BU BV Wu Wv;replace Hy:=QB;clear rV JL JM awy awz;replace Hr:=tv;clear iR BL AC BM AE Vp RD Vq RF;obtain⟨x0,x1⟩:=Hx.out.c2;obtain⟨y0,y1⟩:=Hy.out.c2;obtain⟨r0,au,r1,az⟩:=Hr.out.g2;rw[He.out];go_wp2;exact bodyPost_ret (v:=dt (iv s l-iv t m)) (by simp[results,Tryz.results141,go_sem,r0,r1]) rfl ⟨rfl,di⟩
theorem Wq (s:Bool)(l:List UInt8)(n:Nat)(w:World)(hl:l.length<=68719476736)(hn:n<=549755813888):
 Calls Tryz.prog 103 #[.agg #[.bool s,.string (bs l)],.int .i64 (n:Int)] w λe w'=>e=.returned (dt (iv s l*2^n))/\Bw w w':=by
 have hlen:(nt (nv l*2^n)).length<=1099511627776:=by
  have h1:nv l*2^n<2^(8*l.length+n):=by rw[Nat.pow_add,Nat.pow_mul];exact Nat.mul_lt_mul_of_pos_right (gz l) (Nat.pow_pos zd)
  have h2:=ib h1;rw[ast];omega
 have He:Hid (iv s (nt (nv l*2^n))=iv s l*2^n):=by
  show _=_
  rw[oY];unfold iv;cases s<;>simp[Int.natCast_mul,Int.natCast_pow,Int.neg_mul]
 go_enter Tryz.func103,Tryz.ntmps103;have Hb:Hid (Bw w w):=Below.refl _ _;go_wp2_with fail;obtain⟨R,hR⟩:∃R:World->Prop,(λW=>aC W (w.heap.size) 46 [.bool s,.string (bs l)]/\aC W (w.heap.size+1) 46 [.bool false,.string (bs [])]/\Bw w W)=R:=⟨_,rfl⟩;first|refine cj R ?hR ?_|refine cu R ?hR ?_
 case hR=>subst hR;exact⟨((aC.newAt w _ _ (b:=w.heap.size) rfl).alloc _),(aC.newAt (w.alloc _) _ _ (b:=w.heap.size+1) zm),(zl.alloc zj _)⟩
 subst hR;rintro W ⟨qx,qr,ag⟩;have Hx:=aj qx;clear qx;have Hr:=aj qr;clear qr;obtain⟨x0,x1⟩:=Hx.out.c2;obtain⟨r0,au,r1,az⟩:=Hr.out.g2;replace Hb:=aF Hb ag;clear ag;have UN:w.heap.size≠w.heap.size+1:=by omega
 go_region_held3 (λw'=>w'.cell? ⟨w.heap.size,0,none⟩=some (.bool s)/\w'.cell? ⟨w.heap.size,1,none⟩=some (.string (bs l))) (((try dsimp only);go_split_ands;(repeat' apply And.intro)<;>(first|exact True.intro|with_reducible assumption| ((with_reducible refine ie zg ?_);(repeat(with_reducible refine ie zg ?_));with_reducible assumption) |exact cell_later (by with_reducible assumption) (by with_reducible assumption) |exact aX (by with_reducible assumption) |go_keep))) (first| (go_at_call 138;(with_reducible refine(asi l n _ hl hn).mono ?_);rintro e w1 ⟨rfl,hq⟩;have hw1:Bw W w1:=(by first|exact bo hq|exact hq|exact yi hq|exact tK hq|exact wG hq);clear hq;have lW:=aj (Hx.out.below hw1);have BU:w1.cell? ⟨w.heap.size,0,none⟩=some (.bool s):=lW.out.cell 0;have BV:w1.cell? ⟨w.heap.size,1,none⟩=some (.string (bs l)):=lW.out.cell 1;have iR:=aj (Hr.out.below hw1);have BL:w1.cell? ⟨w.heap.size+1,0,none⟩=some (.bool false):=iR.out.cell 0;have AC:w1.frozen? ⟨w.heap.size+1,0,none⟩=false:=iR.out.free 0;have BM:w1.cell? ⟨w.heap.size+1,1,none⟩=some (.string (bs [])):=iR.out.cell 1;have AE:w1.frozen? ⟨w.heap.size+1,1,none⟩=false:=iR.out.free 1) | (go_at_call 106;(with_reducible refine(xt (nt (nv l*2^n)) s _ hlen).mono ?_);rintro e w2 ⟨rfl,hq⟩;have hw2:Bw w1 w2:=(by first|exact bo hq|exact hq|exact yi hq|exact tK hq|exact wG hq);clear hq;have Ae:=aj (lW.out.below hw2);have Wu:w2.cell? ⟨w.heap.size,0,none⟩=some (.bool s):=Ae.out.cell 0;have Wv:w2.cell? ⟨w.heap.size,1,none⟩=some (.string (bs l)):=Ae.out.cell 1;have tv:=aj (iR.out.below hw2);have Vp:w2.cell? ⟨w.heap.size+1,0,none⟩=some (.bool false):=tv.out.cell 0;have RD:w2.frozen? ⟨w.heap.size+1,0,none⟩=false:=tv.out.free 0;have Vq:w2.cell? ⟨w.heap.size+1,1,none⟩=some (.string (bs [])):=tv.out.cell 1;have RF:w2.frozen? ⟨w.heap.size+1,1,none⟩=false:=tv.out.free 1))
 replace Hb:=aj (aV Hb.out hw1);clear hw1;replace Hb:=aj (aV Hb.out hw2);clear hw2 x0 x1 r0 au r1 az;replace Hx:=Ae;clear lW BU BV Wu Wv;replace Hr:=tv;clear iR BL AC BM AE Vp RD Vq RF;obtain⟨x0,x1⟩:=Hx.out.c2;obtain⟨r0,au,r1,az⟩:=Hr.out.g2;rw[He.out];go_wp2;exact bodyPost_ret (v:=dt (iv s l*2^n)) (by simp[results,Tryz.results103,go_sem,r0,r1]) rfl ⟨rfl,di⟩
theorem Oj (n N:Int)(hN:n=N)(w:World)(h0: -9223372036854775808<=n)(h1:n<=9223372036854775807):
 Calls Tryz.prog 78 #[ah n] w λe w'=>e=.returned (dt N)/\Bw w w':=by
 subst hN;exact Wm n w h0 h1
def iK :List (Bool×List UInt8)->Int
 |[]=>1
 |x::xs=>iv x.1 x.2*iK xs
theorem aqn (xs ys:List (Bool×List UInt8)):iK (xs++ys)=iK xs*iK ys:=by
 induction xs with
 |nil=>simp[iK]
 |cons x xs ih=>simp[iK,ih,Int.mul_assoc]
theorem aqr (xs:List (Bool×List UInt8))(k:Nat)(hk:k<xs.length):iK (xs.take (k+1))=iK (xs.take k) *iv xs[k].1 xs[k].2:=by rw[List.take_succ_eq_append_getElem hk,aqn];simp[iK]
def rF (xs:List (Bool×List UInt8)):Nat:=(xs.map λx=>x.2.length).sum
theorem aqh (xs:List (Bool×List UInt8))(k:Nat):rF (xs.take k)<=rF xs:=by
 unfold rF;induction xs generalizing k with
 |nil=>simp
 | cons x xs ih=>cases k with
   |zero=>simp
   |succ k=>simp only[List.take_succ_cons,List.map_cons,List.sum_cons];have:=ih k;omega
theorem aqg (xs:List (Bool×List UInt8))(x)(h:x∈xs):x.2.length<=rF xs:=by
 unfold rF;induction xs with
 |nil=>simp at h
 | cons y xs ih=>
   simp at h⊢;rcases h with h|h
   . subst h;omega
   . have:=ih h;omega
theorem aqp (xs:List (Bool×List UInt8)):(iK xs).natAbs<=256^rF xs:=by
 induction xs with
 |nil=>simp[iK,rF]
 | cons x xs ih=>
   simp only[iK,Int.natAbs_mul,oX];have h1:=gz x.2;have:rF (x::xs)=x.2.length+rF xs:=by simp[rF]
   rw[this,Nat.pow_add];exact Nat.mul_le_mul (Nat.le_of_lt h1) ih
theorem aqo (xs:List (Bool×List UInt8))(N:Nat)(h:rF xs+1<=N):(nt (iK xs).natAbs).length<=N:=by refine jR (Nat.lt_of_le_of_lt (aqp xs) ?_);exact Nat.pow_lt_pow_right zd zo
theorem awh (xs:List (Bool×List UInt8))(a:Option Addr)(cap:Nat)(w:World)(hl:rF xs<=34359738368)(hx:xs.length<=1048576)
 (ha:At w a (xs.flatMap Ni)):
 Calls Tryz.prog 62 #[.slice a xs.length cap] w λe w'=>e=.returned (dt (iK xs))/\Bw w w':=by
 have Hl:=aj hl;clear hl;have Ha:=aj ha;clear ha;have xK:Hid (∀k,(nt (iK (xs.take k)).natAbs).length<=68719476736):=λk=>aqo _ _ (by have:=aqh xs k;have:=Hl.out;omega);obtain⟨one,hone⟩:∃one:Int,1=one:=⟨_,rfl⟩;have uI:=aj hone;clear hone;go_enter Tryz.func62,Tryz.ntmps62;have Hb:Hid (Bw w w):=Below.refl _ _;go_wp2_with fail;obtain⟨R,hR⟩:∃R:World->Prop,(λW=>aC W (w.heap.size) 46 [ar false,.string (bs [])]/\Bw w W)=R:=⟨_,rfl⟩;first|refine cj R ?hR ?_|refine cu R ?hR ?_
 case hR=>subst hR;exact⟨(aC.newAt w _ _ (b:=w.heap.size) rfl),zl⟩
 subst hR;rintro W ⟨qr,ag⟩;have Hr:=aj qr;clear qr;obtain⟨r0,au,r1,az⟩:=Hr.out.g2;replace Hb:=aF Hb ag;clear ag;go_wp2_with fail;refine(Oj 1 one uI.out _ zo zo).mono ?_;rintro e w1 ⟨rfl,ag⟩;clear r0 au r1 az;obtain⟨Hr,r0,au,r1,az⟩:=bE Hr ag;replace Hb:=aF Hb ag;clear ag;go_wp2_with fail;refine(Ev (nt one.natAbs) (aI one) _).mono ?_;rintro e w2 ⟨rfl,ag⟩;clear r0 au r1 az;obtain⟨Hr,r0,au,r1,az⟩:=bE Hr ag;replace Hb:=aF Hb ag;clear ag;have ap4:w.heap.size<w2.heap.size:=Hr.out.lt;have xq:=Hr.out.lt;go_wp2_with fail;obtain⟨R,hR⟩:∃R:World->Prop,(λW2=>aC W2 (w2.heap.size) 133 [ai (nt one.natAbs),ar (aI one)]/\Bw w2 W2)=R:=⟨_,rfl⟩;first|refine cj R ?hR ?_|refine cu R ?hR ?_
 case hR=>subst hR;exact⟨(aC.newAt w2 _ _ (b:=w2.heap.size) rfl),zl⟩
 subst hR;rintro W2 ⟨qs,ag⟩;have Hs:=aj qs;clear qs r0 au r1 az;obtain⟨Hr,r0,au,r1,az⟩:=bE Hr ag;obtain⟨s0,dV,s1,dW⟩:=Hs.out.g2;replace Hb:=aF Hb ag;clear ag
 go_loopw[5,10] (λ_ i wr=>∃(k:Nat) (t:Bool),k<=xs.length/\i=ah k/\iv t (nt (iK (xs.take k)).natAbs)=iK (xs.take k)/\aC wr w.heap.size 46 [ar false,.string (bs [])]/\
  aC wr w2.heap.size 133 [ai (nt (iK (xs.take k)).natAbs),ar t]/\Bw w wr) (λ_ i _=>xs.length-(intOf i).toNat)
 case atStart=>
  have e:iK (xs.take 0)=one:=by rw[<-uI.out];simp[iK]
  refine⟨0,aI one,Nat.zero_le _,rfl,?_,Hr.out,?_,Hb.out⟩
  . rw[e];exact fT one
  . rw[e];exact Hs.out
 case round=>
  obtain⟨k,t,hk,rfl,rB,qr,qs,hb⟩:=hrel;replace Hr:=aj qr;replace Hs:=aj qs;replace Hb:=aj hb;have ll:=aj rB;clear qr qs hb rB r0 r1 au az s0 s1 dV dW;by_cases hlt:k<xs.length
  . obtain⟨b,o,hab,hcs⟩:=(Ha.out.below Hb.out).elem (f:=Ni) (sz:=2) (λ_=>rfl) zd k hlt;have hc0:wr.cell? ⟨b,o+k*2,none⟩=some (ar xs[k].1):=hcs 0 zd;have hc1:wr.cell? ⟨b,o+k*2+1,none⟩=some (.string (bs xs[k].2)):=hcs 1 zd;have bK:=xm xs.length cap k (k:Int) hab hlt rfl;have cB:=aj (aqr xs k hlt);have lQ:Hid (xs[k].2.length<=34359738368):=by have:=aqg xs _ (List.getElem_mem hlt);have:=Hl.out;show _<=_;omega
    have gW:=aj (xK.out k);clear hcs hab;generalize xs[k]=x at*;obtain⟨t1,l1⟩:=x;generalize hS:iK (xs.take k)=S at*;have HS:=aj hS;clear hS;obtain⟨r0,au,r1,az⟩:=Hr.out.g2;obtain⟨s0,dV,s1,dW⟩:=Hs.out.g2;have IY:=Hr.out.lt;have UC:=Hs.out.lt;go_wp2_with fail;obtain⟨R,hR⟩:∃R:World->Prop,(λW1=>aC W1 (wr.heap.size) 46 [ar t1,ai l1]/\Bw wr W1)=R:=⟨_,rfl⟩;first|refine cj R ?hR ?_|refine cu R ?hR ?_
    case hR=>subst hR;exact⟨(aC.newAt wr _ _ (b:=wr.heap.size) rfl),zl⟩
    subst hR;rintro W1 ⟨qa,ag⟩;have Ha:=aj qa;clear qa r0 au r1 az;obtain⟨Hr,r0,au,r1,az⟩:=bE Hr ag;clear s0 dV s1 dW;obtain⟨Hs,s0,dV,s1,dW⟩:=bE Hs ag;obtain⟨a0,a1⟩:=Ha.out.c2;replace Hb:=aF Hb ag;clear ag;go_region_with (first| (go_at_call 105;refine(Ev l1 t1 _).mono ?_;rintro e w3 ⟨rfl,hq⟩;have hw3:Bw W1 w3:=bo hq;clear hq;have VA:=cell_later hw3 s0;have VD:=cell_later hw3 s1;have aoj:=(Hs.out.below hw3).free 0;have aol:=(Hs.out.below hw3).free 1) | (go_at_call 107;refine(af5 (nt S.natAbs) l1 t t1 _ gW.out (by have:=lQ.out;omega)).mono ?_;rintro e w4 ⟨rfl,hw4⟩;have auQ:=cell_later hw4 VA;have auS:=cell_later hw4 VD;have aok:=((Hs.out.below hw3).below hw4).free 0;have aom:=((Hs.out.below hw3).below hw4).free 1))
    all_goals
     go_wp2
     go_roundw
     case rel=>
      have hq:=ad4 t (nt S.natAbs) t1 l1;rw[ll.out,<-cB.out]at hq;have hq2:nv (nt S.natAbs) *nv l1=(iK (xs.take (k+1))).natAbs:=by rw[cB.out,Int.natAbs_mul,oX,jz]
      rw[hq2]at hq⊢;refine⟨k+1,_,by omega,by go_num,hq,((((Hr.out.below hw3).below hw4).aBg ⟨w2.heap.size,0,none⟩ zp _).aBg ⟨w2.heap.size,1,none⟩ zp _),((((Hs.out.below hw3).below hw4).set 0 _).set 1 _),?_⟩;exact((aV (aV Hb.out hw3) hw4).setCell zp _).setCell zp _
     case measure=>simp[intOf];omega
  . obtain rfl:k=xs.length:=by omega
    rw[List.take_length]at Hs ll;have gW:=xK.out xs.length;rw[List.take_length]at gW;obtain⟨r0,au,r1,az⟩:=Hr.out.g2;obtain⟨s0,dV,s1,dW⟩:=Hs.out.g2;go_wp2_with fail;refine(xt (nt (iK xs).natAbs) t _ zo).mono ?_;rintro e w3 ⟨rfl,ag⟩;clear r0 au r1 az s0 dV s1 dW;obtain⟨Hr,r0,au,r1,az⟩:=bE Hr ag;obtain⟨Hs,s0,dV,s1,dW⟩:=bE Hs ag;replace Hb:=aF Hb ag;clear ag;rw[ll.out];go_wp2;exact bodyPost_ret (v:=dt (iK xs)) (by simp[results,Tryz.results62,go_sem,r0,r1]) rfl ⟨rfl,di⟩
theorem aoi {w wx:World}{a:Addr}{v:Value}(hb:Bw w wx)(hc:w.cell? a=some v)(hf:w.frozen? a=false):wx.frozen? a=false:=
 (hb.frozen (World.block_lt_of_cell? w a hc)).trans hf
theorem age (v:Nat)(h:0<v):∃m,v=2^tz v* (2*m+1):=by
 induction v using Nat.strongRecOn with
 | _ v ih=>
   by_cases he:v%2=0
   . obtain⟨u,rfl⟩:∃u,v=2*u:=⟨v/2,by omega⟩;obtain⟨m,hm⟩:=ih u zo zo;refine⟨m,?_⟩;have e:tz (2*u)=tz u+1:=by unfold tz;rw[show((2*u:Nat):Int)=2* (u:Int)by omega];exact Int.trailingZeros_two_mul zo
     rw[e,Nat.pow_succ];conv=>lhs;rw[hm]
     rw[Nat.mul_comm (2^tz u) 2,Nat.mul_assoc]
   . refine⟨v/2,?_⟩;have e:tz v=0:=by unfold tz;exact Int.trailingZeros_eq_zero_of_mod_eq zo
     rw[e];omega
theorem agc (v k:Nat)(h:0<v):tz v<k↔v%2^k≠0:=by
 obtain⟨m,hm⟩:=age v h;generalize tz v=c at*;constructor
 . intro hc h0;have hd:2^k∣v:=Nat.dvd_of_mod_eq_zero h0;have hd2:2^(c+1)∣v:=Nat.dvd_trans (Nat.pow_dvd_pow 2 hc) hd;rw[hm,Nat.pow_succ]at hd2;have:=Nat.dvd_of_mul_dvd_mul_left (Nat.pow_pos zd) hd2;omega
 . intro hne;rcases Nat.lt_or_ge c k with h1|h1
   . exact h1
   . exfalso;apply hne
     rw[hm];exact Nat.mod_eq_zero_of_dvd (Nat.dvd_trans (Nat.pow_dvd_pow 2 h1) (Nat.dvd_mul_right _ _))
theorem asl (v k:Nat)(h:v%2^k=0): -(v:Int)/2^k= -((v/2^k:Nat):Int):=by
 obtain⟨q,rfl⟩:=Nat.dvd_of_mod_eq_zero h;have hp:=Nat.pow_pos (n:=k) (show 0<2 by decide);rw[Nat.mul_div_cancel_left _ hp];have e: -((2^k*q:Nat):Int)=2^k* (-(q:Int)):=by simp[Int.natCast_mul,Int.natCast_pow,Int.mul_neg]
 rw[e,Int.mul_ediv_cancel_left];have:((2^k:Nat):Int)≠0:=by omega
 simpa[Int.natCast_pow]using this
theorem asm (v k:Nat)(h:v%2^k≠0): -(v:Int)/2^k= -((v/2^k:Nat):Int)-1:=by
 have hp:=Nat.pow_pos (n:=k) (show 0<2 by decide);have e:=(Nat.mod_add_div v (2^k)).symm;have hr:=Nat.mod_lt v hp;rw[show((2:Int)^k)=((2^k:Nat):Int)by simp[Int.natCast_pow]];generalize v%2^k=r at*;generalize v/2^k=q at*;generalize 2^k=p at*;subst e;have e2: -((r+p*q:Nat):Int)=((p:Int)-r)+p* (-(q:Int)-1):=by rw[Int.natCast_add,Int.natCast_mul,Int.mul_sub,Int.mul_neg,Int.mul_one];omega
 rw[e2,Int.add_mul_ediv_left _ _ zo,Int.ediv_eq_zero_of_lt zo zo];omega
theorem ass (l:List UInt8)(k B:Nat)(hl:l.length<=B):(nt (nv l/2^k)).length<=B:=jR (Nat.lt_of_le_of_lt (Nat.div_le_self _ _) (Nat.lt_of_lt_of_le (gz l) (Nat.pow_le_pow_right zd hl)))
theorem agD (s:Bool)(l:List UInt8)(k:Nat)(w:World)(hl:l.length<=34359738368)(hk:0<k)(hk2:k<=1099511627776)(hT:aO w):
 Calls Tryz.prog 103 #[.agg #[.bool s,.string (bs l)],.int .i64 (-(k:Int))] w λe w'=>e=.returned (dt (iv s l/2^k))/\Bw w w':=by
 have hmax:max (-(k:Int)) (-1099511627776)= -(k:Int):=by omega
 have hlen:(nt (nv l/2^k)).length<=34359738368:=ass l k _ hl;obtain⟨Z,hZ⟩:=aK (nv l/2^k);have MW:∀W,Calls Tryz.prog 139 #[.string (bs l),.int .i64 (k:Int)] W λe w'=>e=.returned (.string (bs (nt Z)))/\Bw W w':=λW=>by rw[<-hZ];exact asj l k W zo hk2
 rw[hZ]at hlen;have HZ:=aj hZ;clear hZ;have ajS:=aj MW;clear MW;obtain⟨M,hM⟩:=aK (iv s (nt Z));have HM:=aj hM;clear hM;have acY:∀W,Calls Tryz.prog 106 #[.agg #[.string (bs (nt Z)),.bool s]] W λe w'=>e=.returned (dt M)/\Bw W w':=λW=>by have:=xt (nt Z) s W zo;rw[HM.out]at this;exact this
 have aiW:=aj acY;clear acY;go_enter Tryz.func103,Tryz.ntmps103;have Hb:Hid (Bw w w):=Below.refl _ _;go_upto_region 4 with fail
 go_wp2_with fail;obtain⟨R,hR⟩:∃R:World->Prop,(λW=>aC W (w.heap.size) 46 [.bool s,.string (bs l)]/\aC W (w.heap.size+1) 46 [.bool false,.string (bs [])]/\Bw w W)=R:=⟨_,rfl⟩;first|refine cj R ?hR ?_|refine cu R ?hR ?_
 case hR=>subst hR;exact⟨((aC.newAt w _ _ (b:=w.heap.size) rfl).alloc _),(aC.newAt (w.alloc _) _ _ (b:=w.heap.size+1) zm),(zl.alloc zj _)⟩
 subst hR;rintro W ⟨qx,qr,ag⟩;have Hx:=aj qx;clear qx;have Hr:=aj qr;clear qr;obtain⟨x0,x1⟩:=Hx.out.c2;obtain⟨r0,au,r1,az⟩:=Hr.out.g2;replace Hb:=aF Hb ag;clear ag;go_cut[5] (λs5 wx=>∃g:Nat,s5=.pointer (some ⟨g,0,none⟩)/\w.heap.size+1<g/\aC wx w.heap.size 46 [.bool s,.string (bs l)]/\aC wx (w.heap.size+1) 46 [.bool false,.string (bs [])]/\aC wx g 46 [.bool (aI M),.string (bs (nt M.natAbs))]/\Bw w wx);case first=>
  have hxW:w.heap.size<W.heap.size:=Hx.out.lt;have hrW:w.heap.size+1<W.heap.size:=Hr.out.lt;have hwk:IntKind.i64.wrap (k:Int)=(k:Int):=by rw[IntKind.wrap_i64];omega
  go_region_held3 (λw'=>w'.cell? ⟨w.heap.size,0,none⟩=some (.bool s)/\w'.cell? ⟨w.heap.size,1,none⟩=some (.string (bs l))) (((try dsimp only);go_split_ands;(repeat' apply And.intro)<;>(first|with_reducible assumption|exact aX (by with_reducible assumption) |exact QZ (by with_reducible assumption) |exact QZ (aX (by with_reducible assumption)) | ((with_reducible refine ie zf ?_);(repeat(with_reducible refine ie zf ?_));first|with_reducible assumption|exact aX (by with_reducible assumption) |exact QZ (by with_reducible assumption)) |go_keep))) (first| (go_at_call 139;(with_reducible refine(ajS.out _).mono ?_);rintro e w1 ⟨rfl,hq⟩;(first| (have hw1:Bw W w1:=bo hq) | (have hw1:Bw W w1:=wG hq;have EU:=aj (aC.below (aC.drew (aC.new W 46 [.bool false,.string (bs [])])) hq);have aAC:w1.cell? ⟨W.heap.size,0,none⟩=some (.bool false):=EU.out.cell 0;have aAD:w1.cell? ⟨W.heap.size,1,none⟩=some (.string (bs [])):=EU.out.cell 1;have axx:=EU.out.free 0;have axy:=EU.out.free 1));clear hq;have zs1:=hw1.size;obtain⟨Qx,ajL⟩:=aZ (Hx.out.below hw1) (Hr.out.below hw1);have aAY:w1.cell? ⟨w.heap.size,0,none⟩=some (.bool s):=Qx.out.cell 0;have aA0:w1.cell? ⟨w.heap.size,1,none⟩=some (.string (bs l)):=Qx.out.cell 1) | (go_at_call 106;(with_reducible refine(aiW.out _).mono ?_);rintro e w2 ⟨rfl,hq⟩;(first| (have hw2:Bw w1 w2:=hq;(try(have td:=aj (aC.below EU.out hq);have ar1:w2.cell? ⟨W.heap.size,0,none⟩=some (.bool false):=td.out.cell 0;have ar4:w2.cell? ⟨W.heap.size,1,none⟩=some (.string (bs [])):=td.out.cell 1;have an8:=td.out.free 0;have an9:=td.out.free 1))) | (have hw2:Bw w1 w2:=tK hq;have td:=aj (aC.below (aC.new w1 46 [.bool false,.string (bs [])]) hq);have ar1:w2.cell? ⟨w1.heap.size,0,none⟩=some (.bool false):=td.out.cell 0;have ar4:w2.cell? ⟨w1.heap.size,1,none⟩=some (.string (bs [])):=td.out.cell 1;have an8:=td.out.free 0;have an9:=td.out.free 1));clear hq;have zs2:=hw2.size;obtain⟨Fy,Qc⟩:=aZ (Qx.out.below hw2) (ajL.out.below hw2);have aAZ:w2.cell? ⟨w.heap.size,0,none⟩=some (.bool s):=Fy.out.cell 0;have aA1:w2.cell? ⟨w.heap.size,1,none⟩=some (.string (bs l)):=Fy.out.cell 1))
  all_goals(go_wp2_with fail;go_meet)
  . exact⟨w2.heap.size,rfl,by omega,Fy.out.alloc _,Qc.out.alloc _,aC.new _ _ _,(aV (aV Hb.out hw1) hw2).alloc zo _⟩
  . exact⟨w1.heap.size,rfl,by omega,((Fy.out.aBg ⟨w1.heap.size,0,none⟩ (by first| (dsimp only;omega) |omega| (simp<;>omega)) _).aBg ⟨w1.heap.size,1,none⟩ (by first| (dsimp only;omega) |omega| (simp<;>omega)) _),((Qc.out.aBg ⟨w1.heap.size,0,none⟩ (by first| (dsimp only;omega) |omega| (simp<;>omega)) _).aBg ⟨w1.heap.size,1,none⟩ (by first| (dsimp only;omega) |omega| (simp<;>omega)) _),((td.out.set 0 _).set 1 _),((aV (aV Hb.out hw1) hw2).setCell (by first| (dsimp only;omega) |omega| (simp<;>omega)) _).setCell (by first| (dsimp only;omega) |omega| (simp<;>omega)) _⟩
  . exact⟨W.heap.size,rfl,hrW,((Fy.out.aBg ⟨W.heap.size,0,none⟩ (by first| (dsimp only;omega) |omega| (simp<;>omega)) _).aBg ⟨W.heap.size,1,none⟩ (by first| (dsimp only;omega) |omega| (simp<;>omega)) _),((Qc.out.aBg ⟨W.heap.size,0,none⟩ (by first| (dsimp only;omega) |omega| (simp<;>omega)) _).aBg ⟨W.heap.size,1,none⟩ (by first| (dsimp only;omega) |omega| (simp<;>omega)) _),((td.out.set 0 _).set 1 _),((aV (aV Hb.out hw1) hw2).setCell (by first| (dsimp only;omega) |omega| (simp<;>omega)) _).setCell (by first| (dsimp only;omega) |omega| (simp<;>omega)) _⟩
 case rest=>
  obtain⟨g,rfl,hg,qx,qr,qn,qb⟩:=hcut;replace Hx:=aj qx;replace Hr:=aj qr;have Hn:=aj qn;replace Hb:=aj qb;clear qx qr qn qb x0 x1 r0 r1 au az;cases s
  . obtain ⟨x0,x1⟩:=Hx.out.c2;obtain⟨r0,au,r1,az⟩:=Hr.out.g2;obtain⟨n0,n1⟩:=Hn.out.c2;have ia:Hid (iv false l/2^k=M):=by
     show _=_
     rw[<-HM.out,<-HZ.out,oY];unfold iv;simp[Int.natCast_pow]
    go_wp2;exact bodyPost_ret (v:=dt M) (by simp[results,Tryz.results103,go_sem,r0,r1]) rfl ⟨by rw[ia.out],di⟩
  . obtain⟨x0,x1⟩:=Hx.out.c2;obtain⟨r0,au,r1,az⟩:=Hr.out.g2;obtain⟨n0,n1⟩:=Hn.out.c2;have rR:Hid (l.length<=68719476736):=by show _<=_;omega
    by_cases h0:nv l=0
    . have hb0:bV (nv l)=0:=by rw[h0];rfl
      have ia:Hid (iv true l/2^k=M):=by
       show _=_
       rw[<-HM.out,<-HZ.out,oY,h0];unfold iv;simp[h0]
      have vS:=aj hb0;clear hb0;go_wp2_with fail;refine(UL l _ rR.out).mono ?_;rintro e w3 ⟨rfl,ag⟩;clear x0 x1 r0 au r1 az n0 n1;obtain⟨Hx,x0,x1⟩:=bi Hx ag;obtain⟨Hr,r0,au,r1,az⟩:=bE Hr ag;obtain⟨Hn,n0,n1⟩:=bi Hn ag;replace Hb:=aF Hb ag;clear ag;rw[vS.out];go_wp2;exact bodyPost_ret (v:=dt M) (by simp[results,Tryz.results103,go_sem,r0,r1]) rfl ⟨by rw[ia.out],di⟩
    . have hbp:0<bV (nv l):=FV zo;have EG:Hid (aO wc):=hT.below Hb.out;by_cases hz:tz (nv l)<k
      . have ia:Hid (iv true l/2^k=M-1):=by
         show _=_
         rw[<-HM.out,<-HZ.out,oY];have:=(agc (nv l) k zo).1 hz;unfold iv;simp only[if_true];exact asm _ _ this
        have HMl:Hid ((nt M.natAbs).length<=34359738368):=by show _<=_;rw[<-HM.out,oX,jz];exact hlen
        obtain⟨one,hone⟩:∃one:Int,1=one:=⟨_,rfl⟩;have Hol:Hid ((nt one.natAbs).length<=34359738368):=by show _<=_;rw[<-hone];exact Nat.le_trans (jR (k:=1) zd) zd
        have uI:=aj hone;clear hone;have ajU:Hid (iv (aI M) (nt M.natAbs)-iv (aI one) (nt one.natAbs)=M-1):=by show _=_;rw[fT,fT,<-uI.out]
        go_wp2_with fail;refine(UL l _ rR.out).mono ?_;rintro e w3 ⟨rfl,ag⟩;clear x0 x1 r0 au r1 az n0 n1;obtain⟨Hx,x0,x1⟩:=bi Hx ag;obtain⟨Hr,r0,au,r1,az⟩:=bE Hr ag;obtain⟨Hn,n0,n1⟩:=bi Hn ag;replace Hb:=aF Hb ag;clear ag;replace EG:=aj (hT.below Hb.out);go_wp2_with fail;refine(UM l _ rR.out EG.out).mono ?_;rintro e w4 ⟨rfl,ag⟩;clear x0 x1 r0 au r1 az n0 n1;obtain⟨Hx,x0,x1⟩:=bi Hx ag;obtain⟨Hr,r0,au,r1,az⟩:=bE Hr ag;obtain⟨Hn,n0,n1⟩:=bi Hn ag;replace Hb:=aF Hb ag;clear ag;go_wp2_with fail;have nen:g≠w.heap.size+1:=by omega
        go_region_held3 (λw'=>w'.cell? ⟨g,0,none⟩=some (.bool (aI M))/\w'.cell? ⟨g,1,none⟩=some (.string (bs (nt M.natAbs)))) (((try dsimp only);go_split_ands;(repeat' apply And.intro)<;>(first|exact True.intro|with_reducible assumption| ((with_reducible refine ie zg ?_);(repeat(with_reducible refine ie zg ?_));with_reducible assumption) |exact cell_later (by with_reducible assumption) (by with_reducible assumption) |exact aX (by with_reducible assumption) |go_keep))) (first| (go_at_call 78;(with_reducible refine(Oj 1 one uI.out _ zo zo).mono ?_);rintro e w5 ⟨rfl,hq⟩;have xj:Bw w4 w5:=(by first|exact bo hq|exact hq|exact yi hq|exact tK hq|exact wG hq);clear hq;obtain⟨YS,Cy⟩:=aZ (Hx.out.below xj) (Hr.out.below xj);have atO:w5.cell? ⟨w.heap.size+1,0,none⟩=some (.bool false):=Cy.out.cell 0;have aoe:w5.frozen? ⟨w.heap.size+1,0,none⟩=false:=Cy.out.free 0;have atQ:w5.cell? ⟨w.heap.size+1,1,none⟩=some (.string (bs [])):=Cy.out.cell 1;have aog:w5.frozen? ⟨w.heap.size+1,1,none⟩=false:=Cy.out.free 1;have Kq:=aj (Hn.out.below xj);have ar2:w5.cell? ⟨g,0,none⟩=some (.bool (aI M)):=Kq.out.cell 0;have ar5:w5.cell? ⟨g,1,none⟩=some (.string (bs (nt M.natAbs))):=Kq.out.cell 1) | (go_at_call 141;(with_reducible refine(agF (aI M) (nt M.natAbs) (aI one) (nt one.natAbs) _ HMl.out Hol.out).mono ?_);rintro e w6 ⟨rfl,hq⟩;have ut:Bw w5 w6:=(by first|exact bo hq|exact hq|exact yi hq|exact tK hq|exact wG hq);clear hq;obtain⟨akh,Fj⟩:=aZ (YS.out.below ut) (Cy.out.below ut);have atP:w6.cell? ⟨w.heap.size+1,0,none⟩=some (.bool false):=Fj.out.cell 0;have aof:w6.frozen? ⟨w.heap.size+1,0,none⟩=false:=Fj.out.free 0;have atT:w6.cell? ⟨w.heap.size+1,1,none⟩=some (.string (bs [])):=Fj.out.cell 1;have aoh:w6.frozen? ⟨w.heap.size+1,1,none⟩=false:=Fj.out.free 1;have PH:=aj (Kq.out.below ut);have ar3:w6.cell? ⟨g,0,none⟩=some (.bool (aI M)):=PH.out.cell 0;have ar6:w6.cell? ⟨g,1,none⟩=some (.string (bs (nt M.natAbs))):=PH.out.cell 1))
        replace Hb:=aj (aV Hb.out xj);clear xj;replace Hb:=aj (aV Hb.out ut);clear ut x0 x1 r0 au r1 az n0 n1;replace Hx:=akh;clear YS;replace Hr:=Fj;clear Cy atO aoe atQ aog atP aof atT aoh;replace Hn:=PH;clear Kq ar2 ar5 ar3 ar6;obtain⟨x0,x1⟩:=Hx.out.c2;obtain⟨r0,au,r1,az⟩:=Hr.out.g2;obtain⟨n0,n1⟩:=Hn.out.c2;rw[ajU.out];go_wp2;exact bodyPost_ret (v:=dt (M-1)) (by simp[results,Tryz.results103,go_sem,r0,r1]) rfl ⟨by rw[ia.out],di⟩
      . have ia:Hid (iv true l/2^k=M):=by
         show _=_
         rw[<-HM.out,<-HZ.out,oY];have h2:nv l%2^k=0:=by
          rcases Nat.eq_zero_or_pos (nv l%2^k)with h|h
          . exact h
          . exact absurd ((agc (nv l) k zo).2 zo) hz
         unfold iv;simp only[if_true];exact asl _ _ h2
        go_wp2_with fail;refine(UL l _ rR.out).mono ?_;rintro e w3 ⟨rfl,ag⟩;clear x0 x1 r0 au r1 az n0 n1;obtain⟨Hx,x0,x1⟩:=bi Hx ag;obtain⟨Hr,r0,au,r1,az⟩:=bE Hr ag;obtain⟨Hn,n0,n1⟩:=bi Hn ag;replace Hb:=aF Hb ag;clear ag;replace EG:=aj (hT.below Hb.out);go_wp2_with fail;refine(UM l _ rR.out EG.out).mono ?_;rintro e w4 ⟨rfl,ag⟩;clear x0 x1 r0 au r1 az n0 n1;obtain⟨Hx,x0,x1⟩:=bi Hx ag;obtain⟨Hr,r0,au,r1,az⟩:=bE Hr ag;obtain⟨Hn,n0,n1⟩:=bi Hn ag;replace Hb:=aF Hb ag;clear ag;go_wp2;exact bodyPost_ret (v:=dt M) (by simp[results,Tryz.results103,go_sem,r0,r1]) rfl ⟨by rw[ia.out],di⟩
end Go.Proofs.YtnjfebkelecgaaaGreatDoor
