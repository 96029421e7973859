/- Package whole,on: Sub,Cmp,Mul,Shift. -/
import Derived.Test.YtnjfebkelecgaaaGreatDoorZ6
import Derived.Deep.DeepCutAuto
set_option linter.all false
set_option maxRecDepth 100000
set_option maxHeartbeats 16000000
namespace Go.Proofs.YtnjfebkelecgaaaGreatDoor
open Go.RowKit
attribute [local go_sem ↓] Go.wp_at_zero Go.wp_at_succ
def ah0 (s:Bool)(l:List UInt8)(t:Bool)(m:List UInt8)(b cap:Nat)(ty:TypeId)(w:World)(hl:l.length<=34359738368)(hm:m.length<=34359738368)
 (ha:aH w b ty [aj s,ai l,aj t,ai m]):
 Cv 60 #[.slice (some ⟨b,0,none⟩) 2 cap] w (dx (iv s l+iv t m)):=by
 have:=ax8 [(s,l),(t,m)] (some ⟨b,0,none⟩) cap w (by simp[hl,hm]) zm (At.aCi ha);have e:nE [(s,l),(t,m)]=iv s l+iv t m:=by simp[nE]
 rw[e]at this;exact this
def JQ (s:Bool)(m:List UInt8)(B:Nat)(hm:m.length<=B):(nt (-(iv s m)).natAbs).length<=B:=by rw[Int.natAbs_neg,oh];exact jo (Nat.lt_of_lt_of_le (gw m) (Nat.pow_le_pow_right zd hm))
def Pk (s:Bool)(l:List UInt8)(N:Int)(hN: -(iv s l)=N)(w:World)(hl:l.length<=1099511627776):
 Cv 114 #[.agg #[aj s,ai l]] w (dx N):=by
 subst hN;exact ah4 s l w hl
def ah7 (s:Bool)(l:List UInt8)(t:Bool)(m:List UInt8)(w:World)(hl:l.length<=34359738368)(hm:m.length<=34359738368):
 Cv 141 #[.agg #[.bool s,.string (bs l)],.agg #[.bool t,.string (bs m)]] w (dx (iv s l-iv t m)):=by
 have hm2:=JQ t m 34359738368 hm;have He:Hid (iv s l+iv (aK (-(iv t m))) (nt (-(iv t m)).natAbs)=iv s l-iv t m):=by show _=_;rw[gu];omega
 generalize hN: -(iv t m)=N at*;have HN:=az hN;clear hN;go_enter Tryz.func141,Tryz.ntmps141;have Hb:=hbz w;go_wp2_with fail;obtain⟨R,hR⟩:∃R:World->Prop,(λW=>aH W (w.heap.size) 46 [.bool s,.string (bs l)]/\aH W (w.heap.size+1) 46 [.bool t,.string (bs m)]/\aH W (w.heap.size+1+1) 46 [.bool false,.string (bs [])]/\Bw w W)=R:=⟨_,rfl⟩;first|refine eO R ?hR ?_|refine fB R ?hR ?_
 case hR=>subst hR;exact⟨(((aH.newAt w _ _ (b:=w.heap.size) rfl).alloc _).alloc _),((aH.newAt (w.alloc _) _ _ (b:=w.heap.size+1) zm).alloc _),(aH.newAt ((w.alloc _).alloc _) _ _ (b:=w.heap.size+1+1) zm),((zl.alloc zj _).alloc zj _)⟩
 subst hR;rintro W ⟨qx,qy,qr,au⟩;have Hx:=az qx;clear qx;have Hy:=az qy;clear qy;have Hr:=az qr;clear qr;obtain⟨x0,x1⟩:=Hx.out.c2;obtain⟨y0,y1⟩:=Hy.out.c2;obtain⟨r0,bo,r1,bz⟩:=Hr.out.g2;replace Hb:=bD Hb au;have VW:w.heap.size≠w.heap.size+1+1:=by omega
 have ney:w.heap.size+1≠w.heap.size+1+1:=by omega
 go_region_held3 (λw'=>w'.cell? ⟨w.heap.size,0,none⟩=some (.bool s)/\w'.cell? ⟨w.heap.size,1,none⟩=some (.string (bs l))/\w'.cell? ⟨w.heap.size+1,0,none⟩=some (.bool t)/\w'.cell? ⟨w.heap.size+1,1,none⟩=some (.string (bs m))) (((try dsimp only);go_split_ands;(repeat' apply And.intro)<;>(first|exact True.intro|with_reducible assumption| ((with_reducible refine gN zg ?_);(repeat(with_reducible refine gN zg ?_));with_reducible assumption) |exact cell_later (by with_reducible assumption) (by with_reducible assumption) |exact bg (by with_reducible assumption) |go_keep))) (first| (go_at_call 114;(with_reducible refine(Pk t m N HN.out _ zo).mono ?_);rintro e w1 ⟨rfl,hq⟩;have hw1:Bw W w1:=(by first|exact df hq|exact hq|exact yD hq|exact tN hq|exact wJ hq);clear hq;have mQ:=az (Hx.out.below hw1);have CE:w1.cell? ⟨w.heap.size,0,none⟩=some (.bool s):=mQ.out.cell 0;have CF:w1.cell? ⟨w.heap.size,1,none⟩=some (.string (bs l)):=mQ.out.cell 1;have rZ:=az (Hy.out.below hw1);have Ky:w1.cell? ⟨w.heap.size+1,0,none⟩=some (.bool t):=rZ.out.cell 0;have Kz:w1.cell? ⟨w.heap.size+1,1,none⟩=some (.string (bs m)):=rZ.out.cell 1;have iJ:=az (Hr.out.below hw1);have Cs:w1.cell? ⟨w.heap.size+1+1,0,none⟩=some (.bool false):=iJ.out.cell 0;have Bh:w1.frozen? ⟨w.heap.size+1+1,0,none⟩=false:=iJ.out.free 0;have Ct:w1.cell? ⟨w.heap.size+1+1,1,none⟩=some (.string (bs [])):=iJ.out.cell 1;have Bi:w1.frozen? ⟨w.heap.size+1+1,1,none⟩=false:=iJ.out.free 1) | (go_at_call 60;(with_reducible refine(ah0 s l (aK N) (nt N.natAbs) w1.heap.size 2 46 _ hl hm2 (by first|exact aH.drew (aH.new _ _ _) |exact aH.new _ _ _)).mono ?_);rintro e w2 ⟨rfl,hq⟩;have hw2:Bw w1 w2:=(by first|exact df hq|exact hq|exact yD hq|exact tN hq|exact wJ hq);clear hq;have AO:=az (mQ.out.below hw2);have XD:w2.cell? ⟨w.heap.size,0,none⟩=some (.bool s):=AO.out.cell 0;have XE:w2.cell? ⟨w.heap.size,1,none⟩=some (.string (bs l)):=AO.out.cell 1;have Rs:=az (rZ.out.below hw2);have ayv:w2.cell? ⟨w.heap.size+1,0,none⟩=some (.bool t):=Rs.out.cell 0;have ayw:w2.cell? ⟨w.heap.size+1,1,none⟩=some (.string (bs m)):=Rs.out.cell 1;have tF:=az (iJ.out.below hw2);have Ww:w2.cell? ⟨w.heap.size+1+1,0,none⟩=some (.bool false):=tF.out.cell 0;have SP:w2.frozen? ⟨w.heap.size+1+1,0,none⟩=false:=tF.out.free 0;have Wx:w2.cell? ⟨w.heap.size+1+1,1,none⟩=some (.string (bs [])):=tF.out.cell 1;have SQ:w2.frozen? ⟨w.heap.size+1+1,1,none⟩=false:=tF.out.free 1))
 replace Hb:=az (aO Hb.out hw1);clear hw1;replace Hb:=az (aO Hb.out hw2);clear hw2 x0 x1 y0 y1 r0 bo r1 bz;replace Hx:=AO;clear mQ CE CF XD XE;replace Hy:=Rs;clear rZ Ky Kz ayv ayw;replace Hr:=tF;clear iJ Cs Bh Ct Bi Ww SP Wx SQ;obtain⟨x0,x1⟩:=Hx.out.c2;obtain⟨y0,y1⟩:=Hy.out.c2;obtain⟨r0,bo,r1,bz⟩:=Hr.out.g2;rw[He.out];go_wp2;exact bodyPost_ret (v:=dx (iv s l-iv t m)) (by simp[results,Tryz.results141,go_sem,r0,r1]) rfl ⟨rfl,dt⟩
def XB (s:Bool)(l:List UInt8)(n:Nat)(w:World)(hl:l.length<=68719476736)(hn:n<=549755813888):
 Cv 103 #[.agg #[.bool s,.string (bs l)],.int .i64 (n:Int)] w (dx (iv s l*2^n)):=by
 have hlen:(nt (nv l*2^n)).length<=1099511627776:=by
  have h1:nv l*2^n<2^(8*l.length+n):=by rw[Nat.pow_add,Nat.pow_mul];exact Nat.mul_lt_mul_of_pos_right (gw l) (Nat.pow_pos zd)
  have h2:=gX h1;rw[atP];omega
 have He:Hid (iv s (nt (nv l*2^n))=iv s l*2^n):=by
  show _=_
  rw[pu];unfold iv;cases s<;>simp[Int.natCast_mul,Int.natCast_pow,Int.neg_mul]
 go_enter Tryz.func103,Tryz.ntmps103;have Hb:=hbz w;go_wp2_with fail;obtain⟨R,hR⟩:∃R:World->Prop,(λW=>aH W (w.heap.size) 46 [.bool s,.string (bs l)]/\aH W (w.heap.size+1) 46 [.bool false,.string (bs [])]/\Bw w W)=R:=⟨_,rfl⟩;first|refine eO R ?hR ?_|refine fB R ?hR ?_
 case hR=>subst hR;exact⟨((aH.newAt w _ _ (b:=w.heap.size) rfl).alloc _),(aH.newAt (w.alloc _) _ _ (b:=w.heap.size+1) zm),(zl.alloc zj _)⟩
 subst hR;rintro W ⟨qx,qr,au⟩;have Hx:=az qx;clear qx;have Hr:=az qr;clear qr;obtain⟨x0,x1⟩:=Hx.out.c2;obtain⟨r0,bo,r1,bz⟩:=Hr.out.g2;replace Hb:=bD Hb au;have VW:w.heap.size≠w.heap.size+1:=by omega
 go_region_held3 (λw'=>w'.cell? ⟨w.heap.size,0,none⟩=some (.bool s)/\w'.cell? ⟨w.heap.size,1,none⟩=some (.string (bs l))) (((try dsimp only);go_split_ands;(repeat' apply And.intro)<;>(first|exact True.intro|with_reducible assumption| ((with_reducible refine gN zg ?_);(repeat(with_reducible refine gN zg ?_));with_reducible assumption) |exact cell_later (by with_reducible assumption) (by with_reducible assumption) |exact bg (by with_reducible assumption) |go_keep))) (first| (go_at_call 138;(with_reducible refine(atF l n _ hl hn).mono ?_);rintro e w1 ⟨rfl,hq⟩;have hw1:Bw W w1:=(by first|exact df hq|exact hq|exact yD hq|exact tN hq|exact wJ hq);clear hq;have mQ:=az (Hx.out.below hw1);have CE:w1.cell? ⟨w.heap.size,0,none⟩=some (.bool s):=mQ.out.cell 0;have CF:w1.cell? ⟨w.heap.size,1,none⟩=some (.string (bs l)):=mQ.out.cell 1;have iJ:=az (Hr.out.below hw1);have Cs:w1.cell? ⟨w.heap.size+1,0,none⟩=some (.bool false):=iJ.out.cell 0;have Bh:w1.frozen? ⟨w.heap.size+1,0,none⟩=false:=iJ.out.free 0;have Ct:w1.cell? ⟨w.heap.size+1,1,none⟩=some (.string (bs [])):=iJ.out.cell 1;have Bi:w1.frozen? ⟨w.heap.size+1,1,none⟩=false:=iJ.out.free 1) | (go_at_call 106;(with_reducible refine(xD (nt (nv l*2^n)) s _ hlen).mono ?_);rintro e w2 ⟨rfl,hq⟩;have hw2:Bw w1 w2:=(by first|exact df hq|exact hq|exact yD hq|exact tN hq|exact wJ hq);clear hq;have AO:=az (mQ.out.below hw2);have XD:w2.cell? ⟨w.heap.size,0,none⟩=some (.bool s):=AO.out.cell 0;have XE:w2.cell? ⟨w.heap.size,1,none⟩=some (.string (bs l)):=AO.out.cell 1;have tF:=az (iJ.out.below hw2);have Ww:w2.cell? ⟨w.heap.size+1,0,none⟩=some (.bool false):=tF.out.cell 0;have SP:w2.frozen? ⟨w.heap.size+1,0,none⟩=false:=tF.out.free 0;have Wx:w2.cell? ⟨w.heap.size+1,1,none⟩=some (.string (bs [])):=tF.out.cell 1;have SQ:w2.frozen? ⟨w.heap.size+1,1,none⟩=false:=tF.out.free 1))
 replace Hb:=az (aO Hb.out hw1);clear hw1;replace Hb:=az (aO Hb.out hw2);clear hw2 x0 x1 r0 bo r1 bz;replace Hx:=AO;clear mQ CE CF XD XE;replace Hr:=tF;clear iJ Cs Bh Ct Bi Ww SP Wx SQ;obtain⟨x0,x1⟩:=Hx.out.c2;obtain⟨r0,bo,r1,bz⟩:=Hr.out.g2;rw[He.out];go_wp2;exact bodyPost_ret (v:=dx (iv s l*2^n)) (by simp[results,Tryz.results103,go_sem,r0,r1]) rfl ⟨rfl,dt⟩
def Pm (n N:Int)(hN:n=N)(w:World)(h0: -9223372036854775808<=n)(h1:n<=9223372036854775807):
 Cv 78 #[ah n] w (dx N):=by
 subst hN;exact Xz n w h0 h1
def iD :List (Bool×List UInt8)->Int
 |[]=>1
 |x::xs=>iv x.1 x.2*iD xs
def asb (xs ys:List (Bool×List UInt8)):iD (xs++ys)=iD xs*iD ys:=by
 induction xs with
 |nil=>simp[iD]
 |cons x xs ih=>simp[iD,ih,Int.mul_assoc]
def asf (xs:List (Bool×List UInt8))(k:Nat)(hk:k<xs.length):iD (xs.take (k+1))=iD (xs.take k) *iv xs[k].1 xs[k].2:=by rw[List.take_succ_eq_append_getElem hk,asb];simp[iD]
def rL (xs:List (Bool×List UInt8)):Nat:=(xs.map λx=>x.2.length).sum
def ar4 (xs:List (Bool×List UInt8))(k:Nat):rL (xs.take k)<=rL xs:=by
 unfold rL;induction xs generalizing k with
 |nil=>simp
 | cons x xs ih=>cases k with
   |zero=>simp
   |succ k=>simp only[List.take_succ_cons,List.map_cons,List.sum_cons];have:=ih k;omega
def ar3 (xs:List (Bool×List UInt8))(x)(h:x∈xs):x.2.length<=rL xs:=by
 unfold rL;induction xs with
 |nil=>simp at h
 | cons y xs ih=>
   simp at h⊢;rcases h with h|h
   . subst h;omega
   . have:=ih h;omega
def ase (xs:List (Bool×List UInt8)):(iD xs).natAbs<=256^rL xs:=by
 induction xs with
 |nil=>simp[iD,rL]
 | cons x xs ih=>
   simp only[iD,Int.natAbs_mul,oh];have h1:=gw x.2;have:rL (x::xs)=x.2.length+rL xs:=by simp[rL]
   rw[this,Nat.pow_add];exact Nat.mul_le_mul (Nat.le_of_lt h1) ih
def asc (xs:List (Bool×List UInt8))(N:Nat)(h:rL xs+1<=N):(nt (iD xs).natAbs).length<=N:=by refine jo (Nat.lt_of_le_of_lt (ase xs) ?_);exact Nat.pow_lt_pow_right zd zo
def ayd (xs:List (Bool×List UInt8))(a:Option Addr)(cap:Nat)(w:World)(hl:rL xs<=34359738368)(hx:xs.length<=1048576)
 (ha:At w a (xs.flatMap Og)):
 Cv 62 #[.slice a xs.length cap] w (dx (iD xs)):=by
 have Hl:=az hl;clear hl;have Ha:=az ha;clear ha;have ya:Hid (∀k,(nt (iD (xs.take k)).natAbs).length<=68719476736):=λk=>asc _ _ (by have:=ar4 xs k;have:=Hl.out;omega);obtain⟨one,hone⟩:∃one:Int,1=one:=⟨_,rfl⟩;have rV:=az hone;clear hone;go_enter Tryz.func62,Tryz.ntmps62;have Hb:=hbz w;go_wp2_with fail;obtain⟨R,hR⟩:∃R:World->Prop,(λW=>aH W (w.heap.size) 46 [aj false,.string (bs [])]/\Bw w W)=R:=⟨_,rfl⟩;first|refine eO R ?hR ?_|refine fB R ?hR ?_
 case hR=>subst hR;exact⟨(aH.newAt w _ _ (b:=w.heap.size) rfl),zl⟩
 subst hR;rintro W ⟨qr,au⟩;have Hr:=az qr;clear qr;obtain⟨r0,bo,r1,bz⟩:=Hr.out.g2;replace Hb:=bD Hb au;go_wp2_with fail;refine(Pm 1 one rV.out _ zo zo).mono ?_;rintro e w1 ⟨rfl,au⟩;obtain⟨Hr,r0,bo,r1,bz⟩:=dZ Hr au;replace Hb:=bD Hb au;go_wp2_with fail;refine(EN (nt one.natAbs) (aK one) _).mono ?_;rintro e w2 ⟨rfl,au⟩;obtain⟨Hr,r0,bo,r1,bz⟩:=dZ Hr au;replace Hb:=bD Hb au;have arP:w.heap.size<w2.heap.size:=Hr.out.lt;have aBs:=Hr.out.lt;go_wp2_with fail;obtain⟨R,hR⟩:∃R:World->Prop,(λW2=>aH W2 (w2.heap.size) 133 [ai (nt one.natAbs),aj (aK one)]/\Bw w2 W2)=R:=⟨_,rfl⟩;first|refine eO R ?hR ?_|refine fB R ?hR ?_
 case hR=>subst hR;exact⟨(aH.newAt w2 _ _ (b:=w2.heap.size) rfl),zl⟩
 subst hR;rintro W2 ⟨qs,au⟩;have Hs:=az qs;clear qs r0 bo r1 bz;obtain⟨Hr,r0,bo,r1,bz⟩:=dZ Hr au;obtain⟨s0,vh,s1,vk⟩:=Hs.out.g2;replace Hb:=bD Hb au
 go_loopw[5,10] (λ_ i wr=>∃(k:Nat) (t:Bool),k<=xs.length/\i=ah k/\iv t (nt (iD (xs.take k)).natAbs)=iD (xs.take k)/\aH wr w.heap.size 46 [aj false,.string (bs [])]/\
  aH wr w2.heap.size 133 [ai (nt (iD (xs.take k)).natAbs),aj t]/\Bw w wr) (λ_ i _=>xs.length-(intOf i).toNat)
 case atStart=>
  have e:iD (xs.take 0)=one:=by rw[<-rV.out];simp[iD]
  refine⟨0,aK one,Nat.zero_le _,rfl,?_,Hr.out,?_,Hb.out⟩
  . rw[e];exact gu one
  . rw[e];exact Hs.out
 case round=>
  obtain⟨k,t,hk,rfl,rF,qr,qs,hb⟩:=hrel;replace Hr:=az qr;replace Hs:=az qs;replace Hb:=az hb;have lI:=az rF;clear qr qs hb rF r0 r1 bo bz s0 s1 vh vk;by_cases hlt:k<xs.length
  . obtain⟨b,o,hab,hcs⟩:=(Ha.out.below Hb.out).elem (f:=Og) (sz:=2) (λ_=>rfl) zd k hlt;have hc0:wr.cell? ⟨b,o+k*2,none⟩=some (aj xs[k].1):=hcs 0 zd;have hc1:wr.cell? ⟨b,o+k*2+1,none⟩=some (.string (bs xs[k].2)):=hcs 1 zd;have bC:=xw xs.length cap k (k:Int) hab hlt rfl;have cu:=az (asf xs k hlt);have mI:Hid (xs[k].2.length<=34359738368):=by have:=ar3 xs _ (List.getElem_mem hlt);have:=Hl.out;show _<=_;omega
    have gU:=az (ya.out k);clear hcs hab;generalize xs[k]=x at*;obtain⟨t1,l1⟩:=x;generalize hS:iD (xs.take k)=S at*;have HS:=az hS;clear hS;obtain⟨r0,bo,r1,bz⟩:=Hr.out.g2;obtain⟨s0,vh,s1,vk⟩:=Hs.out.g2;have as4:=Hr.out.lt;have as8:=Hs.out.lt;go_wp2_with fail;obtain⟨R,hR⟩:∃R:World->Prop,(λW1=>aH W1 (wr.heap.size) 46 [aj t1,ai l1]/\Bw wr W1)=R:=⟨_,rfl⟩;first|refine eO R ?hR ?_|refine fB R ?hR ?_
    case hR=>subst hR;exact⟨(aH.newAt wr _ _ (b:=wr.heap.size) rfl),zl⟩
    subst hR;rintro W1 ⟨qa,au⟩;have Ha:=az qa;clear qa r0 bo r1 bz;obtain⟨Hr,r0,bo,r1,bz⟩:=dZ Hr au;obtain⟨Hs,s0,vh,s1,vk⟩:=dZ Hs au;obtain⟨a0,a1⟩:=Ha.out.c2;replace Hb:=bD Hb au;go_region_with (first| (go_at_call 105;refine(EN l1 t1 _).mono ?_;rintro e w3 ⟨rfl,hq⟩;have hw3:Bw W1 w3:=df hq;clear hq;have WM:=cell_later hw3 s0;have WP:=cell_later hw3 s1;have apX:=(Hs.out.below hw3).free 0;have apZ:=(Hs.out.below hw3).free 1) | (go_at_call 107;refine(ahA (nt S.natAbs) l1 t t1 _ gU.out (by have:=mI.out;omega)).mono ?_;rintro e w4 ⟨rfl,hw4⟩;have awz:=cell_later hw4 WM;have awB:=cell_later hw4 WP;have apY:=((Hs.out.below hw3).below hw4).free 0;have ap0:=((Hs.out.below hw3).below hw4).free 1))
    all_goals
     go_wp2
     go_roundw
     case rel=>
      have hq:=afm t (nt S.natAbs) t1 l1;rw[lI.out,<-cu.out]at hq;have hq2:nv (nt S.natAbs) *nv l1=(iD (xs.take (k+1))).natAbs:=by rw[cu.out,Int.natAbs_mul,oh,jp]
      rw[hq2]at hq⊢;refine⟨k+1,_,by omega,by go_num,hq,((((Hr.out.below hw3).below hw4).aCj ⟨w2.heap.size,0,none⟩ zp _).aCj ⟨w2.heap.size,1,none⟩ zp _),((((Hs.out.below hw3).below hw4).set 0 _).set 1 _),?_⟩;exact((aO (aO Hb.out hw3) hw4).setCell zp _).setCell zp _
     case measure=>exact bH
  . obtain rfl:k=xs.length:=by omega
    rw[List.take_length]at Hs lI;have gU:=ya.out xs.length;rw[List.take_length]at gU;obtain⟨r0,bo,r1,bz⟩:=Hr.out.g2;obtain⟨s0,vh,s1,vk⟩:=Hs.out.g2;go_wp2_with fail;refine(xD (nt (iD xs).natAbs) t _ zo).mono ?_;rintro e w3 ⟨rfl,au⟩;obtain⟨Hr,r0,bo,r1,bz⟩:=dZ Hr au;obtain⟨Hs,s0,vh,s1,vk⟩:=dZ Hs au;replace Hb:=bD Hb au;rw[lI.out];go_wp2;exact bodyPost_ret (v:=dx (iD xs)) (by simp[results,Tryz.results62,go_sem,r0,r1]) rfl ⟨rfl,dt⟩
def apW {w wx:World}{a:Addr}{v:Value}(hb:Bw w wx)(hc:w.cell? a=some v)(hf:w.frozen? a=false):wx.frozen? a=false:=
 (hb.frozen (World.block_lt_of_cell? w a hc)).trans hf
def ahK (v:Nat)(h:0<v):∃m,v=2^tz v* (2*m+1):=by
 induction v using Nat.strongRecOn with
 | _ v ih=>
   by_cases he:v%2=0
   . obtain⟨u,rfl⟩:∃u,v=2*u:=⟨v/2,by omega⟩;obtain⟨m,hm⟩:=ih u zo zo;refine⟨m,?_⟩;have e:tz (2*u)=tz u+1:=by unfold tz;rw[show((2*u:Nat):Int)=2* (u:Int)by omega];exact Int.trailingZeros_two_mul zo
     rw[e,Nat.pow_succ];conv=>lhs;rw[hm]
     rw[Nat.mul_comm (2^tz u) 2,Nat.mul_assoc]
   . refine⟨v/2,?_⟩;have e:tz v=0:=by unfold tz;exact Int.trailingZeros_eq_zero_of_mod_eq zo
     rw[e];omega
def ahI (v k:Nat)(h:0<v):tz v<k↔v%2^k≠0:=by
 obtain⟨m,hm⟩:=ahK v h;generalize tz v=c at*;constructor
 . intro hc h0;have hd:2^k∣v:=Nat.dvd_of_mod_eq_zero h0;have hd2:2^(c+1)∣v:=Nat.dvd_trans (Nat.pow_dvd_pow 2 hc) hd;rw[hm,Nat.pow_succ]at hd2;have:=Nat.dvd_of_mul_dvd_mul_left (Nat.pow_pos zd) hd2;omega
 . intro hne;rcases Nat.lt_or_ge c k with h1|h1
   . exact h1
   . exfalso;apply hne
     rw[hm];exact Nat.mod_eq_zero_of_dvd (Nat.dvd_trans (Nat.pow_dvd_pow 2 h1) (Nat.dvd_mul_right _ _))
def atH (v k:Nat)(h:v%2^k=0): -(v:Int)/2^k= -((v/2^k:Nat):Int):=by
 obtain⟨q,rfl⟩:=Nat.dvd_of_mod_eq_zero h;have hp:=Nat.pow_pos (n:=k) (show 0<2 by decide);rw[Nat.mul_div_cancel_left _ hp];have e: -((2^k*q:Nat):Int)=2^k* (-(q:Int)):=by simp[Int.natCast_mul,Int.natCast_pow,Int.mul_neg]
 rw[e,Int.mul_ediv_cancel_left];have:((2^k:Nat):Int)≠0:=by omega
 simpa[Int.natCast_pow]using this
def atI (v k:Nat)(h:v%2^k≠0): -(v:Int)/2^k= -((v/2^k:Nat):Int)-1:=by
 have hp:=Nat.pow_pos (n:=k) (show 0<2 by decide);have e:=(Nat.mod_add_div v (2^k)).symm;have hr:=Nat.mod_lt v hp;rw[show((2:Int)^k)=((2^k:Nat):Int)by simp[Int.natCast_pow]];generalize v%2^k=r at*;generalize v/2^k=q at*;generalize 2^k=p at*;subst e;have e2: -((r+p*q:Nat):Int)=((p:Int)-r)+p* (-(q:Int)-1):=by rw[Int.natCast_add,Int.natCast_mul,Int.mul_sub,Int.mul_neg,Int.mul_one];omega
 rw[e2,Int.add_mul_ediv_left _ _ zo,Int.ediv_eq_zero_of_lt zo zo];omega
def atO (l:List UInt8)(k B:Nat)(hl:l.length<=B):(nt (nv l/2^k)).length<=B:=jo (Nat.lt_of_le_of_lt (Nat.div_le_self _ _) (Nat.lt_of_lt_of_le (gw l) (Nat.pow_le_pow_right zd hl)))
def ah6 (s:Bool)(l:List UInt8)(k:Nat)(w:World)(hl:l.length<=34359738368)(hk:0<k)(hk2:k<=1099511627776)(hT:aR w):
 Cv 103 #[.agg #[.bool s,.string (bs l)],.int .i64 (-(k:Int))] w (dx (iv s l/2^k)):=by
 have hmax:max (-(k:Int)) (-1099511627776)= -(k:Int):=by omega
 have hlen:(nt (nv l/2^k)).length<=34359738368:=atO l k _ hl;obtain⟨Z,hZ⟩:=aI (nv l/2^k);have NV:∀W,Cv 139 #[.string (bs l),.int .i64 (k:Int)] W (.string (bs (nt Z))):=λW=>by rw[<-hZ];exact atG l k W zo hk2
 rw[hZ]at hlen;have HZ:=az hZ;clear hZ;have alH:=az NV;clear NV;obtain⟨M,hM⟩:=aI (iv s (nt Z));have HM:=az hM;clear hM;have ad9:∀W,Cv 106 #[.agg #[.string (bs (nt Z)),.bool s]] W (dx M):=λW=>by have:=xD (nt Z) s W zo;rw[HM.out]at this;exact this
 have akB:=az ad9;clear ad9;go_enter Tryz.func103,Tryz.ntmps103;have Hb:=hbz w;go_upto_region 4 with fail
 go_wp2_with fail;obtain⟨R,hR⟩:∃R:World->Prop,(λW=>aH W (w.heap.size) 46 [.bool s,.string (bs l)]/\aH W (w.heap.size+1) 46 [.bool false,.string (bs [])]/\Bw w W)=R:=⟨_,rfl⟩;first|refine eO R ?hR ?_|refine fB R ?hR ?_
 case hR=>subst hR;exact⟨((aH.newAt w _ _ (b:=w.heap.size) rfl).alloc _),(aH.newAt (w.alloc _) _ _ (b:=w.heap.size+1) zm),(zl.alloc zj _)⟩
 subst hR;rintro W ⟨qx,qr,au⟩;have Hx:=az qx;clear qx;have Hr:=az qr;clear qr;obtain⟨x0,x1⟩:=Hx.out.c2;obtain⟨r0,bo,r1,bz⟩:=Hr.out.g2;replace Hb:=bD Hb au;go_cut[5] (λs5 wx=>∃g:Nat,s5=.pointer (some ⟨g,0,none⟩)/\w.heap.size+1<g/\aH wx w.heap.size 46 [.bool s,.string (bs l)]/\aH wx (w.heap.size+1) 46 [.bool false,.string (bs [])]/\aH wx g 46 [.bool (aK M),.string (bs (nt M.natAbs))]/\Bw w wx);case first=>
  have hxW:w.heap.size<W.heap.size:=Hx.out.lt;have hrW:w.heap.size+1<W.heap.size:=Hr.out.lt;have hwk:IntKind.i64.wrap (k:Int)=(k:Int):=by rw[IntKind.wrap_i64];omega
  go_region_held3 (λw'=>w'.cell? ⟨w.heap.size,0,none⟩=some (.bool s)/\w'.cell? ⟨w.heap.size,1,none⟩=some (.string (bs l))) (((try dsimp only);go_split_ands;(repeat' apply And.intro)<;>(first|with_reducible assumption|exact bg (by with_reducible assumption) |exact Sa (by with_reducible assumption) |exact Sa (bg (by with_reducible assumption)) | ((with_reducible refine gN zf ?_);(repeat(with_reducible refine gN zf ?_));first|with_reducible assumption|exact bg (by with_reducible assumption) |exact Sa (by with_reducible assumption)) |go_keep))) (first| (go_at_call 139;(with_reducible refine(alH.out _).mono ?_);rintro e w1 ⟨rfl,hq⟩;(first| (have hw1:Bw W w1:=df hq) | (have hw1:Bw W w1:=wJ hq;have FL:=az (aH.below (aH.drew (aH.new W 46 [.bool false,.string (bs [])])) hq);have aBx:w1.cell? ⟨W.heap.size,0,none⟩=some (.bool false):=FL.out.cell 0;have aBy:w1.cell? ⟨W.heap.size,1,none⟩=some (.string (bs [])):=FL.out.cell 1;have azr:=FL.out.free 0;have azs:=FL.out.free 1));clear hq;have zs1:=hw1.size;obtain⟨Ro,aly⟩:=aU (Hx.out.below hw1) (Hr.out.below hw1);have aB3:w1.cell? ⟨w.heap.size,0,none⟩=some (.bool s):=Ro.out.cell 0;have aB5:w1.cell? ⟨w.heap.size,1,none⟩=some (.string (bs l)):=Ro.out.cell 1) | (go_at_call 106;(with_reducible refine(akB.out _).mono ?_);rintro e w2 ⟨rfl,hq⟩;(first| (have hw2:Bw w1 w2:=hq;(try(have tC:=az (aH.below FL.out hq);have atr:w2.cell? ⟨W.heap.size,0,none⟩=some (.bool false):=tC.out.cell 0;have atv:w2.cell? ⟨W.heap.size,1,none⟩=some (.string (bs [])):=tC.out.cell 1;have apL:=tC.out.free 0;have apM:=tC.out.free 1))) | (have hw2:Bw w1 w2:=tN hq;have tC:=az (aH.below (aH.new w1 46 [.bool false,.string (bs [])]) hq);have atr:w2.cell? ⟨w1.heap.size,0,none⟩=some (.bool false):=tC.out.cell 0;have atv:w2.cell? ⟨w1.heap.size,1,none⟩=some (.string (bs [])):=tC.out.cell 1;have apL:=tC.out.free 0;have apM:=tC.out.free 1));clear hq;have zs2:=hw2.size;obtain⟨Gg,QU⟩:=aU (Ro.out.below hw2) (aly.out.below hw2);have aB4:w2.cell? ⟨w.heap.size,0,none⟩=some (.bool s):=Gg.out.cell 0;have aB6:w2.cell? ⟨w.heap.size,1,none⟩=some (.string (bs l)):=Gg.out.cell 1))
  all_goals(go_wp2_with fail;go_meet)
  . exact⟨w2.heap.size,rfl,by omega,Gg.out.alloc _,QU.out.alloc _,aH.new _ _ _,(aO (aO Hb.out hw1) hw2).alloc zo _⟩
  . exact⟨w1.heap.size,rfl,by omega,((Gg.out.aCj ⟨w1.heap.size,0,none⟩ (by first| (dsimp only;omega) |omega| (simp<;>omega)) _).aCj ⟨w1.heap.size,1,none⟩ (by first| (dsimp only;omega) |omega| (simp<;>omega)) _),((QU.out.aCj ⟨w1.heap.size,0,none⟩ (by first| (dsimp only;omega) |omega| (simp<;>omega)) _).aCj ⟨w1.heap.size,1,none⟩ (by first| (dsimp only;omega) |omega| (simp<;>omega)) _),((tC.out.set 0 _).set 1 _),((aO (aO Hb.out hw1) hw2).setCell (by first| (dsimp only;omega) |omega| (simp<;>omega)) _).setCell (by first| (dsimp only;omega) |omega| (simp<;>omega)) _⟩
  . exact⟨W.heap.size,rfl,hrW,((Gg.out.aCj ⟨W.heap.size,0,none⟩ (by first| (dsimp only;omega) |omega| (simp<;>omega)) _).aCj ⟨W.heap.size,1,none⟩ (by first| (dsimp only;omega) |omega| (simp<;>omega)) _),((QU.out.aCj ⟨W.heap.size,0,none⟩ (by first| (dsimp only;omega) |omega| (simp<;>omega)) _).aCj ⟨W.heap.size,1,none⟩ (by first| (dsimp only;omega) |omega| (simp<;>omega)) _),((tC.out.set 0 _).set 1 _),((aO (aO Hb.out hw1) hw2).setCell (by first| (dsimp only;omega) |omega| (simp<;>omega)) _).setCell (by first| (dsimp only;omega) |omega| (simp<;>omega)) _⟩
 case rest=>
  obtain⟨g,rfl,hg,qx,qr,qn,qb⟩:=hcut;replace Hx:=az qx;replace Hr:=az qr;have Hn:=az qn;replace Hb:=az qb;clear qx qr qn qb x0 x1 r0 r1 bo bz;cases s
  . obtain ⟨x0,x1⟩:=Hx.out.c2;obtain⟨r0,bo,r1,bz⟩:=Hr.out.g2;obtain⟨n0,n1⟩:=Hn.out.c2;have gW:Hid (iv false l/2^k=M):=by
     show _=_
     rw[<-HM.out,<-HZ.out,pu];unfold iv;simp[Int.natCast_pow]
    go_wp2;exact bodyPost_ret (v:=dx M) (by simp[results,Tryz.results103,go_sem,r0,r1]) rfl ⟨by rw[gW.out],dt⟩
  . obtain⟨x0,x1⟩:=Hx.out.c2;obtain⟨r0,bo,r1,bz⟩:=Hr.out.g2;obtain⟨n0,n1⟩:=Hn.out.c2;have rU:Hid (l.length<=68719476736):=by show _<=_;omega
    by_cases h0:nv l=0
    . have hb0:bT (nv l)=0:=by rw[h0];rfl
      have gW:Hid (iv true l/2^k=M):=by
       show _=_
       rw[<-HM.out,<-HZ.out,pu,h0];unfold iv;simp[h0]
      have pM:=az hb0;clear hb0;go_wp2_with fail;refine(VU l _ rU.out).mono ?_;rintro e w3 ⟨rfl,au⟩;obtain⟨Hx,x0,x1⟩:=fP Hx au;obtain⟨Hr,r0,bo,r1,bz⟩:=dZ Hr au;obtain⟨Hn,n0,n1⟩:=fP Hn au;replace Hb:=bD Hb au;rw[pM.out];go_wp2;exact bodyPost_ret (v:=dx M) (by simp[results,Tryz.results103,go_sem,r0,r1]) rfl ⟨by rw[gW.out],dt⟩
    . have hbp:0<bT (nv l):=Gw zo;have EZ:Hid (aR wc):=hT.below Hb.out;by_cases hz:tz (nv l)<k
      . have gW:Hid (iv true l/2^k=M-1):=by
         show _=_
         rw[<-HM.out,<-HZ.out,pu];have:=(ahI (nv l) k zo).1 hz;unfold iv;simp only[if_true];exact atI _ _ this
        have HMl:Hid ((nt M.natAbs).length<=34359738368):=by show _<=_;rw[<-HM.out,oh,jp];exact hlen
        obtain⟨one,hone⟩:∃one:Int,1=one:=⟨_,rfl⟩;have Hol:Hid ((nt one.natAbs).length<=34359738368):=by show _<=_;rw[<-hone];exact Nat.le_trans (jo (k:=1) zd) zd
        have rV:=az hone;clear hone;have alJ:Hid (iv (aK M) (nt M.natAbs)-iv (aK one) (nt one.natAbs)=M-1):=by show _=_;rw[gu,gu,<-rV.out]
        go_wp2_with fail;refine(VU l _ rU.out).mono ?_;rintro e w3 ⟨rfl,au⟩;obtain⟨Hx,x0,x1⟩:=fP Hx au;obtain⟨Hr,r0,bo,r1,bz⟩:=dZ Hr au;obtain⟨Hn,n0,n1⟩:=fP Hn au;replace Hb:=bD Hb au;replace EZ:=az (hT.below Hb.out);go_wp2_with fail;refine(VV l _ rU.out EZ.out).mono ?_;rintro e w4 ⟨rfl,au⟩;obtain⟨Hx,x0,x1⟩:=fP Hx au;obtain⟨Hr,r0,bo,r1,bz⟩:=dZ Hr au;obtain⟨Hn,n0,n1⟩:=fP Hn au;replace Hb:=bD Hb au;go_wp2_with fail;have nen:g≠w.heap.size+1:=by omega
        go_region_held3 (λw'=>w'.cell? ⟨g,0,none⟩=some (.bool (aK M))/\w'.cell? ⟨g,1,none⟩=some (.string (bs (nt M.natAbs)))) (((try dsimp only);go_split_ands;(repeat' apply And.intro)<;>(first|exact True.intro|with_reducible assumption| ((with_reducible refine gN zg ?_);(repeat(with_reducible refine gN zg ?_));with_reducible assumption) |exact cell_later (by with_reducible assumption) (by with_reducible assumption) |exact bg (by with_reducible assumption) |go_keep))) (first| (go_at_call 78;(with_reducible refine(Pm 1 one rV.out _ zo zo).mono ?_);rintro e w5 ⟨rfl,hq⟩;have xt:Bw w4 w5:=(by first|exact df hq|exact hq|exact yD hq|exact tN hq|exact wJ hq);clear hq;obtain⟨aam,Dc⟩:=aU (Hx.out.below xt) (Hr.out.below xt);have avx:w5.cell? ⟨w.heap.size+1,0,none⟩=some (.bool false):=Dc.out.cell 0;have apS:w5.frozen? ⟨w.heap.size+1,0,none⟩=false:=Dc.out.free 0;have avz:w5.cell? ⟨w.heap.size+1,1,none⟩=some (.string (bs [])):=Dc.out.cell 1;have apU:w5.frozen? ⟨w.heap.size+1,1,none⟩=false:=Dc.out.free 1;have Lu:=az (Hn.out.below xt);have att:w5.cell? ⟨g,0,none⟩=some (.bool (aK M)):=Lu.out.cell 0;have atw:w5.cell? ⟨g,1,none⟩=some (.string (bs (nt M.natAbs))):=Lu.out.cell 1) | (go_at_call 141;(with_reducible refine(ah7 (aK M) (nt M.natAbs) (aK one) (nt one.natAbs) _ HMl.out Hol.out).mono ?_);rintro e w6 ⟨rfl,hq⟩;have Ca:Bw w5 w6:=(by first|exact df hq|exact hq|exact yD hq|exact tN hq|exact wJ hq);clear hq;obtain⟨al4,FX⟩:=aU (aam.out.below Ca) (Dc.out.below Ca);have avy:w6.cell? ⟨w.heap.size+1,0,none⟩=some (.bool false):=FX.out.cell 0;have apT:w6.frozen? ⟨w.heap.size+1,0,none⟩=false:=FX.out.free 0;have avA:w6.cell? ⟨w.heap.size+1,1,none⟩=some (.string (bs [])):=FX.out.cell 1;have apV:w6.frozen? ⟨w.heap.size+1,1,none⟩=false:=FX.out.free 1;have QE:=az (Lu.out.below Ca);have atu:w6.cell? ⟨g,0,none⟩=some (.bool (aK M)):=QE.out.cell 0;have atx:w6.cell? ⟨g,1,none⟩=some (.string (bs (nt M.natAbs))):=QE.out.cell 1))
        replace Hb:=az (aO Hb.out xt);clear xt;replace Hb:=az (aO Hb.out Ca);clear Ca x0 x1 r0 bo r1 bz n0 n1;replace Hx:=al4;clear aam;replace Hr:=FX;clear Dc avx apS avz apU avy apT avA apV;replace Hn:=QE;clear Lu att atw atu atx;obtain⟨x0,x1⟩:=Hx.out.c2;obtain⟨r0,bo,r1,bz⟩:=Hr.out.g2;obtain⟨n0,n1⟩:=Hn.out.c2;rw[alJ.out];go_wp2;exact bodyPost_ret (v:=dx (M-1)) (by simp[results,Tryz.results103,go_sem,r0,r1]) rfl ⟨by rw[gW.out],dt⟩
      . have gW:Hid (iv true l/2^k=M):=by
         show _=_
         rw[<-HM.out,<-HZ.out,pu];have h2:nv l%2^k=0:=by
          rcases Nat.eq_zero_or_pos (nv l%2^k)with h|h
          . exact h
          . exact absurd ((ahI (nv l) k zo).2 zo) hz
         unfold iv;simp only[if_true];exact atH _ _ h2
        go_wp2_with fail;refine(VU l _ rU.out).mono ?_;rintro e w3 ⟨rfl,au⟩;obtain⟨Hx,x0,x1⟩:=fP Hx au;obtain⟨Hr,r0,bo,r1,bz⟩:=dZ Hr au;obtain⟨Hn,n0,n1⟩:=fP Hn au;replace Hb:=bD Hb au;replace EZ:=az (hT.below Hb.out);go_wp2_with fail;refine(VV l _ rU.out EZ.out).mono ?_;rintro e w4 ⟨rfl,au⟩;obtain⟨Hx,x0,x1⟩:=fP Hx au;obtain⟨Hr,r0,bo,r1,bz⟩:=dZ Hr au;obtain⟨Hn,n0,n1⟩:=fP Hn au;replace Hb:=bD Hb au;go_wp2;exact bodyPost_ret (v:=dx M) (by simp[results,Tryz.results103,go_sem,r0,r1]) rfl ⟨by rw[gW.out],dt⟩
end Go.Proofs.YtnjfebkelecgaaaGreatDoor
