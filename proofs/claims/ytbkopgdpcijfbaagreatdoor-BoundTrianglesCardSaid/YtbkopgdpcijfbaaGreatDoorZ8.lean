/- Package whole,on: Sub,Cmp,Mul,Shift. -/
import Derived.Test.YtbkopgdpcijfbaaGreatDoorZ6
import Derived.Deep.DeepCutAuto
set_option linter.all false
set_option maxRecDepth 100000
set_option maxHeartbeats 16000000
namespace Go.Proofs.YtbkopgdpcijfbaaGreatDoor
open Go.RowKit
attribute [local go_sem ↓] Go.wp_at_zero Go.wp_at_succ
def Yv (s:Bool)(l:List UInt8)(t:Bool)(m:List UInt8)(b cap:Nat)(ty:TypeId)(w:World)(hl:l.length<=34359738368)(hm:m.length<=34359738368)
 (ha:ar w b ty [ag s,ah l,ag t,ah m]):
 Cv 166 #[.slice (some ⟨b,0,none⟩) 2 cap] w (cd (iv s l+iv t m)):=by
 have:=aA2 [(s,l),(t,m)] (some ⟨b,0,none⟩) cap w (by simp[hl,hm]) zm (At.aGr ha);have e:ni [(s,l),(t,m)]=iv s l+iv t m:=by simp[ni]
 rw[e]at this;exact this
def Fh (s:Bool)(m:List UInt8)(B:Nat)(hm:m.length<=B):(nt (-(iv s m)).natAbs).length<=B:=by rw[Int.natAbs_neg,wQ];exact oz (Nat.lt_of_lt_of_le (jH m) (Nat.pow_le_pow_right zd hm))
def FJ (s:Bool)(l:List UInt8)(N:Int)(hN: -(iv s l)=N)(w:World)(hl:l.length<=1099511627776):
 Cv 208 #[.agg #[ag s,ah l]] w (cd N):=by
 subst hN;exact ajU s l w hl
def KY (s:Bool)(l:List UInt8)(t:Bool)(m:List UInt8)(w:World)(hl:l.length<=34359738368)(hm:m.length<=34359738368):
 Cv 134 #[.agg #[.bool s,.string (bs l)],.agg #[.bool t,.string (bs m)]] w (cd (iv s l-iv t m)):=by
 have hm2:=Fh t m 34359738368 hm;have He:Hid (iv s l+iv (az (-(iv t m))) (nt (-(iv t m)).natAbs)=iv s l-iv t m):=by show _=_;rw[dH];omega
 generalize hN: -(iv t m)=N at*;have HN:=aj hN;clear hN;go_enter Tryz.func134,Tryz.ntmps134;have Hb:=hbz w;go_wp2_with fail;have q:=Kr w 28 [.bool s,.string (bs l)] 28 [.bool t,.string (bs m)] 28 [.bool false,.string (bs [])];first|refine dA _ q ?_|refine dV _ q ?_
 clear q;rintro W ⟨Hx,Hy,Hr,ai⟩;obtain⟨x0,x1⟩:=Hx.out.c2;obtain⟨y0,y1⟩:=Hy.out.c2;obtain⟨r0,aO,r1,aQ⟩:=Hr.out.g2;replace Hb:=aW Hb ai;have WP:w.heap.size≠w.heap.size+1+1:=by omega
 have ney:w.heap.size+1≠w.heap.size+1+1:=by omega
 go_region_held3 (λw'=>w'.cell? ⟨w.heap.size,0,none⟩=some (.bool s)/\w'.cell? ⟨w.heap.size,1,none⟩=some (.string (bs l))/\w'.cell? ⟨w.heap.size+1,0,none⟩=some (.bool t)/\w'.cell? ⟨w.heap.size+1,1,none⟩=some (.string (bs m))) (((try dsimp only);go_split_ands;(repeat' apply And.intro)<;>(first|exact True.intro|with_reducible assumption| ((with_reducible refine gZ zg ?_);(repeat(with_reducible refine gZ zg ?_));with_reducible assumption) |exact cell_later (by with_reducible assumption) (by with_reducible assumption) |exact aU (by with_reducible assumption) |go_keep))) (first| (go_at_call 208;(with_reducible refine(FJ t m N HN.out _ zo).mono ?_);rintro e w1 ⟨rfl,hq⟩;have hw1:Bw W w1:=(by first|exact cu hq|exact hq|exact uK hq|exact uJ hq|exact xQ hq);clear hq;have mH:=aj (Hx.out.below hw1);have Dd:w1.cell? ⟨w.heap.size,0,none⟩=some (.bool s):=mH.out.cell 0;have De:w1.cell? ⟨w.heap.size,1,none⟩=some (.string (bs l)):=mH.out.cell 1;have tA:=aj (Hy.out.below hw1);have Ld:w1.cell? ⟨w.heap.size+1,0,none⟩=some (.bool t):=tA.out.cell 0;have Le:w1.cell? ⟨w.heap.size+1,1,none⟩=some (.string (bs m)):=tA.out.cell 1;have iO:=aj (Hr.out.below hw1);have CX:w1.cell? ⟨w.heap.size+1+1,0,none⟩=some (.bool false):=iO.out.cell 0;have BU:w1.frozen? ⟨w.heap.size+1+1,0,none⟩=false:=iO.out.free 0;have CY:w1.cell? ⟨w.heap.size+1+1,1,none⟩=some (.string (bs [])):=iO.out.cell 1;have BV:w1.frozen? ⟨w.heap.size+1+1,1,none⟩=false:=iO.out.free 1) | (go_at_call 166;(with_reducible refine(Yv s l (az N) (nt N.natAbs) w1.heap.size 2 28 _ hl hm2 (by first|exact ar.drew (ar.new _ _ _) |exact ar.new _ _ _)).mono ?_);rintro e w2 ⟨rfl,hq⟩;have hw2:Bw w1 w2:=(by first|exact cu hq|exact hq|exact uK hq|exact uJ hq|exact xQ hq);clear hq;have BI:=aj (mH.out.below hw2);have YC:w2.cell? ⟨w.heap.size,0,none⟩=some (.bool s):=BI.out.cell 0;have YE:w2.cell? ⟨w.heap.size,1,none⟩=some (.string (bs l)):=BI.out.cell 1;have Ss:=aj (tA.out.below hw2);have aBI:w2.cell? ⟨w.heap.size+1,0,none⟩=some (.bool t):=Ss.out.cell 0;have aBJ:w2.cell? ⟨w.heap.size+1,1,none⟩=some (.string (bs m)):=Ss.out.cell 1;have uD:=aj (iO.out.below hw2);have Xq:w2.cell? ⟨w.heap.size+1+1,0,none⟩=some (.bool false):=uD.out.cell 0;have TC:w2.frozen? ⟨w.heap.size+1+1,0,none⟩=false:=uD.out.free 0;have Xr:w2.cell? ⟨w.heap.size+1+1,1,none⟩=some (.string (bs [])):=uD.out.cell 1;have TD:w2.frozen? ⟨w.heap.size+1+1,1,none⟩=false:=uD.out.free 1))
 replace Hb:=aj (aI Hb.out hw1);clear hw1;replace Hb:=aj (aI Hb.out hw2);clear hw2 x0 x1 y0 y1 r0 aO r1 aQ;replace Hx:=BI;clear mH Dd De YC YE;replace Hy:=Ss;clear tA Ld Le aBI aBJ;replace Hr:=uD;clear iO CX BU CY BV Xq TC Xr TD;obtain⟨x0,x1⟩:=Hx.out.c2;obtain⟨y0,y1⟩:=Hy.out.c2;obtain⟨r0,aO,r1,aQ⟩:=Hr.out.g2;rw[He.out];go_wp2;exact bodyPost_ret (v:=cd (iv s l-iv t m)) (by simp[results,Tryz.results134,go_sem,r0,r1]) rfl ⟨rfl,df⟩
def aA5 (s:Bool)(l:List UInt8)(t:Bool)(m:List UInt8)(w:World)(hl:l.length<=34359738368)(hm:m.length<=34359738368)(hd:(nt (iv s l-iv t m).natAbs).length<=1099511627776):
 Cv 145 #[.agg #[ag s,ah l],.agg #[ag t,ah m]] w (af (eI (iv s l-iv t m))):=by
 have Hi:=aj (dH (iv s l-iv t m));go_enter Tryz.func145,Tryz.ntmps145;have Hb:=hbz w;go_wp2_with fail;have q:=CP w 28 [ag s,ah l] 28 [ag t,ah m];first|refine dA _ q ?_|refine dV _ q ?_
 clear q;rintro W ⟨Hx,Hy,ai⟩;obtain⟨x0,x1⟩:=Hx.out.c2;obtain⟨y0,y1⟩:=Hy.out.c2;replace Hb:=aW Hb ai;go_wp2_with fail;refine(KY s l t m _ hl hm).mono ?_;rintro e w1 ⟨rfl,ai⟩;obtain⟨Hx,x0,x1⟩:=eH Hx ai;obtain⟨Hy,y0,y1⟩:=eH Hy ai;replace Hb:=aW Hb ai;go_wp2_with fail;refine(FM (az (iv s l-iv t m)) (nt (iv s l-iv t m).natAbs) _ hd).mono ?_;rintro e w2 ⟨rfl,ai⟩;obtain⟨Hx,x0,x1⟩:=eH Hx ai;obtain⟨Hy,y0,y1⟩:=eH Hy ai;replace Hb:=aW Hb ai;rw[Hi.out];go_wp2;go_ret;exact⟨rfl,Hb.out⟩
def FK (s:Bool)(l:List UInt8)(n:Nat)(w:World)(hl:l.length<=68719476736)(hn:n<=549755813888):
 Cv 135 #[.agg #[.bool s,.string (bs l)],.int .i64 (n:Int)] w (cd (iv s l*2^n)):=by
 have hlen:(nt (nv l*2^n)).length<=1099511627776:=by
  have h1:nv l*2^n<2^(8*l.length+n):=by rw[Nat.pow_add,Nat.pow_mul];exact Nat.mul_lt_mul_of_pos_right (jH l) (Nat.pow_pos zd)
  have h2:=kK h1;rw[aw7];omega
 have He:Hid (iv s (nt (nv l*2^n))=iv s l*2^n):=by
  show _=_
  rw[vB];unfold iv;cases s<;>simp[Int.natCast_mul,Int.natCast_pow,Int.neg_mul]
 go_enter Tryz.func135,Tryz.ntmps135;have Hb:=hbz w;go_wp2_with fail;have q:=CP w 28 [.bool s,.string (bs l)] 28 [.bool false,.string (bs [])];first|refine dA _ q ?_|refine dV _ q ?_
 clear q;rintro W ⟨Hx,Hr,ai⟩;obtain⟨x0,x1⟩:=Hx.out.c2;obtain⟨r0,aO,r1,aQ⟩:=Hr.out.g2;replace Hb:=aW Hb ai;have WP:w.heap.size≠w.heap.size+1:=by omega
 go_region_held3 (λw'=>w'.cell? ⟨w.heap.size,0,none⟩=some (.bool s)/\w'.cell? ⟨w.heap.size,1,none⟩=some (.string (bs l))) (((try dsimp only);go_split_ands;(repeat' apply And.intro)<;>(first|exact True.intro|with_reducible assumption| ((with_reducible refine gZ zg ?_);(repeat(with_reducible refine gZ zg ?_));with_reducible assumption) |exact cell_later (by with_reducible assumption) (by with_reducible assumption) |exact aU (by with_reducible assumption) |go_keep))) (first| (go_at_call 209;(with_reducible refine(awV l n _ hl hn).mono ?_);rintro e w1 ⟨rfl,hq⟩;have hw1:Bw W w1:=(by first|exact cu hq|exact hq|exact uK hq|exact uJ hq|exact xQ hq);clear hq;have mH:=aj (Hx.out.below hw1);have Dd:w1.cell? ⟨w.heap.size,0,none⟩=some (.bool s):=mH.out.cell 0;have De:w1.cell? ⟨w.heap.size,1,none⟩=some (.string (bs l)):=mH.out.cell 1;have iO:=aj (Hr.out.below hw1);have CX:w1.cell? ⟨w.heap.size+1,0,none⟩=some (.bool false):=iO.out.cell 0;have BU:w1.frozen? ⟨w.heap.size+1,0,none⟩=false:=iO.out.free 0;have CY:w1.cell? ⟨w.heap.size+1,1,none⟩=some (.string (bs [])):=iO.out.cell 1;have BV:w1.frozen? ⟨w.heap.size+1,1,none⟩=false:=iO.out.free 1) | (go_at_call 207;(with_reducible refine(AG (nt (nv l*2^n)) s _ hlen).mono ?_);rintro e w2 ⟨rfl,hq⟩;have hw2:Bw w1 w2:=(by first|exact cu hq|exact hq|exact uK hq|exact uJ hq|exact xQ hq);clear hq;have BI:=aj (mH.out.below hw2);have YC:w2.cell? ⟨w.heap.size,0,none⟩=some (.bool s):=BI.out.cell 0;have YE:w2.cell? ⟨w.heap.size,1,none⟩=some (.string (bs l)):=BI.out.cell 1;have uD:=aj (iO.out.below hw2);have Xq:w2.cell? ⟨w.heap.size+1,0,none⟩=some (.bool false):=uD.out.cell 0;have TC:w2.frozen? ⟨w.heap.size+1,0,none⟩=false:=uD.out.free 0;have Xr:w2.cell? ⟨w.heap.size+1,1,none⟩=some (.string (bs [])):=uD.out.cell 1;have TD:w2.frozen? ⟨w.heap.size+1,1,none⟩=false:=uD.out.free 1))
 replace Hb:=aj (aI Hb.out hw1);clear hw1;replace Hb:=aj (aI Hb.out hw2);clear hw2 x0 x1 r0 aO r1 aQ;replace Hx:=BI;clear mH Dd De YC YE;replace Hr:=uD;clear iO CX BU CY BV Xq TC Xr TD;obtain⟨x0,x1⟩:=Hx.out.c2;obtain⟨r0,aO,r1,aQ⟩:=Hr.out.g2;rw[He.out];go_wp2;exact bodyPost_ret (v:=cd (iv s l*2^n)) (by simp[results,Tryz.results135,go_sem,r0,r1]) rfl ⟨rfl,df⟩
def KW (n N:Int)(hN:n=N)(w:World)(h0: -9223372036854775808<=n)(h1:n<=9223372036854775807):
 Cv 133 #[af n] w (cd N):=by
 subst hN;exact Yw n w h0 h1
def iK :List (Bool×List UInt8)->Int
 |[]=>1
 |x::xs=>iv x.1 x.2*iK xs
def auS (xs ys:List (Bool×List UInt8)):iK (xs++ys)=iK xs*iK ys:=by
 induction xs with
 |nil=>simp[iK]
 |cons x xs ih=>simp[iK,ih,Int.mul_assoc]
def auV (xs:List (Bool×List UInt8))(k:Nat)(hk:k<xs.length):iK (xs.take (k+1))=iK (xs.take k) *iv xs[k].1 xs[k].2:=by rw[List.take_succ_eq_append_getElem hk,auS];simp[iK]
def sK (xs:List (Bool×List UInt8)):Nat:=(xs.map λx=>x.2.length).sum
def auM (xs:List (Bool×List UInt8))(k:Nat):sK (xs.take k)<=sK xs:=by
 unfold sK;induction xs generalizing k with
 |nil=>simp
 | cons x xs ih=>cases k with
   |zero=>simp
   |succ k=>simp only[List.take_succ_cons,List.map_cons,List.sum_cons];have:=ih k;omega
def auL (xs:List (Bool×List UInt8))(x)(h:x∈xs):x.2.length<=sK xs:=by
 unfold sK;induction xs with
 |nil=>simp at h
 | cons y xs ih=>
   simp at h⊢;rcases h with h|h
   . subst h;omega
   . have:=ih h;omega
def auU (xs:List (Bool×List UInt8)):(iK xs).natAbs<=256^sK xs:=by
 induction xs with
 |nil=>simp[iK,sK]
 | cons x xs ih=>
   simp only[iK,Int.natAbs_mul,wQ];have h1:=jH x.2;have:sK (x::xs)=x.2.length+sK xs:=by simp[sK]
   rw[this,Nat.pow_add];exact Nat.mul_le_mul (Nat.le_of_lt h1) ih
def auT (xs:List (Bool×List UInt8))(N:Nat)(h:sK xs+1<=N):(nt (iK xs).natAbs).length<=N:=by refine oz (Nat.lt_of_le_of_lt (auU xs) ?_);exact Nat.pow_lt_pow_right zd zo
def aA9 (xs:List (Bool×List UInt8))(a:Option Addr)(cap:Nat)(w:World)(hl:sK xs<=34359738368)(hx:xs.length<=1048576)
 (ha:At w a (xs.flatMap OO)):
 Cv 153 #[.slice a xs.length cap] w (cd (iK xs)):=by
 have Hl:=aj hl;clear hl;have Ha:=aj ha;clear ha;have Ge:Hid (∀k,(nt (iK (xs.take k)).natAbs).length<=68719476736):=λk=>auT _ _ (by have:=auM xs k;have:=Hl.out;omega);obtain⟨one,hone⟩:∃one:Int,1=one:=⟨_,rfl⟩;have BB:=aj hone;clear hone;go_enter Tryz.func153,Tryz.ntmps153;have Hb:=hbz w;go_wp2_with fail;have q:=np w 28 [ag false,.string (bs [])];first|refine dA _ q ?_|refine dV _ q ?_
 clear q;rintro W ⟨Hr,ai⟩;obtain⟨r0,aO,r1,aQ⟩:=Hr.out.g2;replace Hb:=aW Hb ai;go_wp2_with fail;refine(KW 1 one BB.out _ zo zo).mono ?_;rintro e w1 ⟨rfl,ai⟩;obtain⟨Hr,r0,aO,r1,aQ⟩:=dt Hr ai;replace Hb:=aW Hb ai;go_wp2_with fail;refine(PU (nt one.natAbs) (az one) _).mono ?_;rintro e w2 ⟨rfl,ai⟩;obtain⟨Hr,r0,aO,r1,aQ⟩:=dt Hr ai;replace Hb:=aW Hb ai;have aEn:w.heap.size<w2.heap.size:=Hr.out.lt;have WF:=Hr.out.lt;go_wp2_with fail;obtain⟨R,hR⟩:∃R:World->Prop,(λW2=>ar W2 (w2.heap.size) 243 [ah (nt one.natAbs),ag (az one)]/\Bw w2 W2)=R:=⟨_,rfl⟩;first|refine dA R ?hR ?_|refine dV R ?hR ?_
 case hR=>subst hR;exact⟨(ar.newAt w2 _ _ (b:=w2.heap.size) rfl),zl⟩
 subst hR;rintro W2 ⟨qs,ai⟩;have Hs:=aj qs;clear qs r0 aO r1 aQ;obtain⟨Hr,r0,aO,r1,aQ⟩:=dt Hr ai;obtain⟨s0,jo,s1,jp⟩:=Hs.out.g2;replace Hb:=aW Hb ai
 go_loopw[5,10] (λ_ i wr=>∃(k:Nat) (t:Bool),k<=xs.length/\i=af k/\iv t (nt (iK (xs.take k)).natAbs)=iK (xs.take k)/\ar wr w.heap.size 28 [ag false,.string (bs [])]/\
  ar wr w2.heap.size 243 [ah (nt (iK (xs.take k)).natAbs),ag t]/\Bw w wr) (λ_ i _=>xs.length-(intOf i).toNat)
 case atStart=>
  have e:iK (xs.take 0)=one:=by rw[<-BB.out];simp[iK]
  refine⟨0,az one,Nat.zero_le _,rfl,?_,Hr.out,?_,Hb.out⟩
  . rw[e];exact dH one
  . rw[e];exact Hs.out
 case round=>
  obtain⟨k,t,hk,rfl,rG,qr,qs,hb⟩:=hrel;replace Hr:=aj qr;replace Hs:=aj qs;replace Hb:=aj hb;have qA:=aj rG;clear qr qs hb rG r0 r1 aO aQ s0 s1 jo jp;by_cases hlt:k<xs.length
  . obtain⟨b,o,hab,hcs⟩:=(Ha.out.below Hb.out).elem (f:=OO) (sz:=2) (λ_=>rfl) zd k hlt;have hc0:wr.cell? ⟨b,o+k*2,none⟩=some (ag xs[k].1):=hcs 0 zd;have hc1:wr.cell? ⟨b,o+k*2+1,none⟩=some (.string (bs xs[k].2)):=hcs 1 zd;have bD:=yx xs.length cap k (k:Int) hab hlt rfl;have bR:=aj (auV xs k hlt);have qo:Hid (xs[k].2.length<=34359738368):=by have:=auL xs _ (List.getElem_mem hlt);have:=Hl.out;show _<=_;omega
    have jz:=aj (Ge.out k);clear hcs hab;generalize xs[k]=x at*;obtain⟨t1,l1⟩:=x;generalize hS:iK (xs.take k)=S at*;have HS:=aj hS;clear hS;obtain⟨r0,aO,r1,aQ⟩:=Hr.out.g2;obtain⟨s0,jo,s1,jp⟩:=Hs.out.g2;have avV:=Hr.out.lt;have avY:=Hs.out.lt;go_wp2_with fail;obtain⟨R,hR⟩:∃R:World->Prop,(λW1=>ar W1 (wr.heap.size) 28 [ag t1,ah l1]/\Bw wr W1)=R:=⟨_,rfl⟩;first|refine dA R ?hR ?_|refine dV R ?hR ?_
    case hR=>subst hR;exact⟨(ar.newAt wr _ _ (b:=wr.heap.size) rfl),zl⟩
    subst hR;rintro W1 ⟨qa,ai⟩;have Ha:=aj qa;clear qa r0 aO r1 aQ;obtain⟨Hr,r0,aO,r1,aQ⟩:=dt Hr ai;obtain⟨Hs,s0,jo,s1,jp⟩:=dt Hs ai;obtain⟨a0,a1⟩:=Ha.out.c2;replace Hb:=aW Hb ai;go_region_with (first| (go_at_call 215;refine(PU l1 t1 _).mono ?_;rintro e w3 ⟨rfl,hq⟩;have hw3:Bw W1 w3:=cu hq;clear hq;have Xy:=cell_later hw3 s0;have Xz:=cell_later hw3 s1;have ast:=(Hs.out.below hw3).free 0;have asv:=(Hs.out.below hw3).free 1) | (go_at_call 227;refine(aAx (nt S.natAbs) l1 t t1 _ jz.out (by have:=qo.out;omega)).mono ?_;rintro e w4 ⟨rfl,hw4⟩;have ay8:=cell_later hw4 Xy;have azb:=cell_later hw4 Xz;have asu:=((Hs.out.below hw3).below hw4).free 0;have asw:=((Hs.out.below hw3).below hw4).free 1))
    all_goals
     go_wp2
     go_roundw
     case rel=>
      have hq:=au0 t (nt S.natAbs) t1 l1;rw[qA.out,<-bR.out]at hq;have hq2:nv (nt S.natAbs) *nv l1=(iK (xs.take (k+1))).natAbs:=by rw[bR.out,Int.natAbs_mul,wQ,jP]
      rw[hq2]at hq⊢;refine⟨k+1,_,by omega,by go_num,hq,((((Hr.out.below hw3).below hw4).aGq ⟨w2.heap.size,0,none⟩ zp _).aGq ⟨w2.heap.size,1,none⟩ zp _),((((Hs.out.below hw3).below hw4).set 0 _).set 1 _),?_⟩;exact((aI (aI Hb.out hw3) hw4).setCell zp _).setCell zp _
     case measure=>exact bC
  . obtain rfl:k=xs.length:=by omega
    rw[List.take_length]at Hs qA;have jz:=Ge.out xs.length;rw[List.take_length]at jz;obtain⟨r0,aO,r1,aQ⟩:=Hr.out.g2;obtain⟨s0,jo,s1,jp⟩:=Hs.out.g2;go_wp2_with fail;refine(AG (nt (iK xs).natAbs) t _ zo).mono ?_;rintro e w3 ⟨rfl,ai⟩;obtain⟨Hr,r0,aO,r1,aQ⟩:=dt Hr ai;obtain⟨Hs,s0,jo,s1,jp⟩:=dt Hs ai;replace Hb:=aW Hb ai;rw[qA.out];go_wp2;exact bodyPost_ret (v:=cd (iK xs)) (by simp[results,Tryz.results153,go_sem,r0,r1]) rfl ⟨rfl,df⟩
def ajA (v:Nat)(h:0<v):∃m,v=2^tz v* (2*m+1):=by
 induction v using Nat.strongRecOn with
 | _ v ih=>
   by_cases he:v%2=0
   . obtain⟨u,rfl⟩:∃u,v=2*u:=⟨v/2,by omega⟩;obtain⟨m,hm⟩:=ih u zo zo;refine⟨m,?_⟩;have e:tz (2*u)=tz u+1:=by unfold tz;rw[show((2*u:Nat):Int)=2* (u:Int)by omega];exact Int.trailingZeros_two_mul zo
     rw[e,Nat.pow_succ];conv=>lhs;rw[hm]
     rw[Nat.mul_comm (2^tz u) 2,Nat.mul_assoc]
   . refine⟨v/2,?_⟩;have e:tz v=0:=by unfold tz;exact Int.trailingZeros_eq_zero_of_mod_eq zo
     rw[e];omega
def ajy (v k:Nat)(h:0<v):tz v<k↔v%2^k≠0:=by
 obtain⟨m,hm⟩:=ajA v h;generalize tz v=c at*;constructor
 . intro hc h0;have hd:2^k∣v:=Nat.dvd_of_mod_eq_zero h0;have hd2:2^(c+1)∣v:=Nat.dvd_trans (Nat.pow_dvd_pow 2 hc) hd;rw[hm,Nat.pow_succ]at hd2;have:=Nat.dvd_of_mul_dvd_mul_left (Nat.pow_pos zd) hd2;omega
 . intro hne;rcases Nat.lt_or_ge c k with h1|h1
   . exact h1
   . exfalso;apply hne
     rw[hm];exact Nat.mod_eq_zero_of_dvd (Nat.dvd_trans (Nat.pow_dvd_pow 2 h1) (Nat.dvd_mul_right _ _))
def awY (v k:Nat)(h:v%2^k=0): -(v:Int)/2^k= -((v/2^k:Nat):Int):=by
 obtain⟨q,rfl⟩:=Nat.dvd_of_mod_eq_zero h;have hp:=Nat.pow_pos (n:=k) (show 0<2 by decide);rw[Nat.mul_div_cancel_left _ hp];have e: -((2^k*q:Nat):Int)=2^k* (-(q:Int)):=by simp[Int.natCast_mul,Int.natCast_pow,Int.mul_neg]
 rw[e,Int.mul_ediv_cancel_left];have:((2^k:Nat):Int)≠0:=by omega
 simpa[Int.natCast_pow]using this
def awZ (v k:Nat)(h:v%2^k≠0): -(v:Int)/2^k= -((v/2^k:Nat):Int)-1:=by
 have hp:=Nat.pow_pos (n:=k) (show 0<2 by decide);have e:=(Nat.mod_add_div v (2^k)).symm;have hr:=Nat.mod_lt v hp;rw[show((2:Int)^k)=((2^k:Nat):Int)by simp[Int.natCast_pow]];generalize v%2^k=r at*;generalize v/2^k=q at*;generalize 2^k=p at*;subst e;have e2: -((r+p*q:Nat):Int)=((p:Int)-r)+p* (-(q:Int)-1):=by rw[Int.natCast_add,Int.natCast_mul,Int.mul_sub,Int.mul_neg,Int.mul_one];omega
 rw[e2,Int.add_mul_ediv_left _ _ zo,Int.ediv_eq_zero_of_lt zo zo];omega
def aw6 (l:List UInt8)(k B:Nat)(hl:l.length<=B):(nt (nv l/2^k)).length<=B:=oz (Nat.lt_of_le_of_lt (Nat.div_le_self _ _) (Nat.lt_of_lt_of_le (jH l) (Nat.pow_le_pow_right zd hl)))
def ajW (s:Bool)(l:List UInt8)(k:Nat)(w:World)(hl:l.length<=34359738368)(hk:0<k)(hk2:k<=1099511627776)(hT:aC w):
 Cv 135 #[.agg #[.bool s,.string (bs l)],.int .i64 (-(k:Int))] w (cd (iv s l/2^k)):=by
 have hmax:max (-(k:Int)) (-1099511627776)= -(k:Int):=by omega
 have hlen:(nt (nv l/2^k)).length<=34359738368:=aw6 l k _ hl;obtain⟨Z,hZ⟩:=aB (nv l/2^k);have OD:∀W,Cv 210 #[.string (bs l),.int .i64 (k:Int)] W (.string (bs (nt Z))):=λW=>by rw[<-hZ];exact awW l k W zo hk2
 rw[hZ]at hlen;have HZ:=aj hZ;clear hZ;have ann:=aj OD;clear OD;obtain⟨M,hM⟩:=aB (iv s (nt Z));have HM:=aj hM;clear hM;have JF:∀W,Cv 207 #[.agg #[.string (bs (nt Z)),.bool s]] W (cd M):=λW=>by have:=AG (nt Z) s W zo;rw[HM.out]at this;exact this
 have Rq:=aj JF;clear JF;go_enter Tryz.func135,Tryz.ntmps135;have Hb:=hbz w;go_upto_region 4 with fail
 go_wp2_with fail;have q:=CP w 28 [.bool s,.string (bs l)] 28 [.bool false,.string (bs [])];first|refine dA _ q ?_|refine dV _ q ?_
 clear q;rintro W ⟨Hx,Hr,ai⟩;obtain⟨x0,x1⟩:=Hx.out.c2;obtain⟨r0,aO,r1,aQ⟩:=Hr.out.g2;replace Hb:=aW Hb ai;go_cut[5] (λs5 wx=>∃g:Nat,s5=.pointer (some ⟨g,0,none⟩)/\w.heap.size+1<g/\ar wx w.heap.size 28 [.bool s,.string (bs l)]/\ar wx (w.heap.size+1) 28 [.bool false,.string (bs [])]/\ar wx g 28 [.bool (az M),.string (bs (nt M.natAbs))]/\Bw w wx);case first=>
  have hxW:w.heap.size<W.heap.size:=Hx.out.lt;have hrW:w.heap.size+1<W.heap.size:=Hr.out.lt;have hwk:IntKind.i64.wrap (k:Int)=(k:Int):=by rw[IntKind.wrap_i64];omega
  go_region_held3 (λw'=>w'.cell? ⟨w.heap.size,0,none⟩=some (.bool s)/\w'.cell? ⟨w.heap.size,1,none⟩=some (.string (bs l))) (((try dsimp only);go_split_ands;(repeat' apply And.intro)<;>(first|with_reducible assumption|exact aU (by with_reducible assumption) |exact SV (by with_reducible assumption) |exact SV (aU (by with_reducible assumption)) | ((with_reducible refine gZ zf ?_);(repeat(with_reducible refine gZ zf ?_));first|with_reducible assumption|exact aU (by with_reducible assumption) |exact SV (by with_reducible assumption)) |go_keep))) (first| (go_at_call 210;(with_reducible refine(ann.out _).mono ?_);rintro e w1 ⟨rfl,hq⟩;(first| (have hw1:Bw W w1:=cu hq) | (have hw1:Bw W w1:=xQ hq;have GN:=aj (ar.below (ar.drew (ar.new W 28 [.bool false,.string (bs [])])) hq);have aFw:w1.cell? ⟨W.heap.size,0,none⟩=some (.bool false):=GN.out.cell 0;have aFx:w1.cell? ⟨W.heap.size,1,none⟩=some (.string (bs [])):=GN.out.cell 1;have aCO:=GN.out.free 0;have aCP:=GN.out.free 1));clear hq;have zs1:=hw1.size;obtain⟨Sp,ang⟩:=aK (Hx.out.below hw1) (Hr.out.below hw1);have aFR:w1.cell? ⟨w.heap.size,0,none⟩=some (.bool s):=Sp.out.cell 0;have aFZ:w1.cell? ⟨w.heap.size,1,none⟩=some (.string (bs l)):=Sp.out.cell 1) | (go_at_call 207;(with_reducible refine(Rq.out _).mono ?_);rintro e w2 ⟨rfl,hq⟩;(first| (have hw2:Bw w1 w2:=hq;(try(have ux:=aj (ar.below GN.out hq);have awA:w2.cell? ⟨W.heap.size,0,none⟩=some (.bool false):=ux.out.cell 0;have awE:w2.cell? ⟨W.heap.size,1,none⟩=some (.string (bs [])):=ux.out.cell 1;have ar9:=ux.out.free 0;have asa:=ux.out.free 1))) | (have hw2:Bw w1 w2:=uJ hq;have ux:=aj (ar.below (ar.new w1 28 [.bool false,.string (bs [])]) hq);have awA:w2.cell? ⟨w1.heap.size,0,none⟩=some (.bool false):=ux.out.cell 0;have awE:w2.cell? ⟨w1.heap.size,1,none⟩=some (.string (bs [])):=ux.out.cell 1;have ar9:=ux.out.free 0;have asa:=ux.out.free 1));clear hq;have zs2:=hw2.size;obtain⟨Ig,RN⟩:=aK (Sp.out.below hw2) (ang.out.below hw2);have aFS:w2.cell? ⟨w.heap.size,0,none⟩=some (.bool s):=Ig.out.cell 0;have aF0:w2.cell? ⟨w.heap.size,1,none⟩=some (.string (bs l)):=Ig.out.cell 1))
  all_goals(go_wp2_with fail;go_meet)
  . exact⟨w2.heap.size,rfl,by omega,Ig.out.alloc _,RN.out.alloc _,ar.new _ _ _,(aI (aI Hb.out hw1) hw2).alloc zo _⟩
  . exact⟨w1.heap.size,rfl,by omega,((Ig.out.aGq ⟨w1.heap.size,0,none⟩ (by first| (dsimp only;omega) |omega| (simp<;>omega)) _).aGq ⟨w1.heap.size,1,none⟩ (by first| (dsimp only;omega) |omega| (simp<;>omega)) _),((RN.out.aGq ⟨w1.heap.size,0,none⟩ (by first| (dsimp only;omega) |omega| (simp<;>omega)) _).aGq ⟨w1.heap.size,1,none⟩ (by first| (dsimp only;omega) |omega| (simp<;>omega)) _),((ux.out.set 0 _).set 1 _),((aI (aI Hb.out hw1) hw2).setCell (by first| (dsimp only;omega) |omega| (simp<;>omega)) _).setCell (by first| (dsimp only;omega) |omega| (simp<;>omega)) _⟩
  . exact⟨W.heap.size,rfl,hrW,((Ig.out.aGq ⟨W.heap.size,0,none⟩ (by first| (dsimp only;omega) |omega| (simp<;>omega)) _).aGq ⟨W.heap.size,1,none⟩ (by first| (dsimp only;omega) |omega| (simp<;>omega)) _),((RN.out.aGq ⟨W.heap.size,0,none⟩ (by first| (dsimp only;omega) |omega| (simp<;>omega)) _).aGq ⟨W.heap.size,1,none⟩ (by first| (dsimp only;omega) |omega| (simp<;>omega)) _),((ux.out.set 0 _).set 1 _),((aI (aI Hb.out hw1) hw2).setCell (by first| (dsimp only;omega) |omega| (simp<;>omega)) _).setCell (by first| (dsimp only;omega) |omega| (simp<;>omega)) _⟩
 case rest=>
  obtain⟨g,rfl,hg,qx,qr,qn,qb⟩:=hcut;replace Hx:=aj qx;replace Hr:=aj qr;have Hn:=aj qn;replace Hb:=aj qb;clear qx qr qn qb x0 x1 r0 r1 aO aQ;cases s
  . obtain ⟨x0,x1⟩:=Hx.out.c2;obtain⟨r0,aO,r1,aQ⟩:=Hr.out.g2;obtain⟨n0,n1⟩:=Hn.out.c2;have iu:Hid (iv false l/2^k=M):=by
     show _=_
     rw[<-HM.out,<-HZ.out,vB];unfold iv;simp[Int.natCast_pow]
    go_wp2;exact bodyPost_ret (v:=cd M) (by simp[results,Tryz.results135,go_sem,r0,r1]) rfl ⟨by rw[iu.out],df⟩
  . obtain⟨x0,x1⟩:=Hx.out.c2;obtain⟨r0,aO,r1,aQ⟩:=Hr.out.g2;obtain⟨n0,n1⟩:=Hn.out.c2;have qE:Hid (l.length<=68719476736):=by show _<=_;omega
    by_cases h0:nv l=0
    . have hb0:bQ (nv l)=0:=by rw[h0];rfl
      have iu:Hid (iv true l/2^k=M):=by
       show _=_
       rw[<-HM.out,<-HZ.out,vB,h0];unfold iv;simp[h0]
      have ft:=aj hb0;clear hb0;go_wp2_with fail;refine(WN l _ qE.out).mono ?_;rintro e w3 ⟨rfl,ai⟩;obtain⟨Hx,x0,x1⟩:=eH Hx ai;obtain⟨Hr,r0,aO,r1,aQ⟩:=dt Hr ai;obtain⟨Hn,n0,n1⟩:=eH Hn ai;replace Hb:=aW Hb ai;rw[ft.out];go_wp2;exact bodyPost_ret (v:=cd M) (by simp[results,Tryz.results135,go_sem,r0,r1]) rfl ⟨by rw[iu.out],df⟩
    . have hbp:0<bQ (nv l):=My zo;have yS:Hid (aC wc):=hT.below Hb.out;by_cases hz:tz (nv l)<k
      . have iu:Hid (iv true l/2^k=M-1):=by
         show _=_
         rw[<-HM.out,<-HZ.out,vB];have:=(ajy (nv l) k zo).1 hz;unfold iv;simp only[if_true];exact awZ _ _ this
        have HMl:Hid ((nt M.natAbs).length<=34359738368):=by show _<=_;rw[<-HM.out,wQ,jP];exact hlen
        obtain⟨one,hone⟩:∃one:Int,1=one:=⟨_,rfl⟩;have Hol:Hid ((nt one.natAbs).length<=34359738368):=by show _<=_;rw[<-hone];exact Nat.le_trans (oz (k:=1) zd) zd
        have BB:=aj hone;clear hone;have anw:Hid (iv (az M) (nt M.natAbs)-iv (az one) (nt one.natAbs)=M-1):=by show _=_;rw[dH,dH,<-BB.out]
        go_wp2_with fail;refine(WN l _ qE.out).mono ?_;rintro e w3 ⟨rfl,ai⟩;obtain⟨Hx,x0,x1⟩:=eH Hx ai;obtain⟨Hr,r0,aO,r1,aQ⟩:=dt Hr ai;obtain⟨Hn,n0,n1⟩:=eH Hn ai;replace Hb:=aW Hb ai;replace yS:=aj (hT.below Hb.out);go_wp2_with fail;refine(WO l _ qE.out yS.out).mono ?_;rintro e w4 ⟨rfl,ai⟩;obtain⟨Hx,x0,x1⟩:=eH Hx ai;obtain⟨Hr,r0,aO,r1,aQ⟩:=dt Hr ai;obtain⟨Hn,n0,n1⟩:=eH Hn ai;replace Hb:=aW Hb ai;go_wp2_with fail;have nen:g≠w.heap.size+1:=by omega
        go_region_held3 (λw'=>w'.cell? ⟨g,0,none⟩=some (.bool (az M))/\w'.cell? ⟨g,1,none⟩=some (.string (bs (nt M.natAbs)))) (((try dsimp only);go_split_ands;(repeat' apply And.intro)<;>(first|exact True.intro|with_reducible assumption| ((with_reducible refine gZ zg ?_);(repeat(with_reducible refine gZ zg ?_));with_reducible assumption) |exact cell_later (by with_reducible assumption) (by with_reducible assumption) |exact aU (by with_reducible assumption) |go_keep))) (first| (go_at_call 133;(with_reducible refine(KW 1 one BB.out _ zo zo).mono ?_);rintro e w5 ⟨rfl,hq⟩;have cS:Bw w4 w5:=(by first|exact cu hq|exact hq|exact uK hq|exact uJ hq|exact xQ hq);clear hq;obtain⟨aaY,DN⟩:=aK (Hx.out.below cS) (Hr.out.below cS);have ayx:w5.cell? ⟨w.heap.size+1,0,none⟩=some (.bool false):=DN.out.cell 0;have asn:w5.frozen? ⟨w.heap.size+1,0,none⟩=false:=DN.out.free 0;have ayz:w5.cell? ⟨w.heap.size+1,1,none⟩=some (.string (bs [])):=DN.out.cell 1;have asp:w5.frozen? ⟨w.heap.size+1,1,none⟩=false:=DN.out.free 1;have Mb:=aj (Hn.out.below cS);have awC:w5.cell? ⟨g,0,none⟩=some (.bool (az M)):=Mb.out.cell 0;have awG:w5.cell? ⟨g,1,none⟩=some (.string (bs (nt M.natAbs))):=Mb.out.cell 1) | (go_at_call 134;(with_reducible refine(KY (az M) (nt M.natAbs) (az one) (nt one.natAbs) _ HMl.out Hol.out).mono ?_);rintro e w6 ⟨rfl,hq⟩;have Cz:Bw w5 w6:=(by first|exact cu hq|exact hq|exact uK hq|exact uJ hq|exact xQ hq);clear hq;obtain⟨anT,GY⟩:=aK (aaY.out.below Cz) (DN.out.below Cz);have ayy:w6.cell? ⟨w.heap.size+1,0,none⟩=some (.bool false):=GY.out.cell 0;have aso:w6.frozen? ⟨w.heap.size+1,0,none⟩=false:=GY.out.free 0;have ayA:w6.cell? ⟨w.heap.size+1,1,none⟩=some (.string (bs [])):=GY.out.cell 1;have asq:w6.frozen? ⟨w.heap.size+1,1,none⟩=false:=GY.out.free 1;have Ru:=aj (Mb.out.below Cz);have awD:w6.cell? ⟨g,0,none⟩=some (.bool (az M)):=Ru.out.cell 0;have awH:w6.cell? ⟨g,1,none⟩=some (.string (bs (nt M.natAbs))):=Ru.out.cell 1))
        replace Hb:=aj (aI Hb.out cS);clear cS;replace Hb:=aj (aI Hb.out Cz);clear Cz x0 x1 r0 aO r1 aQ n0 n1;replace Hx:=anT;clear aaY;replace Hr:=GY;clear DN ayx asn ayz asp ayy aso ayA asq;replace Hn:=Ru;clear Mb awC awG awD awH;obtain⟨x0,x1⟩:=Hx.out.c2;obtain⟨r0,aO,r1,aQ⟩:=Hr.out.g2;obtain⟨n0,n1⟩:=Hn.out.c2;rw[anw.out];go_wp2;exact bodyPost_ret (v:=cd (M-1)) (by simp[results,Tryz.results135,go_sem,r0,r1]) rfl ⟨by rw[iu.out],df⟩
      . have iu:Hid (iv true l/2^k=M):=by
         show _=_
         rw[<-HM.out,<-HZ.out,vB];have h2:nv l%2^k=0:=by
          rcases Nat.eq_zero_or_pos (nv l%2^k)with h|h
          . exact h
          . exact absurd ((ajy (nv l) k zo).2 zo) hz
         unfold iv;simp only[if_true];exact awY _ _ h2
        go_wp2_with fail;refine(WN l _ qE.out).mono ?_;rintro e w3 ⟨rfl,ai⟩;obtain⟨Hx,x0,x1⟩:=eH Hx ai;obtain⟨Hr,r0,aO,r1,aQ⟩:=dt Hr ai;obtain⟨Hn,n0,n1⟩:=eH Hn ai;replace Hb:=aW Hb ai;replace yS:=aj (hT.below Hb.out);go_wp2_with fail;refine(WO l _ qE.out yS.out).mono ?_;rintro e w4 ⟨rfl,ai⟩;obtain⟨Hx,x0,x1⟩:=eH Hx ai;obtain⟨Hr,r0,aO,r1,aQ⟩:=dt Hr ai;obtain⟨Hn,n0,n1⟩:=eH Hn ai;replace Hb:=aW Hb ai;go_wp2;exact bodyPost_ret (v:=cd M) (by simp[results,Tryz.results135,go_sem,r0,r1]) rfl ⟨by rw[iu.out],df⟩
end Go.Proofs.YtbkopgdpcijfbaaGreatDoor
