/- Package whole,on: Sub,Cmp,Mul,Shift. -/
import Derived.Test.YtnjfebkelecgaaaGreatDoorZ6
import Derived.Deep.DeepCutAuto
set_option linter.all false
set_option maxRecDepth 100000
set_option maxHeartbeats 16000000
namespace Go.Proofs.YtnjfebkelecgaaaGreatDoor
open Go.RowKit
attribute [local go_sem ↓] Go.wp_at_zero Go.wp_at_succ
def ajq (s:Bool)(l:List UInt8)(t:Bool)(m:List UInt8)(b cap:Nat)(ty:TypeId)(w:World)(hl:l.length<=34359738368)(hm:m.length<=34359738368)
 (ha:au w b ty [aj s,ai l,aj t,ai m]):
 Cv 60 #[.slice (some ⟨b,0,none⟩) 2 cap] w (dO (iv s l+iv t m)):=by
 have:=aAc [(s,l),(t,m)] (some ⟨b,0,none⟩) cap w (by simp[hl,hm]) zm (At.aFK ha);have e:nD [(s,l),(t,m)]=iv s l+iv t m:=by simp[nD]
 rw[e]at this;exact this
def Kj (s:Bool)(m:List UInt8)(B:Nat)(hm:m.length<=B):(nt (-(iv s m)).natAbs).length<=B:=by rw[Int.natAbs_neg,pX];exact kd (Nat.lt_of_lt_of_le (ib m) (Nat.pow_le_pow_right zd hm))
def Qn (s:Bool)(l:List UInt8)(N:Int)(hN: -(iv s l)=N)(w:World)(hl:l.length<=1099511627776):
 Cv 114 #[.agg #[aj s,ai l]] w (dO N):=by
 subst hN;exact aju s l w hl
def ajx (s:Bool)(l:List UInt8)(t:Bool)(m:List UInt8)(w:World)(hl:l.length<=34359738368)(hm:m.length<=34359738368):
 Cv 141 #[.agg #[.bool s,.string (bs l)],.agg #[.bool t,.string (bs m)]] w (dO (iv s l-iv t m)):=by
 have hm2:=Kj t m 34359738368 hm;have He:Hid (iv s l+iv (aC (-(iv t m))) (nt (-(iv t m)).natAbs)=iv s l-iv t m):=by show _=_;rw[gK];omega
 generalize hN: -(iv t m)=N at*;have HN:=ar hN;clear hN;go_enter Tryz.func141,Tryz.ntmps141;have Hb:=hbz w;go_wp2_with fail;have q:=uU w 46 [.bool s,.string (bs l)] 46 [.bool t,.string (bs m)] 46 [.bool false,.string (bs [])];first|refine cd _ q ?_|refine cw _ q ?_
 clear q;rintro W ⟨Hx,Hy,Hr,ag⟩;obtain⟨x0,x1⟩:=Hx.out.c2;obtain⟨y0,y1⟩:=Hy.out.c2;obtain⟨r0,aH,r1,aI⟩:=Hr.out.g2;replace Hb:=az Hb ag;have Xo:w.heap.size≠w.heap.size+1+1:=by omega
 have ney:w.heap.size+1≠w.heap.size+1+1:=by omega
 go_region_held3 (λw'=>w'.cell? ⟨w.heap.size,0,none⟩=some (.bool s)/\w'.cell? ⟨w.heap.size,1,none⟩=some (.string (bs l))/\w'.cell? ⟨w.heap.size+1,0,none⟩=some (.bool t)/\w'.cell? ⟨w.heap.size+1,1,none⟩=some (.string (bs m))) (((try dsimp only);go_split_ands;(repeat' apply And.intro)<;>(first|exact True.intro|with_reducible assumption| ((with_reducible refine ij zg ?_);(repeat(with_reducible refine ij zg ?_));with_reducible assumption) |exact cell_later (by with_reducible assumption) (by with_reducible assumption) |exact aV (by with_reducible assumption) |go_keep))) (first| (go_at_call 114;(with_reducible refine(Qn t m N HN.out _ zo).mono ?_);rintro e w1 ⟨rfl,hq⟩;have hw1:Bw W w1:=(by first|exact bo hq|exact hq|exact zn hq|exact ul hq|exact xw hq);clear hq;have mU:=ar (Hx.out.below hw1);have CX:w1.cell? ⟨w.heap.size,0,none⟩=some (.bool s):=mU.out.cell 0;have CY:w1.cell? ⟨w.heap.size,1,none⟩=some (.string (bs l)):=mU.out.cell 1;have sH:=ar (Hy.out.below hw1);have Li:w1.cell? ⟨w.heap.size+1,0,none⟩=some (.bool t):=sH.out.cell 0;have Lj:w1.cell? ⟨w.heap.size+1,1,none⟩=some (.string (bs m)):=sH.out.cell 1;have jd:=ar (Hr.out.below hw1);have CQ:w1.cell? ⟨w.heap.size+1+1,0,none⟩=some (.bool false):=jd.out.cell 0;have BL:w1.frozen? ⟨w.heap.size+1+1,0,none⟩=false:=jd.out.free 0;have CR:w1.cell? ⟨w.heap.size+1+1,1,none⟩=some (.string (bs [])):=jd.out.cell 1;have BM:w1.frozen? ⟨w.heap.size+1+1,1,none⟩=false:=jd.out.free 1) | (go_at_call 60;(with_reducible refine(ajq s l (aC N) (nt N.natAbs) w1.heap.size 2 46 _ hl hm2 (by first|exact au.drew (au.new _ _ _) |exact au.new _ _ _)).mono ?_);rintro e w2 ⟨rfl,hq⟩;have hw2:Bw w1 w2:=(by first|exact bo hq|exact hq|exact zn hq|exact ul hq|exact xw hq);clear hq;have Bg:=ar (mU.out.below hw2);have YU:w2.cell? ⟨w.heap.size,0,none⟩=some (.bool s):=Bg.out.cell 0;have YV:w2.cell? ⟨w.heap.size,1,none⟩=some (.string (bs l)):=Bg.out.cell 1;have SN:=ar (sH.out.below hw2);have aAI:w2.cell? ⟨w.heap.size+1,0,none⟩=some (.bool t):=SN.out.cell 0;have aAJ:w2.cell? ⟨w.heap.size+1,1,none⟩=some (.string (bs m)):=SN.out.cell 1;have ud:=ar (jd.out.below hw2);have XR:w2.cell? ⟨w.heap.size+1+1,0,none⟩=some (.bool false):=ud.out.cell 0;have Uh:w2.frozen? ⟨w.heap.size+1+1,0,none⟩=false:=ud.out.free 0;have XS:w2.cell? ⟨w.heap.size+1+1,1,none⟩=some (.string (bs [])):=ud.out.cell 1;have Ui:w2.frozen? ⟨w.heap.size+1+1,1,none⟩=false:=ud.out.free 1))
 replace Hb:=ar (aO Hb.out hw1);clear hw1;replace Hb:=ar (aO Hb.out hw2);clear hw2 x0 x1 y0 y1 r0 aH r1 aI;replace Hx:=Bg;clear mU CX CY YU YV;replace Hy:=SN;clear sH Li Lj aAI aAJ;replace Hr:=ud;clear jd CQ BL CR BM XR Uh XS Ui;obtain⟨x0,x1⟩:=Hx.out.c2;obtain⟨y0,y1⟩:=Hy.out.c2;obtain⟨r0,aH,r1,aI⟩:=Hr.out.g2;rw[He.out];go_wp2;exact bodyPost_ret (v:=dO (iv s l-iv t m)) (by simp[results,Tryz.results141,go_sem,r0,r1]) rfl ⟨rfl,dH⟩
def YR (s:Bool)(l:List UInt8)(n:Nat)(w:World)(hl:l.length<=68719476736)(hn:n<=549755813888):
 Cv 103 #[.agg #[.bool s,.string (bs l)],.int .i64 (n:Int)] w (dO (iv s l*2^n)):=by
 have hlen:(nt (nv l*2^n)).length<=1099511627776:=by
  have h1:nv l*2^n<2^(8*l.length+n):=by rw[Nat.pow_add,Nat.pow_mul];exact Nat.mul_lt_mul_of_pos_right (ib l) (Nat.pow_pos zd)
  have h2:=iG h1;rw[awd];omega
 have He:Hid (iv s (nt (nv l*2^n))=iv s l*2^n):=by
  show _=_
  rw[pY];unfold iv;cases s<;>simp[Int.natCast_mul,Int.natCast_pow,Int.neg_mul]
 go_enter Tryz.func103,Tryz.ntmps103;have Hb:=hbz w;go_wp2_with fail;have q:=lQ w 46 [.bool s,.string (bs l)] 46 [.bool false,.string (bs [])];first|refine cd _ q ?_|refine cw _ q ?_
 clear q;rintro W ⟨Hx,Hr,ag⟩;obtain⟨x0,x1⟩:=Hx.out.c2;obtain⟨r0,aH,r1,aI⟩:=Hr.out.g2;replace Hb:=az Hb ag;have Xo:w.heap.size≠w.heap.size+1:=by omega
 go_region_held3 (λw'=>w'.cell? ⟨w.heap.size,0,none⟩=some (.bool s)/\w'.cell? ⟨w.heap.size,1,none⟩=some (.string (bs l))) (((try dsimp only);go_split_ands;(repeat' apply And.intro)<;>(first|exact True.intro|with_reducible assumption| ((with_reducible refine ij zg ?_);(repeat(with_reducible refine ij zg ?_));with_reducible assumption) |exact cell_later (by with_reducible assumption) (by with_reducible assumption) |exact aV (by with_reducible assumption) |go_keep))) (first| (go_at_call 138;(with_reducible refine(av3 l n _ hl hn).mono ?_);rintro e w1 ⟨rfl,hq⟩;have hw1:Bw W w1:=(by first|exact bo hq|exact hq|exact zn hq|exact ul hq|exact xw hq);clear hq;have mU:=ar (Hx.out.below hw1);have CX:w1.cell? ⟨w.heap.size,0,none⟩=some (.bool s):=mU.out.cell 0;have CY:w1.cell? ⟨w.heap.size,1,none⟩=some (.string (bs l)):=mU.out.cell 1;have jd:=ar (Hr.out.below hw1);have CQ:w1.cell? ⟨w.heap.size+1,0,none⟩=some (.bool false):=jd.out.cell 0;have BL:w1.frozen? ⟨w.heap.size+1,0,none⟩=false:=jd.out.free 0;have CR:w1.cell? ⟨w.heap.size+1,1,none⟩=some (.string (bs [])):=jd.out.cell 1;have BM:w1.frozen? ⟨w.heap.size+1,1,none⟩=false:=jd.out.free 1) | (go_at_call 106;(with_reducible refine(yc (nt (nv l*2^n)) s _ hlen).mono ?_);rintro e w2 ⟨rfl,hq⟩;have hw2:Bw w1 w2:=(by first|exact bo hq|exact hq|exact zn hq|exact ul hq|exact xw hq);clear hq;have Bg:=ar (mU.out.below hw2);have YU:w2.cell? ⟨w.heap.size,0,none⟩=some (.bool s):=Bg.out.cell 0;have YV:w2.cell? ⟨w.heap.size,1,none⟩=some (.string (bs l)):=Bg.out.cell 1;have ud:=ar (jd.out.below hw2);have XR:w2.cell? ⟨w.heap.size+1,0,none⟩=some (.bool false):=ud.out.cell 0;have Uh:w2.frozen? ⟨w.heap.size+1,0,none⟩=false:=ud.out.free 0;have XS:w2.cell? ⟨w.heap.size+1,1,none⟩=some (.string (bs [])):=ud.out.cell 1;have Ui:w2.frozen? ⟨w.heap.size+1,1,none⟩=false:=ud.out.free 1))
 replace Hb:=ar (aO Hb.out hw1);clear hw1;replace Hb:=ar (aO Hb.out hw2);clear hw2 x0 x1 r0 aH r1 aI;replace Hx:=Bg;clear mU CX CY YU YV;replace Hr:=ud;clear jd CQ BL CR BM XR Uh XS Ui;obtain⟨x0,x1⟩:=Hx.out.c2;obtain⟨r0,aH,r1,aI⟩:=Hr.out.g2;rw[He.out];go_wp2;exact bodyPost_ret (v:=dO (iv s l*2^n)) (by simp[results,Tryz.results103,go_sem,r0,r1]) rfl ⟨rfl,dH⟩
def Qo (n N:Int)(hN:n=N)(w:World)(h0: -9223372036854775808<=n)(h1:n<=9223372036854775807):
 Cv 78 #[ah n] w (dO N):=by
 subst hN;exact YP n w h0 h1
def iW :List (Bool×List UInt8)->Int
 |[]=>1
 |x::xs=>iv x.1 x.2*iW xs
def auc (xs ys:List (Bool×List UInt8)):iW (xs++ys)=iW xs*iW ys:=by
 induction xs with
 |nil=>simp[iW]
 |cons x xs ih=>simp[iW,ih,Int.mul_assoc]
def auf (xs:List (Bool×List UInt8))(k:Nat)(hk:k<xs.length):iW (xs.take (k+1))=iW (xs.take k) *iv xs[k].1 xs[k].2:=by rw[List.take_succ_eq_append_getElem hk,auc];simp[iW]
def rW (xs:List (Bool×List UInt8)):Nat:=(xs.map λx=>x.2.length).sum
def at1 (xs:List (Bool×List UInt8))(k:Nat):rW (xs.take k)<=rW xs:=by
 unfold rW;induction xs generalizing k with
 |nil=>simp
 | cons x xs ih=>cases k with
   |zero=>simp
   |succ k=>simp only[List.take_succ_cons,List.map_cons,List.sum_cons];have:=ih k;omega
def at0 (xs:List (Bool×List UInt8))(x)(h:x∈xs):x.2.length<=rW xs:=by
 unfold rW;induction xs with
 |nil=>simp at h
 | cons y xs ih=>
   simp at h⊢;rcases h with h|h
   . subst h;omega
   . have:=ih h;omega
def aue (xs:List (Bool×List UInt8)):(iW xs).natAbs<=256^rW xs:=by
 induction xs with
 |nil=>simp[iW,rW]
 | cons x xs ih=>
   simp only[iW,Int.natAbs_mul,pX];have h1:=ib x.2;have:rW (x::xs)=x.2.length+rW xs:=by simp[rW]
   rw[this,Nat.pow_add];exact Nat.mul_le_mul (Nat.le_of_lt h1) ih
def aud (xs:List (Bool×List UInt8))(N:Nat)(h:rW xs+1<=N):(nt (iW xs).natAbs).length<=N:=by refine kd (Nat.lt_of_le_of_lt (aue xs) ?_);exact Nat.pow_lt_pow_right zd zo
def aAh (xs:List (Bool×List UInt8))(a:Option Addr)(cap:Nat)(w:World)(hl:rW xs<=34359738368)(hx:xs.length<=1048576)
 (ha:At w a (xs.flatMap Pd)):
 Cv 62 #[.slice a xs.length cap] w (dO (iW xs)):=by
 have Hl:=ar hl;clear hl;have Ha:=ar ha;clear ha;have yz:Hid (∀k,(nt (iW (xs.take k)).natAbs).length<=68719476736):=λk=>aud _ _ (by have:=at1 xs k;have:=Hl.out;omega);obtain⟨one,hone⟩:∃one:Int,1=one:=⟨_,rfl⟩;have vA:=ar hone;clear hone;go_enter Tryz.func62,Tryz.ntmps62;have Hb:=hbz w;go_wp2_with fail;have q:=fK w 46 [aj false,.string (bs [])];first|refine cd _ q ?_|refine cw _ q ?_
 clear q;rintro W ⟨Hr,ag⟩;obtain⟨r0,aH,r1,aI⟩:=Hr.out.g2;replace Hb:=az Hb ag;go_wp2_with fail;refine(Qo 1 one vA.out _ zo zo).mono ?_;rintro e w1 ⟨rfl,ag⟩;obtain⟨Hr,r0,aH,r1,aI⟩:=bA Hr ag;replace Hb:=az Hb ag;go_wp2_with fail;refine(FD (nt one.natAbs) (aC one) _).mono ?_;rintro e w2 ⟨rfl,ag⟩;obtain⟨Hr,r0,aH,r1,aI⟩:=bA Hr ag;replace Hb:=az Hb ag;have atF:w.heap.size<w2.heap.size:=Hr.out.lt;have wm:=Hr.out.lt;go_wp2_with fail;obtain⟨R,hR⟩:∃R:World->Prop,(λW2=>au W2 (w2.heap.size) 133 [ai (nt one.natAbs),aj (aC one)]/\Bw w2 W2)=R:=⟨_,rfl⟩;first|refine cd R ?hR ?_|refine cw R ?hR ?_
 case hR=>subst hR;exact⟨(au.newAt w2 _ _ (b:=w2.heap.size) rfl),zl⟩
 subst hR;rintro W2 ⟨qs,ag⟩;have Hs:=ar qs;clear qs r0 aH r1 aI;obtain⟨Hr,r0,aH,r1,aI⟩:=bA Hr ag;obtain⟨s0,gF,s1,gG⟩:=Hs.out.g2;replace Hb:=az Hb ag
 go_loopw[5,10] (λ_ i wr=>∃(k:Nat) (t:Bool),k<=xs.length/\i=ah k/\iv t (nt (iW (xs.take k)).natAbs)=iW (xs.take k)/\au wr w.heap.size 46 [aj false,.string (bs [])]/\
  au wr w2.heap.size 133 [ai (nt (iW (xs.take k)).natAbs),aj t]/\Bw w wr) (λ_ i _=>xs.length-(intOf i).toNat)
 case atStart=>
  have e:iW (xs.take 0)=one:=by rw[<-vA.out];simp[iW]
  refine⟨0,aC one,Nat.zero_le _,rfl,?_,Hr.out,?_,Hb.out⟩
  . rw[e];exact gK one
  . rw[e];exact Hs.out
 case round=>
  obtain⟨k,t,hk,rfl,ku,qr,qs,hb⟩:=hrel;replace Hr:=ar qr;replace Hs:=ar qs;replace Hb:=ar hb;have jh:=ar ku;clear qr qs hb ku r0 r1 aH aI s0 s1 gF gG;by_cases hlt:k<xs.length
  . obtain⟨b,o,hab,hcs⟩:=(Ha.out.below Hb.out).elem (f:=Pd) (sz:=2) (λ_=>rfl) zd k hlt;have hc0:wr.cell? ⟨b,o+k*2,none⟩=some (aj xs[k].1):=hcs 0 zd;have hc1:wr.cell? ⟨b,o+k*2+1,none⟩=some (.string (bs xs[k].2)):=hcs 1 zd;have bD:=xZ xs.length cap k (k:Int) hab hlt rfl;have cn:=ar (auf xs k hlt);have mM:Hid (xs[k].2.length<=34359738368):=by have:=at0 xs _ (List.getElem_mem hlt);have:=Hl.out;show _<=_;omega
    have iA:=ar (yz.out k);clear hcs hab;generalize xs[k]=x at*;obtain⟨t1,l1⟩:=x;generalize hS:iW (xs.take k)=S at*;have HS:=ar hS;clear hS;obtain⟨r0,aH,r1,aI⟩:=Hr.out.g2;obtain⟨s0,gF,s1,gG⟩:=Hs.out.g2;have Kg:=Hr.out.lt;have Xc:=Hs.out.lt;go_wp2_with fail;obtain⟨R,hR⟩:∃R:World->Prop,(λW1=>au W1 (wr.heap.size) 46 [aj t1,ai l1]/\Bw wr W1)=R:=⟨_,rfl⟩;first|refine cd R ?hR ?_|refine cw R ?hR ?_
    case hR=>subst hR;exact⟨(au.newAt wr _ _ (b:=wr.heap.size) rfl),zl⟩
    subst hR;rintro W1 ⟨qa,ag⟩;have Ha:=ar qa;clear qa r0 aH r1 aI;obtain⟨Hr,r0,aH,r1,aI⟩:=bA Hr ag;obtain⟨Hs,s0,gF,s1,gG⟩:=bA Hs ag;obtain⟨a0,a1⟩:=Ha.out.c2;replace Hb:=az Hb ag;go_region_with (first| (go_at_call 105;refine(FD l1 t1 _).mono ?_;rintro e w3 ⟨rfl,hq⟩;have hw3:Bw W1 w3:=bo hq;clear hq;have Yb:=cell_later hw3 s0;have Ye:=cell_later hw3 s1;have arL:=(Hs.out.below hw3).free 0;have arN:=(Hs.out.below hw3).free 1) | (go_at_call 107;refine(aiV (nt S.natAbs) l1 t t1 _ iA.out (by have:=mM.out;omega)).mono ?_;rintro e w4 ⟨rfl,hw4⟩;have ayF:=cell_later hw4 Yb;have ayK:=cell_later hw4 Ye;have arM:=((Hs.out.below hw3).below hw4).free 0;have arO:=((Hs.out.below hw3).below hw4).free 1))
    all_goals
     go_wp2
     go_roundw
     case rel=>
      have hq:=agM t (nt S.natAbs) t1 l1;rw[jh.out,<-cn.out]at hq;have hq2:nv (nt S.natAbs) *nv l1=(iW (xs.take (k+1))).natAbs:=by rw[cn.out,Int.natAbs_mul,pX,jC]
      rw[hq2]at hq⊢;refine⟨k+1,_,by omega,by go_num,hq,((((Hr.out.below hw3).below hw4).aFJ ⟨w2.heap.size,0,none⟩ zp _).aFJ ⟨w2.heap.size,1,none⟩ zp _),((((Hs.out.below hw3).below hw4).set 0 _).set 1 _),?_⟩;exact((aO (aO Hb.out hw3) hw4).setCell zp _).setCell zp _
     case measure=>exact bI
  . obtain rfl:k=xs.length:=by omega
    rw[List.take_length]at Hs jh;have iA:=yz.out xs.length;rw[List.take_length]at iA;obtain⟨r0,aH,r1,aI⟩:=Hr.out.g2;obtain⟨s0,gF,s1,gG⟩:=Hs.out.g2;go_wp2_with fail;refine(yc (nt (iW xs).natAbs) t _ zo).mono ?_;rintro e w3 ⟨rfl,ag⟩;obtain⟨Hr,r0,aH,r1,aI⟩:=bA Hr ag;obtain⟨Hs,s0,gF,s1,gG⟩:=bA Hs ag;replace Hb:=az Hb ag;rw[jh.out];go_wp2;exact bodyPost_ret (v:=dO (iW xs)) (by simp[results,Tryz.results62,go_sem,r0,r1]) rfl ⟨rfl,dH⟩
def arK {w wx:World}{a:Addr}{v:Value}(hb:Bw w wx)(hc:w.cell? a=some v)(hf:w.frozen? a=false):wx.frozen? a=false:=
 (hb.frozen (World.block_lt_of_cell? w a hc)).trans hf
def ai7 (v:Nat)(h:0<v):∃m,v=2^tz v* (2*m+1):=by
 induction v using Nat.strongRecOn with
 | _ v ih=>
   by_cases he:v%2=0
   . obtain⟨u,rfl⟩:∃u,v=2*u:=⟨v/2,by omega⟩;obtain⟨m,hm⟩:=ih u zo zo;refine⟨m,?_⟩;have e:tz (2*u)=tz u+1:=by unfold tz;rw[show((2*u:Nat):Int)=2* (u:Int)by omega];exact Int.trailingZeros_two_mul zo
     rw[e,Nat.pow_succ];conv=>lhs;rw[hm]
     rw[Nat.mul_comm (2^tz u) 2,Nat.mul_assoc]
   . refine⟨v/2,?_⟩;have e:tz v=0:=by unfold tz;exact Int.trailingZeros_eq_zero_of_mod_eq zo
     rw[e];omega
def ai5 (v k:Nat)(h:0<v):tz v<k↔v%2^k≠0:=by
 obtain⟨m,hm⟩:=ai7 v h;generalize tz v=c at*;constructor
 . intro hc h0;have hd:2^k∣v:=Nat.dvd_of_mod_eq_zero h0;have hd2:2^(c+1)∣v:=Nat.dvd_trans (Nat.pow_dvd_pow 2 hc) hd;rw[hm,Nat.pow_succ]at hd2;have:=Nat.dvd_of_mul_dvd_mul_left (Nat.pow_pos zd) hd2;omega
 . intro hne;rcases Nat.lt_or_ge c k with h1|h1
   . exact h1
   . exfalso;apply hne
     rw[hm];exact Nat.mod_eq_zero_of_dvd (Nat.dvd_trans (Nat.pow_dvd_pow 2 h1) (Nat.dvd_mul_right _ _))
def av5 (v k:Nat)(h:v%2^k=0): -(v:Int)/2^k= -((v/2^k:Nat):Int):=by
 obtain⟨q,rfl⟩:=Nat.dvd_of_mod_eq_zero h;have hp:=Nat.pow_pos (n:=k) (show 0<2 by decide);rw[Nat.mul_div_cancel_left _ hp];have e: -((2^k*q:Nat):Int)=2^k* (-(q:Int)):=by simp[Int.natCast_mul,Int.natCast_pow,Int.mul_neg]
 rw[e,Int.mul_ediv_cancel_left];have:((2^k:Nat):Int)≠0:=by omega
 simpa[Int.natCast_pow]using this
def av6 (v k:Nat)(h:v%2^k≠0): -(v:Int)/2^k= -((v/2^k:Nat):Int)-1:=by
 have hp:=Nat.pow_pos (n:=k) (show 0<2 by decide);have e:=(Nat.mod_add_div v (2^k)).symm;have hr:=Nat.mod_lt v hp;rw[show((2:Int)^k)=((2^k:Nat):Int)by simp[Int.natCast_pow]];generalize v%2^k=r at*;generalize v/2^k=q at*;generalize 2^k=p at*;subst e;have e2: -((r+p*q:Nat):Int)=((p:Int)-r)+p* (-(q:Int)-1):=by rw[Int.natCast_add,Int.natCast_mul,Int.mul_sub,Int.mul_neg,Int.mul_one];omega
 rw[e2,Int.add_mul_ediv_left _ _ zo,Int.ediv_eq_zero_of_lt zo zo];omega
def awc (l:List UInt8)(k B:Nat)(hl:l.length<=B):(nt (nv l/2^k)).length<=B:=kd (Nat.lt_of_le_of_lt (Nat.div_le_self _ _) (Nat.lt_of_lt_of_le (ib l) (Nat.pow_le_pow_right zd hl)))
def ajw (s:Bool)(l:List UInt8)(k:Nat)(w:World)(hl:l.length<=34359738368)(hk:0<k)(hk2:k<=1099511627776)(hT:aM w):
 Cv 103 #[.agg #[.bool s,.string (bs l)],.int .i64 (-(k:Int))] w (dO (iv s l/2^k)):=by
 have hmax:max (-(k:Int)) (-1099511627776)= -(k:Int):=by omega
 have hlen:(nt (nv l/2^k)).length<=34359738368:=awc l k _ hl;obtain⟨Z,hZ⟩:=aK (nv l/2^k);have OP:∀W,Cv 139 #[.string (bs l),.int .i64 (k:Int)] W (.string (bs (nt Z))):=λW=>by rw[<-hZ];exact av4 l k W zo hk2
 rw[hZ]at hlen;have HZ:=ar hZ;clear hZ;have am0:=ar OP;clear OP;obtain⟨M,hM⟩:=aK (iv s (nt Z));have HM:=ar hM;clear hM;have afA:∀W,Cv 106 #[.agg #[.string (bs (nt Z)),.bool s]] W (dO M):=λW=>by have:=yc (nt Z) s W zo;rw[HM.out]at this;exact this
 have al3:=ar afA;clear afA;go_enter Tryz.func103,Tryz.ntmps103;have Hb:=hbz w;go_upto_region 4 with fail
 go_wp2_with fail;have q:=lQ w 46 [.bool s,.string (bs l)] 46 [.bool false,.string (bs [])];first|refine cd _ q ?_|refine cw _ q ?_
 clear q;rintro W ⟨Hx,Hr,ag⟩;obtain⟨x0,x1⟩:=Hx.out.c2;obtain⟨r0,aH,r1,aI⟩:=Hr.out.g2;replace Hb:=az Hb ag;go_cut[5] (λs5 wx=>∃g:Nat,s5=.pointer (some ⟨g,0,none⟩)/\w.heap.size+1<g/\au wx w.heap.size 46 [.bool s,.string (bs l)]/\au wx (w.heap.size+1) 46 [.bool false,.string (bs [])]/\au wx g 46 [.bool (aC M),.string (bs (nt M.natAbs))]/\Bw w wx);case first=>
  have hxW:w.heap.size<W.heap.size:=Hx.out.lt;have hrW:w.heap.size+1<W.heap.size:=Hr.out.lt;have hwk:IntKind.i64.wrap (k:Int)=(k:Int):=by rw[IntKind.wrap_i64];omega
  go_region_held3 (λw'=>w'.cell? ⟨w.heap.size,0,none⟩=some (.bool s)/\w'.cell? ⟨w.heap.size,1,none⟩=some (.string (bs l))) (((try dsimp only);go_split_ands;(repeat' apply And.intro)<;>(first|with_reducible assumption|exact aV (by with_reducible assumption) |exact Tz (by with_reducible assumption) |exact Tz (aV (by with_reducible assumption)) | ((with_reducible refine ij zf ?_);(repeat(with_reducible refine ij zf ?_));first|with_reducible assumption|exact aV (by with_reducible assumption) |exact Tz (by with_reducible assumption)) |go_keep))) (first| (go_at_call 139;(with_reducible refine(am0.out _).mono ?_);rintro e w1 ⟨rfl,hq⟩;(first| (have hw1:Bw W w1:=bo hq) | (have hw1:Bw W w1:=xw hq;have Gh:=ar (au.below (au.drew (au.new W 46 [.bool false,.string (bs [])])) hq);have aE2:w1.cell? ⟨W.heap.size,0,none⟩=some (.bool false):=Gh.out.cell 0;have aE3:w1.cell? ⟨W.heap.size,1,none⟩=some (.string (bs [])):=Gh.out.cell 1;have aBU:=Gh.out.free 0;have aBV:=Gh.out.free 1));clear hq;have zs1:=hw1.size;obtain⟨SH,amT⟩:=aZ (Hx.out.below hw1) (Hr.out.below hw1);have aFs:w1.cell? ⟨w.heap.size,0,none⟩=some (.bool s):=SH.out.cell 0;have aFu:w1.cell? ⟨w.heap.size,1,none⟩=some (.string (bs l)):=SH.out.cell 1) | (go_at_call 106;(with_reducible refine(al3.out _).mono ?_);rintro e w2 ⟨rfl,hq⟩;(first| (have hw2:Bw w1 w2:=hq;(try(have tZ:=ar (au.below Gh.out hq);have avN:w2.cell? ⟨W.heap.size,0,none⟩=some (.bool false):=tZ.out.cell 0;have avQ:w2.cell? ⟨W.heap.size,1,none⟩=some (.string (bs [])):=tZ.out.cell 1;have ary:=tZ.out.free 0;have arz:=tZ.out.free 1))) | (have hw2:Bw w1 w2:=ul hq;have tZ:=ar (au.below (au.new w1 46 [.bool false,.string (bs [])]) hq);have avN:w2.cell? ⟨w1.heap.size,0,none⟩=some (.bool false):=tZ.out.cell 0;have avQ:w2.cell? ⟨w1.heap.size,1,none⟩=some (.string (bs [])):=tZ.out.cell 1;have ary:=tZ.out.free 0;have arz:=tZ.out.free 1));clear hq;have zs2:=hw2.size;obtain⟨GH,Sk⟩:=aZ (SH.out.below hw2) (amT.out.below hw2);have aFt:w2.cell? ⟨w.heap.size,0,none⟩=some (.bool s):=GH.out.cell 0;have aFv:w2.cell? ⟨w.heap.size,1,none⟩=some (.string (bs l)):=GH.out.cell 1))
  all_goals(go_wp2_with fail;go_meet)
  . exact⟨w2.heap.size,rfl,by omega,GH.out.alloc _,Sk.out.alloc _,au.new _ _ _,(aO (aO Hb.out hw1) hw2).alloc zo _⟩
  . exact⟨w1.heap.size,rfl,by omega,((GH.out.aFJ ⟨w1.heap.size,0,none⟩ (by first| (dsimp only;omega) |omega| (simp<;>omega)) _).aFJ ⟨w1.heap.size,1,none⟩ (by first| (dsimp only;omega) |omega| (simp<;>omega)) _),((Sk.out.aFJ ⟨w1.heap.size,0,none⟩ (by first| (dsimp only;omega) |omega| (simp<;>omega)) _).aFJ ⟨w1.heap.size,1,none⟩ (by first| (dsimp only;omega) |omega| (simp<;>omega)) _),((tZ.out.set 0 _).set 1 _),((aO (aO Hb.out hw1) hw2).setCell (by first| (dsimp only;omega) |omega| (simp<;>omega)) _).setCell (by first| (dsimp only;omega) |omega| (simp<;>omega)) _⟩
  . exact⟨W.heap.size,rfl,hrW,((GH.out.aFJ ⟨W.heap.size,0,none⟩ (by first| (dsimp only;omega) |omega| (simp<;>omega)) _).aFJ ⟨W.heap.size,1,none⟩ (by first| (dsimp only;omega) |omega| (simp<;>omega)) _),((Sk.out.aFJ ⟨W.heap.size,0,none⟩ (by first| (dsimp only;omega) |omega| (simp<;>omega)) _).aFJ ⟨W.heap.size,1,none⟩ (by first| (dsimp only;omega) |omega| (simp<;>omega)) _),((tZ.out.set 0 _).set 1 _),((aO (aO Hb.out hw1) hw2).setCell (by first| (dsimp only;omega) |omega| (simp<;>omega)) _).setCell (by first| (dsimp only;omega) |omega| (simp<;>omega)) _⟩
 case rest=>
  obtain⟨g,rfl,hg,qx,qr,qn,qb⟩:=hcut;replace Hx:=ar qx;replace Hr:=ar qr;have Hn:=ar qn;replace Hb:=ar qb;clear qx qr qn qb x0 x1 r0 r1 aH aI;cases s
  . obtain ⟨x0,x1⟩:=Hx.out.c2;obtain⟨r0,aH,r1,aI⟩:=Hr.out.g2;obtain⟨n0,n1⟩:=Hn.out.c2;have iE:Hid (iv false l/2^k=M):=by
     show _=_
     rw[<-HM.out,<-HZ.out,pY];unfold iv;simp[Int.natCast_pow]
    go_wp2;exact bodyPost_ret (v:=dO M) (by simp[results,Tryz.results103,go_sem,r0,r1]) rfl ⟨by rw[iE.out],dH⟩
  . obtain⟨x0,x1⟩:=Hx.out.c2;obtain⟨r0,aH,r1,aI⟩:=Hr.out.g2;obtain⟨n0,n1⟩:=Hn.out.c2;have sB:Hid (l.length<=68719476736):=by show _<=_;omega
    by_cases h0:nv l=0
    . have hb0:bT (nv l)=0:=by rw[h0];rfl
      have iE:Hid (iv true l/2^k=M):=by
       show _=_
       rw[<-HM.out,<-HZ.out,pY,h0];unfold iv;simp[h0]
      have sA:=ar hb0;clear hb0;go_wp2_with fail;refine(Xm l _ sB.out).mono ?_;rintro e w3 ⟨rfl,ag⟩;obtain⟨Hx,x0,x1⟩:=bi Hx ag;obtain⟨Hr,r0,aH,r1,aI⟩:=bA Hr ag;obtain⟨Hn,n0,n1⟩:=bi Hn ag;replace Hb:=az Hb ag;rw[sA.out];go_wp2;exact bodyPost_ret (v:=dO M) (by simp[results,Tryz.results103,go_sem,r0,r1]) rfl ⟨by rw[iE.out],dH⟩
    . have hbp:0<bT (nv l):=GV zo;have FP:Hid (aM wc):=hT.below Hb.out;by_cases hz:tz (nv l)<k
      . have iE:Hid (iv true l/2^k=M-1):=by
         show _=_
         rw[<-HM.out,<-HZ.out,pY];have:=(ai5 (nv l) k zo).1 hz;unfold iv;simp only[if_true];exact av6 _ _ this
        have HMl:Hid ((nt M.natAbs).length<=34359738368):=by show _<=_;rw[<-HM.out,pX,jC];exact hlen
        obtain⟨one,hone⟩:∃one:Int,1=one:=⟨_,rfl⟩;have Hol:Hid ((nt one.natAbs).length<=34359738368):=by show _<=_;rw[<-hone];exact Nat.le_trans (kd (k:=1) zd) zd
        have vA:=ar hone;clear hone;have am4:Hid (iv (aC M) (nt M.natAbs)-iv (aC one) (nt one.natAbs)=M-1):=by show _=_;rw[gK,gK,<-vA.out]
        go_wp2_with fail;refine(Xm l _ sB.out).mono ?_;rintro e w3 ⟨rfl,ag⟩;obtain⟨Hx,x0,x1⟩:=bi Hx ag;obtain⟨Hr,r0,aH,r1,aI⟩:=bA Hr ag;obtain⟨Hn,n0,n1⟩:=bi Hn ag;replace Hb:=az Hb ag;replace FP:=ar (hT.below Hb.out);go_wp2_with fail;refine(Xn l _ sB.out FP.out).mono ?_;rintro e w4 ⟨rfl,ag⟩;obtain⟨Hx,x0,x1⟩:=bi Hx ag;obtain⟨Hr,r0,aH,r1,aI⟩:=bA Hr ag;obtain⟨Hn,n0,n1⟩:=bi Hn ag;replace Hb:=az Hb ag;go_wp2_with fail;have nen:g≠w.heap.size+1:=by omega
        go_region_held3 (λw'=>w'.cell? ⟨g,0,none⟩=some (.bool (aC M))/\w'.cell? ⟨g,1,none⟩=some (.string (bs (nt M.natAbs)))) (((try dsimp only);go_split_ands;(repeat' apply And.intro)<;>(first|exact True.intro|with_reducible assumption| ((with_reducible refine ij zg ?_);(repeat(with_reducible refine ij zg ?_));with_reducible assumption) |exact cell_later (by with_reducible assumption) (by with_reducible assumption) |exact aV (by with_reducible assumption) |go_keep))) (first| (go_at_call 78;(with_reducible refine(Qo 1 one vA.out _ zo zo).mono ?_);rintro e w5 ⟨rfl,hq⟩;have xX:Bw w4 w5:=(by first|exact bo hq|exact hq|exact zn hq|exact ul hq|exact xw hq);clear hq;obtain⟨abx,DC⟩:=aZ (Hx.out.below xX) (Hr.out.below xX);have axM:w5.cell? ⟨w.heap.size+1,0,none⟩=some (.bool false):=DC.out.cell 0;have arF:w5.frozen? ⟨w.heap.size+1,0,none⟩=false:=DC.out.free 0;have axO:w5.cell? ⟨w.heap.size+1,1,none⟩=some (.string (bs [])):=DC.out.cell 1;have arH:w5.frozen? ⟨w.heap.size+1,1,none⟩=false:=DC.out.free 1;have LZ:=ar (Hn.out.below xX);have avO:w5.cell? ⟨g,0,none⟩=some (.bool (aC M)):=LZ.out.cell 0;have avR:w5.cell? ⟨g,1,none⟩=some (.string (bs (nt M.natAbs))):=LZ.out.cell 1) | (go_at_call 141;(with_reducible refine(ajx (aC M) (nt M.natAbs) (aC one) (nt one.natAbs) _ HMl.out Hol.out).mono ?_);rintro e w6 ⟨rfl,hq⟩;have xY:Bw w5 w6:=(by first|exact bo hq|exact hq|exact zn hq|exact ul hq|exact xw hq);clear hq;obtain⟨ans,Gv⟩:=aZ (abx.out.below xY) (DC.out.below xY);have axN:w6.cell? ⟨w.heap.size+1,0,none⟩=some (.bool false):=Gv.out.cell 0;have arG:w6.frozen? ⟨w.heap.size+1,0,none⟩=false:=Gv.out.free 0;have axP:w6.cell? ⟨w.heap.size+1,1,none⟩=some (.string (bs [])):=Gv.out.cell 1;have arI:w6.frozen? ⟨w.heap.size+1,1,none⟩=false:=Gv.out.free 1;have RP:=ar (LZ.out.below xY);have avP:w6.cell? ⟨g,0,none⟩=some (.bool (aC M)):=RP.out.cell 0;have avS:w6.cell? ⟨g,1,none⟩=some (.string (bs (nt M.natAbs))):=RP.out.cell 1))
        replace Hb:=ar (aO Hb.out xX);clear xX;replace Hb:=ar (aO Hb.out xY);clear xY x0 x1 r0 aH r1 aI n0 n1;replace Hx:=ans;clear abx;replace Hr:=Gv;clear DC axM arF axO arH axN arG axP arI;replace Hn:=RP;clear LZ avO avR avP avS;obtain⟨x0,x1⟩:=Hx.out.c2;obtain⟨r0,aH,r1,aI⟩:=Hr.out.g2;obtain⟨n0,n1⟩:=Hn.out.c2;rw[am4.out];go_wp2;exact bodyPost_ret (v:=dO (M-1)) (by simp[results,Tryz.results103,go_sem,r0,r1]) rfl ⟨by rw[iE.out],dH⟩
      . have iE:Hid (iv true l/2^k=M):=by
         show _=_
         rw[<-HM.out,<-HZ.out,pY];have h2:nv l%2^k=0:=by
          rcases Nat.eq_zero_or_pos (nv l%2^k)with h|h
          . exact h
          . exact absurd ((ai5 (nv l) k zo).2 zo) hz
         unfold iv;simp only[if_true];exact av5 _ _ h2
        go_wp2_with fail;refine(Xm l _ sB.out).mono ?_;rintro e w3 ⟨rfl,ag⟩;obtain⟨Hx,x0,x1⟩:=bi Hx ag;obtain⟨Hr,r0,aH,r1,aI⟩:=bA Hr ag;obtain⟨Hn,n0,n1⟩:=bi Hn ag;replace Hb:=az Hb ag;replace FP:=ar (hT.below Hb.out);go_wp2_with fail;refine(Xn l _ sB.out FP.out).mono ?_;rintro e w4 ⟨rfl,ag⟩;obtain⟨Hx,x0,x1⟩:=bi Hx ag;obtain⟨Hr,r0,aH,r1,aI⟩:=bA Hr ag;obtain⟨Hn,n0,n1⟩:=bi Hn ag;replace Hb:=az Hb ag;go_wp2;exact bodyPost_ret (v:=dO M) (by simp[results,Tryz.results103,go_sem,r0,r1]) rfl ⟨by rw[iE.out],dH⟩
end Go.Proofs.YtnjfebkelecgaaaGreatDoor
