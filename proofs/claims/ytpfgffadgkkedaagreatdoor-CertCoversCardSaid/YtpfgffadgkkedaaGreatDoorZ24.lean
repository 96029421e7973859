/- Package calc: Eval. -/
import Derived.Test.YtpfgffadgkkedaaGreatDoorZ7
import Derived.Test.YtpfgffadgkkedaaGreatDoorZ15
import Derived.Test.YtpfgffadgkkedaaGreatDoorZ16
import Derived.Lib.OthersKept
import Derived.Test.YtpfgffadgkkedaaGreatDoorZ20
import Derived.Test.YtpfgffadgkkedaaGreatDoorZ9
import Derived.Test.YtpfgffadgkkedaaGreatDoorZ19
import Derived.Test.YtpfgffadgkkedaaGreatDoorZ12
import Derived.Test.YtpfgffadgkkedaaGreatDoorZ22
set_option linter.all false
set_option maxRecDepth 100000
set_option maxHeartbeats 16000000
namespace Go.Proofs.YtpfgffadgkkedaaGreatDoor
open Go.RowKit
attribute [local go_sem ↓] Go.wp_at_zero Go.wp_at_succ
end Go.Proofs.YtpfgffadgkkedaaGreatDoor
namespace Go.Proofs.YtpfgffadgkkedaaGreatDoor
def Au (X:Nat->Dyadic)(n:Nat)(c:Dyadic)(l:Nat->Dyadic)(k:Nat)(hk:k<=n):bG (fh X n) (cZ n c l k)=c+dF (λb=>l b*X b) k:=by
 unfold cZ;rw[yf];induction k with
 | zero=>
   show dval (canon c) *jB X 1 (lF n) n+0=c+dF _ 0
   rw[bu,ar3];show c*1+0=c+0;grind
 | succ k ih=>
   rw[Ug,Ar,ih zo];show _+(dval (canon (l k)) *jB X 1 (cB n k) n+0)=_
   rw[bu,aeB X n k n (Nat.le_refl _) zo,if_pos zo];show c+dF _ k+(l k*X k+0)=c+(dF _ k+l k*X k)
   grind
def Ro (n:Nat)(hn:1<=n)(aS:n<=4)(P:Nat->Nat->Dyadic)(X:Nat->Dyadic)(j:Nat)(hj:j<=n):Gg X n (jL n P n j) (jL n P n j).length=fK n P X j:=by
 rw[LC X n _ _ (Nat.le_refl _),List.take_length];unfold jL;by_cases h:j=0
 . subst h;rw[if_pos rfl];unfold ma;rw[Au X n _ _ n (Nat.le_refl _),<-awp n hn aS P X n (Nat.le_refl _),VT n hn aS]
 . rw[if_neg h];unfold pu;rw[Au X n _ _ n (Nat.le_refl _)];have h1:=agi n P X (j-1) n;have h2:=Ev n hn aS P X (j-1) zo;rw[show j-1+1=j by omega]at h2;rw[<-h2,h1];rfl
end Go.Proofs.YtpfgffadgkkedaaGreatDoor
namespace Go.Proofs.YtpfgffadgkkedaaGreatDoor
open Go.RowKit
attribute [local go_sem ↓] Go.wp_at_zero Go.wp_at_succ
def cC (S:Nat->Bool):Nat->List Nat
 |0=>[0]
 |i+1=>if S i then(cC S i).dropLast++[(cC S i).getLastD 0+1,(cC S i).getLastD 0+1]else(cC S i).dropLast
def pC (S:Nat->Bool)(n:Nat):Bool:=decide (n<=4096)&&((List.range n).all (λi=>decide (cC S i≠[]))&&decide (cC S n=[]))
def aww {S:Nat->Bool}{n:Nat}(h0:n<=4096)(h1:∀i,i<n->cC S i≠[])(h2:cC S n=[]):pC S n=true:=by unfold pC;simp only[Bool.and_eq_true,decide_eq_true_eq,List.all_eq_true,List.mem_range];exact⟨h0,h1,h2⟩
def VW {S:Nat->Bool}{n:Nat}(h:pC S n=true):n<=4096/\(∀i,i<n->cC S i≠[])/\cC S n=[]:=by unfold pC at h;simp only[Bool.and_eq_true,decide_eq_true_eq,List.all_eq_true,List.mem_range]at h;exact h
def awv {S:Nat->Bool}{n:Nat}(h:4096<n\/(∃i,i<n/\cC S i=[])\/cC S n≠[]):pC S n=false:=by
 rw[Bool.eq_false_iff];intro h2;obtain⟨h3,h4,h5⟩:=VW h2;rcases h with h|⟨i,h6,h7⟩ |h
 . omega
 . exact h4 i h6 h7
 . exact h h5
def Lj (S:Nat->Bool)(i:Nat):(cC S i).length<=i+1/\(∀d∈cC S i,d<=i)/\(cC S i).getLastD 0<=i:=by
 induction i with
 |zero=>exact⟨Nat.le_refl _,λd hd=>by simp[cC]at hd;omega,Nat.le_refl _⟩
 | succ i ih=>
   obtain⟨h1,h2,h3⟩:=ih;have hm:(cC S (i+1)).length<=i+1+1/\∀d∈cC S (i+1),d<=i+1:=by
    rw[cC];split
    . refine⟨by simp;omega,λd hd=>?_⟩;rw[List.mem_append]at hd;rcases hd with hd|hd
      . have:=h2 d (List.dropLast_subset _ hd);omega
      . simp only[List.mem_cons,List.not_mem_nil,or_false,or_self]at hd;omega
    . exact⟨by simp;omega,λd hd=>by have:=h2 d (List.dropLast_subset _ hd);omega⟩
   refine⟨hm.1,hm.2,?_⟩;rw[List.getLastD_eq_getLast?];cases hg:(cC S (i+1)).getLast? with
   |none=>simp
   |some d=>exact hm.2 d (List.mem_of_getLast? hg)
def pP (l:List Nat):List Value:=l.map λd:Nat=>af (d:Int)
def am6 {l:List Nat}{L:Nat}(hl:l.length=L+1):(pP l)[L]?=some (af (l.getLastD 0:Nat)):=by
 have e:l.getLastD 0=l[L]'zo:=by
  have e0:l.length-1=L:=by omega
  rw[List.getLastD_eq_getLast?,List.getLast?_eq_getElem?,e0,List.getElem?_eq_getElem zo];rfl
 rw[e];unfold pP;rw[List.getElem?_map,List.getElem?_eq_getElem zo];rfl
def am5 {l:List Nat}{L:Nat}(hl:l.length=L+1):(pP l).take (L*1)=pP l.dropLast:=by unfold pP;rw[Nat.mul_one,<-List.map_take,List.dropLast_eq_take,hl,Nat.add_sub_cancel]
def KW (N:Nat)(w w':World):Prop:=Chg (λb=>N<=b/\∃cur,w.heap[b]?=some (.cells cur 3)) w w'
def DW (N:Nat)(w w':World):Prop:=Chg (λb=>¬(N<=b/\((∃cur,w.heap[b]?=some (.cells cur 3))\/∃cur,w.heap[b]?=some (.cells cur 127)))) w w'
def KW.of_below {N:Nat}{w w':World}(h:Bw w w'):KW N w w':=Chg.of_below h
def KW.trans {N:Nat}{A B C:World}(h:KW N A B)(k:KW N B C):KW N A C:=by
 refine Chg.trans h k ?_;rintro b ⟨h1,cur,h2⟩;by_cases hb:b<A.heap.size
 . by_cases hy:N<=b/\∃cur,A.heap[b]?=some (.cells cur 3)
   . exact .inl hy
   . rw[Chg.block h b hb hy]at h2;exact .inl ⟨h1,cur,h2⟩
 . exact .inr zo
def KW.azY {N n:Nat}{w w':World}{v:Value}{xs:List Value}(h:w.ownsRow N 3 1 v n xs)(hg:w.grownBy w' v.ownBlock):KW N w w':=
 Chg.az8 hg λb hb=>by obtain⟨cur,t,h1,rfl⟩:=vt h b hb;exact⟨cE h b hb,cur,h1⟩
def DW.own {N n:Nat}{w w':World}{v:Value}{xs:List Value}(h:w.ownsRow N 3 1 v n xs)(k:DW N w w'):w'.ownsRow N 3 1 v n xs:=
 UI h k λb hb hy=>by obtain⟨cur,t,h1,rfl⟩:=vt h b hb;exact hy ⟨cE h b hb,.inl ⟨cur,h1⟩⟩
def DW.node {N b:Nat}{w w':World}{cs:List Value}(h:ar w b 127 cs)(hb:N<=b)(k:DW N w w'):ar w' b 127 cs:=
 Chg.blk k h λhy=>hy ⟨hb,.inr ⟨_,h⟩⟩
def YE (R:Nat->World->Prop)(n:Nat)(F:Bool)(e:Ending)(w':World):Prop:=e=.returned (ag F)/\(F=true->R n w')/\∃i,R i w'
def agk (S:Nat->Bool)(ns:List Nd)(n cap:Nat)(a:Option Addr)(gf:Nat)(lb:Array Value)(R:Nat->World->Prop)(w:World)(hn:ns.length=n)(hS:∀k (h:k<ns.length),S k=(ns[k].sp !=0))
 (hAt:∀i W,R i W->At W a (ns.flatMap mF))
 (hR:∀i W W',R i W->KW w.heap.size W W'->R i W')
 (eg:∀args w,(callFunc gf args).run Tryz.prog w=.ok (.enter gf args) w)
 (hdo:n<=4096->∀i,i<n->cC S i≠[]->∀W,w.heap.size<=W.heap.size->R i W->Cl gf (#[af (i:Int),af ((cC S i).getLastD 0:Nat)]++lb) W λe w'=>e=.returned (ag true)/\R (i+1) w'/\DW w.heap.size W w')
 (h0:R 0 w):
 Cl 94 #[.slice a n cap,.func (.func gf) #[] lb] w (YE R n (pC S n)):=by
 obtain⟨i0,hi,hz0,hz1,hz2⟩:=info_parts (show(Tryz.prog.info? 3).map (λi=>(i.zero,i.size,i.bytes))=some (some (af 0),1,8)by kernel_rfl);obtain⟨Hi,cu,bV,bX,Hn,HS,HAt,HR,lL,Ke,H0⟩:=ad7 hi hz0 hz1 hz2 hn hS hAt hR eg hdo h0;clear hi hz0 hz1 hz2 hn hS hAt hR eg hdo h0;obtain⟨F,hF⟩:=au (pC S n);have nQ:Hid ((4096<n\/(∃i,i<n/\cC S i=[])\/cC S n≠[])->F=false):=λh=>by rw[<-hF];exact awv h
 have Ae:Hid (n<=4096->(∀i,i<n->cC S i≠[])->cC S n=[]->F=true):=λh1 h2 h3=>by rw[<-hF];exact aww h1 h2 h3
 rw[hF];clear hF;have Hb:=hbz w;by_cases g:4096<n
 . have gi:(4096:Int)<(n:Int):=by omega
   obtain rfl:=nQ.out (.inl g);go_enter Tryz.func94,Tryz.ntmps94;go_wp2;refine bodyPost_ret (results_tmp rfl _ _ _) rfl ⟨rfl,λh=>(by cases h),0,H0.out⟩
 have gi:¬(4096:Int)<(n:Int):=by omega
 go_enter Tryz.func94,Tryz.ntmps94;obtain⟨W,cd,aG,ae,ai⟩:=bO w (Hb.an trivial) 3 [af 0];have hW0:=HR.out 0 w W H0.out (KW.of_below ae.2.1.out);have ho0:=Jh (base:=w.heap.size) (n:=1) (size:=1) ae.1.out (Nat.le_refl _) rfl zd;have adl:=ae.2.1.out.size;clear ae;go_wp2_with fail;go_loopw[5,15] (λs5 x wr=>∃(k:Nat) (v:Value),k<=n/\x=af (k:Int)/\v=s5/\wr.ownsRow w.heap.size 3 1 v (cC S k).length (pP (cC S k))/\(∀j,j<k->cC S j≠[])/\R k wr/\w.heap.size<=wr.heap.size) (λ_ x _=>n-(intOf x).toNat);case atStart=>exact⟨0,_,Nat.zero_le _,rfl,rfl,ho0,λj h=>absurd h (Nat.not_lt_zero _),hW0,adl⟩
 case round=>
  clear hW0 ho0 adl;obtain⟨k,v,hk,rfl,rfl,ho,hne,hr,hsz⟩:=hrel;obtain⟨Ho,pJ,Hr⟩:=bM ho hne hr;clear ho hne hr;by_cases hlt:k<n
  . have ez:k<ns.length:=by rw[Hn.out];exact hlt
    obtain⟨sp,s,m,e,V,a1,n1,c1,hx⟩:∃sp s m e V a1 n1 c1,ns[k]=⟨sp,(s,m,e),V,a1,n1,c1⟩:=⟨_,_,_,_,_,_,_,_,rfl⟩;obtain⟨b,o,hab,hp⟩:=(HAt.out k wr Hr.out).node k ez hx;have oP:=HS.out k ez;rw[hx]at oP;have vK:Hid (S k=(sp !=0)):=oP;have aX:=IY n cap k (k:Int) hab hlt rfl;have Hp:=aj hp;have hle:=Lj S k;have sF:=aj hle;clear hp hx hab oP hle;by_cases hD0:cC S k=[]
    . obtain rfl:=nQ.out (.inr (.inl ⟨k,hlt,hD0⟩));have jQ:=Ho.out;rw[hD0]at jQ;obtain⟨a5,c5,rfl,_,_⟩:=cw jQ;simp only[List.length_nil]at Ho;clear jQ Ho;have Hb:=hbz wr;obtain⟨ae,ai⟩:=qZ (Hp.an trivial);go_wp2;refine bodyPost_ret (results_tmp rfl _ _ _) rfl ⟨rfl,λh=>(by cases h),k,HR.out k wr _ Hr.out (KW.of_below zl)⟩
    . obtain⟨L,hL⟩:∃L,(cC S k).length=L+1:=⟨(cC S k).length-1,by have:=List.length_pos_iff.2 hD0;omega⟩;have xL:=Ho;rw[hL]at xL;have hlast:=am6 hL;have hdrop:=am5 hL;have hst:cC S (k+1)=if S k then(cC S k).dropLast++[(cC S k).getLastD 0+1,(cC S k).getLastD 0+1]else(cC S k).dropLast:=by rw[cC]
      have Io:∀j,j<k+1->cC S j≠[]:=λj hj=>by
       by_cases hjk:j=k
       . rw[hjk];exact hD0
       . exact pJ.out j zo
      have hll:(cC S k).dropLast.length=L:=by rw[List.length_dropLast,hL,Nat.add_sub_cancel]
      have tK:=sF.out.2.2;have hLk:L+1<=k+1:=by rw[<-hL];exact sF.out.1
      have abP:=λW hW hr=>Ke.out zo k hlt hD0 W hW hr;have SY:L<(pP (cC S k)).length:=by unfold pP;rw[List.length_map,hL];omega
      generalize (cC S k).getLastD 0=d at*;generalize LQ:(cC S k).dropLast=DL at*;obtain⟨g5,c5,rfl,iR,hgW,hLc⟩:=ui xL.out (Nat.succ_pos L);have hcm:c5<=9223372036854775807:=by
       rcases xL.out.2 with⟨h1,_⟩ |⟨g',cap',cur,h1,hb,hg,h4,h5,_⟩
       . simp at h1
       . simp only[Value.slice.injEq]at h1;obtain⟨_,_,rfl⟩:=h1;unfold maxLen at h5;omega
      have hcl:=mH xL.out L SY;rw[List.getElem?_eq_getElem SY]at hlast;rw[Option.some.inj hlast]at hcl;have apJ:=IX (L+1) c5 L (L:Int) (rfl:(some ⟨g5,0,none⟩:Option Addr)=_) zo rfl;simp only[Nat.mul_one,Nat.zero_add]at apJ;have MP:IntKind.i64.wrap ((L:Int)+1-1)=(L:Int):=by rw[IntKind.wrap_i64];omega
      have aqn:IntKind.i64.wrap (L:Int)=(L:Int):=by rw[IntKind.wrap_i64];omega
      have hwd:IntKind.i64.wrap ((d:Int)+1)=(d:Int)+1:=by rw[IntKind.wrap_i64];omega
      have pS:((L:Int)+1==0)=false:=by simp;omega
      have Hy:Hid (aQ wr g5 L [af (d:Int)]):=λj hj=>by
       obtain rfl:j=0:=by simp at hj;omega
       exact hcl
      obtain⟨ahE,bN,XO,Ki,ahW⟩:=eD abP hst Io hll hdrop;have pG:=lL.out;clear abP hst Io hll hlast hdrop SY Ho LQ hL hD0 hcl;have Hb:=hbz wr;obtain⟨ae,ai⟩:=qZ (Hp.an<|Hy.an trivial);have aG:=qL (Hb.an ae);go_wp2_with fail;refine cF wr (Hb.an ae) 127 [af sp,ag s,ah m,af e,af V,.slice a1 n1 c1] λW4 aG ae ai=>?_;have zY:=aj (HR.out k wr W4 Hr.out (KW.of_below ae.2.1.out));have jQ:=ownsRow_below xL.out ae.2.1.out;have qw:=Ni jQ L zo;rw[ahW.out]at qw;have Fj:=aj qw;have Yo:=ae.1;have TD:=ae.2.1.out.size;clear qw jQ xL;go_wp2_with fail;refine(ahE.out W4 zo zY.out).mono ?_;rintro e9 w5 ⟨rfl,DJ,Mi⟩;have acS:=DW.own Fj.out Mi;have ML:=DW.node Yo.out zo Mi;have hs5:=Mi.size;obtain⟨Ct,XT,Hu⟩:=bM DJ acS ML;clear DJ Mi acS ML Fj Yo ae ai;have Hb:=hbz w5;obtain⟨ae,ai⟩:=qZ (Hu.an trivial);by_cases hsp:sp=0
      . have gu:(sp==0)=true:=by simpa using hsp
        have MI:(sp !=0)=false:=by simpa using hsp
        have hst:=bN.out;rw[vK.out,MI,if_neg zd]at hst;have mO:=aj hst;clear hst;go_wp2;go_roundw;case rel=>exact⟨k+1,_,by omega,by go_num,rfl,by rw[mO.out,Ki.out];exact XT.out,XO.out,Ct.out,by omega⟩
        case measure=>exact bi
      . have gu:(sp==0)=false:=by simpa using hsp
        have MI:(sp !=0)=true:=by simpa using hsp
        have hst:=bN.out;rw[vK.out,MI,if_pos rfl]at hst;have mO:=aj hst;clear hst;obtain⟨W7,AB,aG,ae,ai⟩:=bO w5 (Hb.an ae) 3 [af ((d:Int)+1),af ((d:Int)+1)];have cf:=ownsRow_below XT.out ae.2.1.out;have jS:=ae.2.1.out.size;have hnews:=fM ae.1.out;have IG:=HR.out (k+1) w5 W7 Ct.out (KW.of_below ae.2.1.out);go_wp2_with (at_builtin;refine wpList_append_own_at _ rfl _ _ 28 rfl w.heap.size 3 i0 _ 1 8 Tryz.underlying28 Hi.out cu.out bV.out bX.out rfl zd (.slice (some ⟨g5,0,none⟩) L c5) L (pP DL) rfl cf ⟨w5.heap.size,0,none⟩ 2 2 [af ((d:Int)+1),af ((d:Int)+1)] rfl rfl hnews zy zx zo zo ?_;intro v' w8 dO bA _ _);have hr8:=HR.out (k+1) W7 w8 IG (KW.azY cf bA);have IH:=bA.size;have fC:w8.ownsRow w.heap.size 3 1 v' (cC S (k+1)).length (pP (cC S (k+1))):=by
         rw[mO.out,List.length_append,Ki.out];have e9:pP (DL++[d+1,d+1])=pP DL++[af ((d:Int)+1),af ((d:Int)+1)]:=by unfold pP;rw[List.map_append];simp
         rw[e9];exact dO
        obtain⟨zZ,Cr⟩:=aH hr8 fC;clear cf hnews IG dO bA hr8 fC;go_wp2;go_roundw;case rel=>exact⟨k+1,_,by omega,by go_num,rfl,Cr.out,XO.out,zZ.out,by omega⟩
        case measure=>exact bi
  . obtain rfl:k=n:=by omega
    by_cases hD0:cC S k=[]
    . obtain rfl:=Ae.out zo pJ.out hD0;have jQ:=Ho.out;rw[hD0]at jQ;obtain⟨a5,c5,rfl,_,_⟩:=cw jQ;clear jQ;go_wp2;refine bodyPost_ret (results_tmp rfl _ _ _) rfl ⟨rfl,λ_=>Hr.out,k,Hr.out⟩
    . obtain rfl:=nQ.out (.inr (.inr hD0));obtain⟨L,hL⟩:∃L,(cC S k).length=L+1:=⟨(cC S k).length-1,by have:=List.length_pos_iff.2 hD0;omega⟩;have jQ:=Ho.out;rw[hL]at jQ;obtain⟨a5,c5,rfl,_,_⟩:=cw jQ;have pS:((L:Int)+1==0)=false:=by simp;omega
      clear jQ;go_wp2;refine bodyPost_ret (results_tmp rfl _ _ _) rfl ⟨rfl,λh=>(by cases h),k,Hr.out⟩
end Go.Proofs.YtpfgffadgkkedaaGreatDoor
