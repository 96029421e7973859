/- ogeelaw21: far,vast,heavy. -/
import Derived.Test.YtpfgffadgkkedaaGreatDoorZ7
import Derived.Test.YtpfgffadgkkedaaGreatDoorZ11
import Derived.Test.YtpfgffadgkkedaaGreatDoorZ14
import Derived.Test.YtpfgffadgkkedaaGreatDoorZ22
set_option linter.all false
set_option maxRecDepth 100000
set_option maxHeartbeats 16000000
namespace Go.Proofs.YtpfgffadgkkedaaGreatDoor
open Go.RowKit
attribute [local go_sem ↓] Go.wp_at_zero Go.wp_at_succ
def okL (x:Raw):Prop:=x.2.1.length<=8/\ -60<=x.2.2/\x.2.2<=60
def JE {x:Raw}(h:okL x):Fit 192 x:=by obtain⟨h1,h2,h3⟩:=h;exact⟨⟨by omega,by omega,by omega⟩,Sm.raw (B:=96) zo zo zo⟩
def Gj {α:Type}{cX:List α}{Q:α->Prop}{k:Nat}(hk:k<cX.length)(h:∀x∈cX.take k,Q x)(hx:Q cX[k]):∀x∈cX.take (k+1),Q x:=by
 intro x hm;rw[List.take_succ_eq_append_getElem hk,List.mem_append]at hm;rcases hm with hm|hm
 . exact h x hm
 . simp at hm;rw[hm];exact hx
def Mt (Q:Prop)(e:Ending):Prop:=∃b,e=.returned (ag b)/\(b=false->Q)
def GP (s:Bool)(m:List UInt8)(e:Int)(w:World):
 Cl 42 #[.agg #[ag s,ah m,af e]] w λe' w'=>Mt (okL (s,m,e)) e'/\Bw w w':=by
 have hsz:(bs m).size=m.length:=jh m;have Hb:=hbz w;by_cases g:m.length<=8/\ -60<=e/\e<=60
 . have Hg:Hid (okL (s,m,e)):=g;obtain⟨g1,g2,g3⟩:=g;have g4:¬(8:Int)<(m.length:Int):=by omega
   have g5:¬e< -60:=by omega
   have g6:¬60<e:=by omega
   obtain⟨W,bX,ae,ai⟩:=fy w 45 [ag s,ah m,af e];go_enter Tryz.func42,Tryz.ntmps42;go_wp2;refine bodyPost_ret (results_tmp rfl _ _ _) rfl ⟨⟨false,rfl,λ_=>Hg.out⟩,ae.1.out⟩
 . rcases (show(8:Int)<(m.length:Int)\/(¬(8:Int)<(m.length:Int)/\e< -60)\/(¬(8:Int)<(m.length:Int)/\¬e< -60/\60<e)by omega)with g1|⟨g1,g2⟩ |⟨g1,g2,g3⟩;all_goals
    clear g
    obtain⟨W,bX,ae,ai⟩:=fy w 45 [ag s,ah m,af e]
    go_enter Tryz.func42,Tryz.ntmps42
    go_wp2
    refine bodyPost_ret (results_tmp rfl _ _ _) rfl ⟨⟨true,rfl,λh=>by cases h⟩,ae.1.out⟩
structure NotVastD (bx:List (Raw×Raw))(rows:List (List Raw)):Prop where
 few:bx.length<=4\/7<=bx.length/\bx.length<=20
 five:rows.length<=5
 box:∀s∈bx,okL s.1/\okL s.2
 row:∀r∈rows,r.length<=8/\∀x∈r,okL x
def asK (bx:List (Raw×Raw))(rows:List (List Raw))(n L:Nat)(a a':Option Addr)(cap cap':Nat)(w:World)(hn:bx.length=n)(hL:rows.length=L)(hb:At w a (bx.flatMap fA))(ha:cC w a' rows):
 Cl 23 #[.agg #[.slice a n cap,.slice a' L cap']] w λe w'=>Mt (NotVastD bx rows) e/\Bw w w':=by
 obtain⟨Ha,HL,HB,Hn⟩:=bU ha hL hb hn;clear ha hL hb hn;have Hb:=hbz w;by_cases g:4<n/\n<7\/20<n\/5<L
 . rcases (show((4:Int)<(n:Int)/\(n:Int)<7)\/((4:Int)<(n:Int)/\¬(n:Int)<7/\(20:Int)<(n:Int))\/((4:Int)<(n:Int)/\¬(n:Int)<7/\¬(20:Int)<(n:Int)/\(5:Int)<(L:Int))\/(¬(4:Int)<(n:Int)/\¬(20:Int)<(n:Int)/\(5:Int)<(L:Int))by omega)with⟨g1,g2⟩ |⟨g1,g2,g3⟩ |⟨g1,g2,g3,g4⟩ |⟨g1,g3,g4⟩;all_goals
    clear g
    obtain⟨W,bX,ae,ai⟩:=fy w 27 [.slice a n cap,.slice a' L cap']
    go_enter Tryz.func23,Tryz.ntmps23
    go_wp2
    refine bodyPost_ret (results_tmp rfl _ _ _) rfl ⟨⟨true,rfl,λh=>by cases h⟩,ae.1.out⟩
 have Hf:Hid ((n<=4\/7<=n/\n<=20)/\L<=5):=by show _/\_;omega
 rcases(show((4:Int)<(n:Int)/\¬(n:Int)<7/\¬(20:Int)<(n:Int)/\¬(5:Int)<(L:Int))\/(¬(4:Int)<(n:Int)/\¬(20:Int)<(n:Int)/\¬(5:Int)<(L:Int))by omega)with⟨g1,g2,g3,g4⟩ |⟨g1,g3,g4⟩;all_goals
  clear g
  obtain⟨W,bX,ae,ai⟩:=fy w 27 [.slice a n cap,.slice a' L cap']
  go_enter Tryz.func23,Tryz.ntmps23
  go_wp2_with fail
  go_loopw[3] (λx wr=>∃k:Nat,k<=n/\x=af (k:Int)/\(∀s∈bx.take k,okL s.1/\okL s.2)/\ar wr w.heap.size 27 [.slice a n cap,.slice a' L cap']/\Bw w wr) (λx _=>n-(intOf x).toNat)
  case atStart=>exact⟨0,Nat.zero_le _,rfl,(λy hy=>by simp at hy),ae.2.1.out,ae.1.out⟩
  case round=>
   skip
   obtain⟨k,hk,rfl,hok,qd,pb⟩:=hrel;obtain⟨Hd,Hb,pH⟩:=bM qd pb hok;clear hok pb qd;by_cases hlt:k<n
   . have ir:k<bx.length:=by rw[Hn.out];exact hlt
     obtain⟨s,m,e,t,l,f,hx⟩:∃s m e t l f,bx[k]=((s,m,e),(t,l,f)):=⟨_,_,_,_,_,_,rfl⟩;obtain⟨b,o,hab,hp⟩:=(HB.out.below Hb.out).spn k ir hx;have aQ:=AH n cap k (k:Int) hab hlt rfl;obtain⟨Hp,Hx⟩:=aI hp hx;clear hp hx hab;obtain⟨ae,ai⟩:=qZ (Hd.an<|Hp.an trivial);go_wp2_with fail;refine(GP s m e _).mono ?_;rintro e w5 ⟨⟨v,rfl,hv⟩,ak⟩;obtain⟨ae,ai⟩:=qX ak (Hb.an ae);have Hv:=aj hv;clear hv;cases v with
     |true=>go_wp2;refine bodyPost_ret (results_tmp rfl _ _ _) rfl ⟨⟨true,rfl,λh=>by cases h⟩,ae.1.out⟩
     | false=>
       replace Hv:Hid (okL (s,m,e)):=Hv.out rfl;go_wp2_with fail;refine(GP t l f _).mono ?_;rintro e w6 ⟨⟨v,rfl,hv⟩,ak⟩;obtain⟨ae,ai⟩:=qX ak ae;have Me:=aj hv;clear hv;cases v with
       |true=>go_wp2;refine bodyPost_ret (results_tmp rfl _ _ _) rfl ⟨⟨true,rfl,λh=>by cases h⟩,ae.1.out⟩
       | false=>
         have BN:Hid (okL bx[k].1/\okL bx[k].2):=by show _/\_;rw[Hx.out];exact⟨Hv.out,Me.out rfl⟩
         go_wp2;go_roundw;case rel=>exact⟨k+1,by omega,by go_num,Gj ir pH.out BN.out,ae.2.1.out,ae.1.out⟩
         case measure=>exact bf
   . obtain rfl:k=n:=by omega
     have kL:Hid (∀s∈bx,okL s.1/\okL s.2):=by have:=pH.out;rwa [<-Hn.out,List.take_length]at this
     clear pH;obtain⟨ae,ai⟩:=qZ (Hd.an trivial);go_wp2_with fail;go_loopw[4] (λx wr=>∃j:Nat,j<=L/\x=af (j:Int)/\(∀r∈rows.take j,r.length<=8/\∀x∈r,okL x)/\ar wr w.heap.size 27 [.slice a k cap,.slice a' L cap']/\Bw w wr) (λx _=>L-(intOf x).toNat);case atStart=>exact⟨0,Nat.zero_le _,rfl,(λy hy=>by simp at hy),ae.1.out,Hb.out⟩
     case round=>
      clear Hb;obtain⟨j,hj,rfl,hok,qd,pb⟩:=hrel;obtain⟨Hd,Hb,pH⟩:=bM qd pb hok;clear hok pb qd;by_cases hlt:j<L
      . have hk2:j<rows.length:=by rw[HL.out];exact hlt
        obtain⟨b,o,a1,c1,hab,hcell,hat⟩:=(Ha.out.below Hb.out).row j hk2;have aQ:=yb L cap' j (j:Int) hab hlt rfl;rw[Nat.mul_one]at aQ;obtain⟨R,hR⟩:=az (rows[j]);rw[hR]at hcell hat;obtain⟨N,hN⟩:=az R.length;rw[hN]at hcell;have Hp:Hid (aR wr b (o+j) [.slice a1 N c1]):=λi hi=>by
         obtain rfl:i=0:=by simp at hi;omega
         exact hcell
        obtain⟨eG,HN,HR⟩:=bM hat hN hR;clear hat hN hR hcell hab;by_cases g8:8<N
        . have gi:(8:Int)<(N:Int):=by omega
          obtain⟨ae,ai⟩:=qZ (Hd.an<|Hp.an trivial);go_wp2;refine bodyPost_ret (results_tmp rfl _ _ _) rfl ⟨⟨true,rfl,λh=>by cases h⟩,Hb.out⟩
        . have gi:¬(8:Int)<(N:Int):=by omega
          have jC:=Hb;obtain⟨wo,hwo⟩:∃wo,wo=wr:=⟨_,rfl⟩;subst hwo;obtain⟨ae,ai⟩:=qZ (Hd.an<|Hp.an trivial);go_wp2_with fail;go_loopw[5] (λx wr=>∃i:Nat,i<=N/\x=af (i:Int)/\(∀x∈R.take i,okL x)/\ar wr w.heap.size 27 [.slice a k cap,.slice a' L cap']/\Bw wo wr) (λx _=>N-(intOf x).toNat);case atStart=>exact⟨0,Nat.zero_le _,rfl,(λy hy=>by simp at hy),ae.1.out,Below.refl _ _⟩
          case round=>
           obtain⟨i,hi,rfl,hoi,qd,pb⟩:=hrel;obtain⟨Hd,Hp,Hb,TX,aO⟩:=eV qd (ae.2.1.out.below pb) (aC jC.out pb) hoi pb;clear hoi pb qd;by_cases iW:i<N
           . have hi2:i<R.length:=by rw[HN.out];exact iW
             obtain⟨s,m,e,hx⟩:=pU (R[i]);obtain⟨b3,o3,uY,p0,p1,p2⟩:=(eG.out.below aO.out).num i hi2 hx;have Dy:=vK N c1 i (i:Int) uY iW rfl;have Hx:=aj hx;have Hy:Hid (aR wr b3 (o3+i*3) [ag s,ah m,af e]):=jA p0 p1 p2;clear hx uY p0 p1 p2;obtain⟨ae,ai⟩:=qZ (Hd.an<|Hp.an<|Hy.an trivial);go_wp2_with fail;refine(GP s m e _).mono ?_;rintro e5 w5 ⟨⟨v,rfl,hv⟩,ak⟩;obtain⟨Hd5,fe,agv,Hv⟩:=bU (ae.1.out.below ak) (aC Hb.out ak) (aC aO.out ak) hv;clear hv ak;cases v with
             |true=>go_wp2;refine bodyPost_ret (results_tmp rfl _ _ _) rfl ⟨⟨true,rfl,λh=>by cases h⟩,fe.out⟩
             | false=>
               have BN:Hid (okL R[i]):=by rw[Hx.out];exact Hv.out rfl
               go_wp2;go_roundw;case rel=>exact⟨i+1,by omega,by go_num,Gj hi2 TX.out BN.out,Hd5.out,agv.out⟩
               case measure=>exact bf
           . obtain rfl:i=N:=by omega
             have sJ:Hid (rows[j].length<=8/\∀x∈rows[j],okL x):=by
              show _/\_
              rw[HR.out];refine⟨by rw[HN.out];omega,?_⟩;have:=TX.out;rwa [<-HN.out,List.take_length]at this
             obtain⟨ae,ai⟩:=qZ (Hd.an<|Hp.an trivial);go_wp2;go_roundw;case rel=>exact⟨j+1,by omega,by go_num,Gj hk2 pH.out sJ.out,ae.1.out,Hb.out⟩
             case measure=>exact bf
      . obtain rfl:j=L:=by omega
        have LI:Hid (NotVastD bx rows):=⟨by rw[Hn.out];exact Hf.out.1,by rw[HL.out];exact Hf.out.2,kL.out,by
         have:=pH.out
         rwa [<-HL.out,List.take_length]at this⟩
        obtain⟨ae,ai⟩:=qZ (Hd.an trivial);go_wp2;refine bodyPost_ret (results_tmp rfl _ _ _) rfl ⟨⟨false,rfl,λ_=>LI.out⟩,Hb.out⟩
structure NotHeavy (ts:List Trm):Prop where
 few:ts.length<=10
 all:∀t∈ts,okL t.2/\t.1.length<=8/\degN t.1<=5
def amm (V:Int)(ts:List Trm)(n:Nat)(a:Option Addr)(cap:Nat)(w:World)(hn:ts.length=n)(ha:At w a (ts.flatMap aH)):
 Cl 16 #[.agg #[af V,.slice a n cap]] w λe w'=>Mt (NotHeavy ts) e/\Bw w w':=by
 obtain⟨Ha,Hn⟩:=aI ha hn;clear ha hn;have Hb:=hbz w;by_cases g:10<n
 . have gi:(10:Int)<(n:Int):=by omega
   obtain⟨W,bX,ae,ai⟩:=fy w 41 [af V,.slice a n cap];go_enter Tryz.func16,Tryz.ntmps16;go_wp2;refine bodyPost_ret (results_tmp rfl _ _ _) rfl ⟨⟨true,rfl,λh=>by cases h⟩,ae.1.out⟩
 have gi:¬(10:Int)<(n:Int):=by omega
 obtain⟨W,bX,ae,ai⟩:=fy w 41 [af V,.slice a n cap];go_enter Tryz.func16,Tryz.ntmps16;go_wp2_with fail;go_loopw[3] (λx wr=>∃k:Nat,k<=n/\x=af (k:Int)/\(∀t∈ts.take k,okL t.2/\t.1.length<=8/\degN t.1<=5)/\ar wr w.heap.size 41 [af V,.slice a n cap]/\Bw w wr) (λx _=>n-(intOf x).toNat);case atStart=>exact⟨0,Nat.zero_le _,rfl,(λy hy=>by simp at hy),ae.2.1.out,ae.1.out⟩
 case round=>
  skip
  obtain⟨k,hk,rfl,hok,qd,pb⟩:=hrel;obtain⟨Hd,Hb,pH⟩:=bM qd pb hok;clear hok pb qd;by_cases hlt:k<n
  . have ir:k<ts.length:=by rw[Hn.out];exact hlt
    obtain⟨l,s,m,e,hx⟩:∃l s m e,ts[k]=(l,s,m,e):=⟨_,_,_,_,rfl⟩;obtain⟨b,o,hab,hp⟩:=(Ha.out.below Hb.out).term k ir hx;have aQ:=fW n cap k (k:Int) hab hlt rfl;have hsz:(bs l).size=l.length:=jh l;obtain⟨Hp,Hx⟩:=aI hp hx;clear hp hx hab;obtain⟨ae,ai⟩:=qZ (Hd.an<|Hp.an trivial);go_wp2_with fail;refine(GP s m e _).mono ?_;rintro e w5 ⟨⟨v,rfl,hv⟩,ak⟩;obtain⟨ae,ai⟩:=qX ak (Hb.an ae);have Hv:=aj hv;clear hv;cases v with
    |true=>go_wp2;refine bodyPost_ret (results_tmp rfl _ _ _) rfl ⟨⟨true,rfl,λh=>by cases h⟩,ae.1.out⟩
    | false=>
      replace Hv:Hid (okL (s,m,e)):=Hv.out rfl;by_cases g8:8<l.length
      . have g9:(8:Int)<(l.length:Int):=by omega
        go_wp2;refine bodyPost_ret (results_tmp rfl _ _ _) rfl ⟨⟨true,rfl,λh=>by cases h⟩,ae.1.out⟩
      . have g9:¬(8:Int)<(l.length:Int):=by omega
        have Tk:Hid (∀i,degN (l.take i)<=2040):=λi=>by
         have h1:=VM (l.take i);have h2:(l.take i).length<=l.length:=by rw[List.length_take];exact Nat.min_le_right _ _
         omega
        go_wp2_with fail;go_loopw[5,6] (λs5 x wr=>∃i:Nat,i<=l.length/\x=af (i:Int)/\s5=af (degN (l.take i):Int)/\wr=w5) (λ_ x _=>l.length-(intOf x).toNat);case atStart=>exact⟨0,Nat.zero_le _,rfl,rfl,rfl⟩
        case round=>
         obtain⟨i,hi,rfl,rfl,rfl⟩:=hrel;by_cases iW:i<l.length
         . have hst:=rP l (i:Int) i iW rfl;have xt:l[i].toNat<=255:=by have:=l[i].toNat_lt;omega
           have hnx:=VN l i iW;have hd1:=Tk.out i;have hd2:=Tk.out (i+1);generalize l[i].toNat=c at*;have hw1:IntKind.i64.wrap (c:Int)=(c:Int):=by rw[IntKind.wrap_i64];omega
           have hw2:IntKind.i64.wrap ((degN (l.take i):Int)+(c:Int))=((degN (l.take (i+1)):Nat):Int):=by rw[IntKind.wrap_i64,hnx];omega
           clear hnx;go_wp2;go_roundw;case rel=>exact⟨i+1,by omega,by go_num,rfl,trivial⟩
           case measure=>exact bf
         . obtain rfl:i=l.length:=by omega
           rw[List.take_length];by_cases g5:5<degN l
           . have g6:(5:Int)<(degN l:Int):=by omega
             go_wp2;refine bodyPost_ret (results_tmp rfl _ _ _) rfl ⟨⟨true,rfl,λh=>by cases h⟩,ae.1.out⟩
           . have g6:¬(5:Int)<(degN l:Int):=by omega
             have BN:Hid (okL ts[k].2/\ts[k].1.length<=8/\degN ts[k].1<=5):=by show _/\_;rw[Hx.out];exact⟨Hv.out,by simpa using g8,by simpa using g5⟩
             go_wp2;go_roundw;case rel=>exact⟨k+1,by omega,by go_num,Gj ir pH.out BN.out,ae.2.1.out,ae.1.out⟩
             case measure=>exact bf
  . obtain rfl:k=n:=by omega
    have LI:Hid (NotHeavy ts):=⟨by rw[Hn.out];omega,by
     have:=pH.out
     rwa [<-Hn.out,List.take_length]at this⟩
    obtain⟨ae,ai⟩:=qZ (Hd.an trivial);go_wp2;refine bodyPost_ret (results_tmp rfl _ _ _) rfl ⟨⟨false,rfl,λ_=>LI.out⟩,Hb.out⟩
end Go.Proofs.YtpfgffadgkkedaaGreatDoor
