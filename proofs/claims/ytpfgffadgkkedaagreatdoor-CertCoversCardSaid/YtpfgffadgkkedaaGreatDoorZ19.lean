/- A certificate's nodes,and domains,in memory. -/
import Derived.Test.YtpfgffadgkkedaaGreatDoorZ11
import Derived.Test.YtpfgffadgkkedaaGreatDoorZ14
import Derived.Test.YtpfgffadgkkedaaGreatDoorZ18
import Derived.Test.YtpfgffadgkkedaaGreatDoorZ7
set_option linter.all false
set_option maxRecDepth 100000
set_option maxHeartbeats 16000000
namespace Go.Proofs.YtpfgffadgkkedaaGreatDoor
open Go.RowKit
structure Nd where
 sp:Int
 sc:Raw
 V:Int
 a:Option Addr
 n:Nat
 c:Nat
def mF (x:Nd):List Value:=af x.sp::(aV x.sc++[af x.V,.slice x.a x.n x.c])
def At.node {W:World}{a:Option Addr}{ns:List Nd}(h:At W a (ns.flatMap mF))(k:Nat)(hk:k<ns.length){sp:Int}{s:Bool}{m:List UInt8}{e V:Int}{a1:Option Addr}{n1 c1:Nat}(hx:ns[k]=⟨sp,(s,m,e),V,a1,n1,c1⟩):
 ∃b o,a=some ⟨b,o,none⟩/\aQ W b (o+k*6) [af sp,ag s,ah m,af e,af V,.slice a1 n1 c1]:=by
 obtain⟨b,o,ha,hc⟩:=h.elem (f:=mF) (sz:=6) (λ_=>rfl) zd k hk;rw[hx]at hc;refine⟨b,o,ha,λj hj=>?_⟩;have GW:j<6:=hj;rw[hc j GW];exact List.getElem?_eq_getElem hj
def vV (w:World)(ns:List Nd)(qs:Nat->List Trm):Prop:=∀k (h:k<ns.length),(qs k).length=ns[k].n/\Sl ns[k].a ns[k].n ns[k].c/\At w ns[k].a ((qs k).flatMap aI)
def vV.below {w w':World}{ns:List Nd}{qs:Nat->List Trm}(h:vV w ns qs)(hb:Bw w w'):vV w' ns qs:=λk hk=>by obtain⟨h1,h2,h3⟩:=h k hk;exact⟨h1,h2,h3.below hb⟩
abbrev DmR:=List (Raw×Raw)×List (List Raw)
structure Dv where
 a:Option Addr
 n:Nat
 c:Nat
 a':Option Addr
 m:Nat
 c':Nat
def iN (x:Dv):List Value:=[.slice x.a x.n x.c,.slice x.a' x.m x.c']
structure DAt (w:World)(x:Dv)(d:DmR):Prop where
 n:d.1.length=x.n
 m:d.2.length=x.m
 cap:x.m<=x.c'
 box:At w x.a (d.1.flatMap spC)
 row:Tbl w x.a' d.2
def DAt.below {w w':World}{x:Dv}{d:DmR}(h:DAt w x d)(hb:Bw w w'):DAt w' x d:=⟨h.n,h.m,h.cap,h.box.below hb,h.row.below hb⟩
instance {w :World} {x:Dv} {d:DmR}:QTr (DAt w x d) w (λW=>DAt W x d):=⟨λh _ k=>DAt.below h k⟩
def Ca (w:World)(l:List Dv)(ds:List DmR):Prop:=l.length=ds.length/\∀k (h:k<l.length) (h2:k<ds.length),DAt w l[k] ds[k]
def Ca.below {w w':World}{l:List Dv}{ds:List DmR}(h:Ca w l ds)(hb:Bw w w'):Ca w' l ds:=⟨h.1,λk h1 h2=>(h.2 k h1 h2).below hb⟩
instance {w :World} {l:List Dv} {ds:List DmR}:QTr (Ca w l ds) w (λW=>Ca W l ds):=⟨λh _ k=>Ca.below h k⟩
def At.dom {W:World}{a:Option Addr}{l:List Dv}(h:At W a (l.flatMap iN))(k:Nat)(hk:k<l.length){x:Dv}(hx:l[k]=x):
 ∃b o,a=some ⟨b,o,none⟩/\aQ W b (o+k*2) [.slice x.a x.n x.c,.slice x.a' x.m x.c']:=by
 obtain⟨b,o,ha,hc⟩:=h.elem (f:=iN) (sz:=2) (λ_=>rfl) zd k hk;rw[hx]at hc;refine⟨b,o,ha,λj hj=>?_⟩;have GW:j<2:=hj;rw[hc j GW];exact List.getElem?_eq_getElem hj
end Go.Proofs.YtpfgffadgkkedaaGreatDoor
namespace Go.Proofs.YtpfgffadgkkedaaGreatDoor
open Go.RowKit
attribute [local go_sem ↓] Go.wp_at_zero Go.wp_at_succ
def okL (x:Raw):Prop:=x.2.1.length<=8/\ -60<=x.2.2/\x.2.2<=60
def UA {x:Raw}(h:okL x):Fit 192 x:=by obtain⟨h1,h2,h3⟩:=h;exact⟨⟨by omega,by omega,by omega⟩,Sm.raw (B:=96) zo zo zo⟩
def KV {α:Type}{dz:List α}{Q:α->Prop}{k:Nat}(hk:k<dz.length)(h:∀x∈dz.take k,Q x)(hx:Q dz[k]):∀x∈dz.take (k+1),Q x:=by
 intro x hm;rw[List.take_succ_eq_append_getElem hk,List.mem_append]at hm;rcases hm with hm|hm
 . exact h x hm
 . simp at hm;rw[hm];exact hx
def KI (Q:Prop)(e:Ending):Prop:=∃b,e=.returned (ag b)/\(b=false->Q)
structure NotVastD (bx:List (Raw×Raw))(rows:List (List Raw)):Prop where
 few:bx.length<=4\/7<=bx.length/\bx.length<=20
 five:rows.length<=5
 box:∀s∈bx,okL s.1/\okL s.2
 row:∀r∈rows,r.length<=8/\∀x∈r,okL x
def Gh (s:Bool)(m:List UInt8)(e:Int)(w:World):
 Cl 88 #[.agg #[ag s,ah m,af e]] w λe' w'=>KI (okL (s,m,e)) e'/\Bw w w':=by
 have hsz:(bs m).size=m.length:=mR m;have Hb:=hbz w;by_cases g:m.length<=8/\ -60<=e/\e<=60
 . have Hg:Hid (okL (s,m,e)):=g;obtain⟨g1,g2,g3⟩:=g;have g4:¬(8:Int)<(m.length:Int):=by omega
   have g5:¬e< -60:=by omega
   have g6:¬60<e:=by omega
   obtain⟨W,cd,ae,ai⟩:=fJ w 45 [ag s,ah m,af e];go_enter Tryz.func88,Tryz.ntmps88;go_wp2;refine bodyPost_ret (results_tmp rfl _ _ _) rfl ⟨⟨false,rfl,λ_=>Hg.out⟩,ae.1.out⟩
 . rcases (show(8:Int)<(m.length:Int)\/(¬(8:Int)<(m.length:Int)/\e< -60)\/(¬(8:Int)<(m.length:Int)/\¬e< -60/\60<e)by omega)with g1|⟨g1,g2⟩ |⟨g1,g2,g3⟩;all_goals
    clear g
    obtain⟨W,cd,ae,ai⟩:=fJ w 45 [ag s,ah m,af e]
    go_enter Tryz.func88,Tryz.ntmps88
    go_wp2
    refine bodyPost_ret (results_tmp rfl _ _ _) rfl ⟨⟨true,rfl,λh=>by cases h⟩,ae.1.out⟩
def awd (bx:List (Raw×Raw))(rows:List (List Raw))(n L:Nat)(a a':Option Addr)(cap cap':Nat)(w:World)(hn:bx.length=n)(hL:rows.length=L)(hb:At w a (bx.flatMap spC))(ha:Tbl w a' rows):
 Cl 29 #[.agg #[.slice a n cap,.slice a' L cap']] w λe w'=>KI (NotVastD bx rows) e/\Bw w w':=by
 obtain⟨Ha,HL,HB,Hn⟩:=cG ha hL hb hn;clear ha hL hb hn;have Hb:=hbz w;by_cases g:4<n/\n<7\/20<n\/5<L
 . rcases (show((4:Int)<(n:Int)/\(n:Int)<7)\/((4:Int)<(n:Int)/\¬(n:Int)<7/\(20:Int)<(n:Int))\/((4:Int)<(n:Int)/\¬(n:Int)<7/\¬(20:Int)<(n:Int)/\(5:Int)<(L:Int))\/(¬(4:Int)<(n:Int)/\¬(20:Int)<(n:Int)/\(5:Int)<(L:Int))by omega)with⟨g1,g2⟩ |⟨g1,g2,g3⟩ |⟨g1,g2,g3,g4⟩ |⟨g1,g3,g4⟩;all_goals
    clear g
    obtain⟨W,cd,ae,ai⟩:=fJ w 27 [.slice a n cap,.slice a' L cap']
    go_enter Tryz.func29,Tryz.ntmps29
    go_wp2
    refine bodyPost_ret (results_tmp rfl _ _ _) rfl ⟨⟨true,rfl,λh=>by cases h⟩,ae.1.out⟩
 have Hf:Hid ((n<=4\/7<=n/\n<=20)/\L<=5):=by show _/\_;omega
 rcases(show((4:Int)<(n:Int)/\¬(n:Int)<7/\¬(20:Int)<(n:Int)/\¬(5:Int)<(L:Int))\/(¬(4:Int)<(n:Int)/\¬(20:Int)<(n:Int)/\¬(5:Int)<(L:Int))by omega)with⟨g1,g2,g3,g4⟩ |⟨g1,g3,g4⟩;all_goals
  clear g
  obtain⟨W,cd,ae,ai⟩:=fJ w 27 [.slice a n cap,.slice a' L cap']
  go_enter Tryz.func29,Tryz.ntmps29
  go_wp2_with fail
  go_loopw[3] (λx wr=>∃k:Nat,k<=n/\x=af (k:Int)/\(∀s∈bx.take k,okL s.1/\okL s.2)/\ar wr w.heap.size 27 [.slice a n cap,.slice a' L cap']/\Bw w wr) (λx _=>n-(intOf x).toNat)
  case atStart=>exact⟨0,Nat.zero_le _,rfl,(λy hy=>by simp at hy),ae.2.1.out,ae.1.out⟩
  case round=>
   skip
   obtain⟨k,hk,rfl,hok,qd,pb⟩:=hrel;obtain⟨Hd,Hb,kP⟩:=bM qd pb hok;clear hok pb qd;by_cases hlt:k<n
   . have ez:k<bx.length:=by rw[Hn.out];exact hlt
     obtain⟨s,m,e,t,l,f,hx⟩:∃s m e t l f,bx[k]=((s,m,e),(t,l,f)):=⟨_,_,_,_,_,_,rfl⟩;obtain⟨b,o,hab,hp⟩:=(HB.out.below Hb.out).spn k ez hx;have aX:=vh n cap k (k:Int) hab hlt rfl;obtain⟨Hp,Hx⟩:=aH hp hx;clear hp hx hab;obtain⟨ae,ai⟩:=qZ (Hd.an<|Hp.an trivial);go_wp2_with fail;refine(Gh s m e _).mono ?_;rintro e w5 ⟨⟨v,rfl,hv⟩,ak⟩;obtain⟨ae,ai⟩:=qX ak (Hb.an ae);have Hv:=aj hv;clear hv;cases v with
     |true=>go_wp2;refine bodyPost_ret (results_tmp rfl _ _ _) rfl ⟨⟨true,rfl,λh=>by cases h⟩,ae.1.out⟩
     | false=>
       replace Hv:Hid (okL (s,m,e)):=Hv.out rfl;go_wp2_with fail;refine(Gh t l f _).mono ?_;rintro e w6 ⟨⟨v,rfl,hv⟩,ak⟩;obtain⟨ae,ai⟩:=qX ak ae;have FA:=aj hv;clear hv;cases v with
       |true=>go_wp2;refine bodyPost_ret (results_tmp rfl _ _ _) rfl ⟨⟨true,rfl,λh=>by cases h⟩,ae.1.out⟩
       | false=>
         have vQ:Hid (okL bx[k].1/\okL bx[k].2):=by show _/\_;rw[Hx.out];exact⟨Hv.out,FA.out rfl⟩
         go_wp2;go_roundw;case rel=>exact⟨k+1,by omega,by go_num,KV ez kP.out vQ.out,ae.2.1.out,ae.1.out⟩
         case measure=>exact bi
   . obtain rfl:k=n:=by omega
     have fP:Hid (∀s∈bx,okL s.1/\okL s.2):=by have:=kP.out;rwa [<-Hn.out,List.take_length]at this
     clear kP;obtain⟨ae,ai⟩:=qZ (Hd.an trivial);go_wp2_with fail;go_loopw[4] (λx wr=>∃j:Nat,j<=L/\x=af (j:Int)/\(∀r∈rows.take j,r.length<=8/\∀x∈r,okL x)/\ar wr w.heap.size 27 [.slice a k cap,.slice a' L cap']/\Bw w wr) (λx _=>L-(intOf x).toNat);case atStart=>exact⟨0,Nat.zero_le _,rfl,(λy hy=>by simp at hy),ae.1.out,Hb.out⟩
     case round=>
      clear Hb;obtain⟨j,hj,rfl,hok,qd,pb⟩:=hrel;obtain⟨Hd,Hb,kP⟩:=bM qd pb hok;clear hok pb qd;by_cases hlt:j<L
      . have hk2:j<rows.length:=by rw[HL.out];exact hlt
        obtain⟨b,o,a1,c1,hab,hcell,hat⟩:=(Ha.out.below Hb.out).row j hk2;have aX:=ng L cap' j (j:Int) hab hlt rfl;rw[Nat.mul_one]at aX;obtain⟨R,hR⟩:=au (rows[j]);rw[hR]at hcell hat;obtain⟨N,hN⟩:=au R.length;rw[hN]at hcell;have Hp:Hid (aQ wr b (o+j) [.slice a1 N c1]):=λi hi=>by
         obtain rfl:i=0:=by simp at hi;omega
         exact hcell
        obtain⟨dV,HN,HR⟩:=bM hat hN hR;clear hat hN hR hcell hab;by_cases g8:8<N
        . have gi:(8:Int)<(N:Int):=by omega
          obtain⟨ae,ai⟩:=qZ (Hd.an<|Hp.an trivial);go_wp2;refine bodyPost_ret (results_tmp rfl _ _ _) rfl ⟨⟨true,rfl,λh=>by cases h⟩,Hb.out⟩
        . have gi:¬(8:Int)<(N:Int):=by omega
          have jC:=Hb;obtain⟨wo,hwo⟩:∃wo,wo=wr:=⟨_,rfl⟩;subst hwo;obtain⟨ae,ai⟩:=qZ (Hd.an<|Hp.an trivial);go_wp2_with fail;go_loopw[5] (λx wr=>∃i:Nat,i<=N/\x=af (i:Int)/\(∀x∈R.take i,okL x)/\ar wr w.heap.size 27 [.slice a k cap,.slice a' L cap']/\Bw wo wr) (λx _=>N-(intOf x).toNat);case atStart=>exact⟨0,Nat.zero_le _,rfl,(λy hy=>by simp at hy),ae.1.out,Below.refl _ _⟩
          case round=>
           obtain⟨i,hi,rfl,hoi,qd,pb⟩:=hrel;obtain⟨Hd,Hp,Hb,XS,aP⟩:=eD qd (ae.2.1.out.below pb) (aF jC.out pb) hoi pb;clear hoi pb qd;by_cases oZ:i<N
           . have hi2:i<R.length:=by rw[HN.out];exact oZ
             obtain⟨s,m,e,hx⟩:=nY (R[i]);obtain⟨b3,o3,tF,p0,p1,p2⟩:=(dV.out.below aP.out).num i hi2 hx;have SN:=ot N c1 i (i:Int) tF oZ rfl;have Hx:=aj hx;have Hy:Hid (aQ wr b3 (o3+i*3) [ag s,ah m,af e]):=iI p0 p1 p2;clear hx tF p0 p1 p2;obtain⟨ae,ai⟩:=qZ (Hd.an<|Hp.an<|Hy.an trivial);go_wp2_with fail;refine(Gh s m e _).mono ?_;rintro e5 w5 ⟨⟨v,rfl,hv⟩,ak⟩;obtain⟨Oz,eu,aje,Hv⟩:=cG (ae.1.out.below ak) (aF Hb.out ak) (aF aP.out ak) hv;clear hv ak;cases v with
             |true=>go_wp2;refine bodyPost_ret (results_tmp rfl _ _ _) rfl ⟨⟨true,rfl,λh=>by cases h⟩,eu.out⟩
             | false=>
               have vQ:Hid (okL R[i]):=by rw[Hx.out];exact Hv.out rfl
               go_wp2;go_roundw;case rel=>exact⟨i+1,by omega,by go_num,KV hi2 XS.out vQ.out,Oz.out,aje.out⟩
               case measure=>exact bi
           . obtain rfl:i=N:=by omega
             have sI:Hid (rows[j].length<=8/\∀x∈rows[j],okL x):=by
              show _/\_
              rw[HR.out];refine⟨by rw[HN.out];omega,?_⟩;have:=XS.out;rwa [<-HN.out,List.take_length]at this
             obtain⟨ae,ai⟩:=qZ (Hd.an<|Hp.an trivial);go_wp2;go_roundw;case rel=>exact⟨j+1,by omega,by go_num,KV hk2 kP.out sI.out,ae.1.out,Hb.out⟩
             case measure=>exact bi
      . obtain rfl:j=L:=by omega
        have Pm:Hid (NotVastD bx rows):=⟨by rw[Hn.out];exact Hf.out.1,by rw[HL.out];exact Hf.out.2,fP.out,by
         have:=kP.out
         rwa [<-HL.out,List.take_length]at this⟩
        obtain⟨ae,ai⟩:=qZ (Hd.an trivial);go_wp2;refine bodyPost_ret (results_tmp rfl _ _ _) rfl ⟨⟨false,rfl,λ_=>Pm.out⟩,Hb.out⟩
structure NotHeavy2 (ts:List Trm):Prop where
 few:ts.length<=20
 all:∀t∈ts,okL t.2/\t.1.length<=8/\degN t.1<=5
def apy (V:Int)(ts:List Trm)(n:Nat)(a:Option Addr)(cap:Nat)(w:World)(hn:ts.length=n)(ha:At w a (ts.flatMap aI)):
 Cl 30 #[.agg #[af V,.slice a n cap]] w λe w'=>KI (NotHeavy2 ts) e/\Bw w w':=by
 obtain⟨Ha,Hn⟩:=aH ha hn;clear ha hn;have Hb:=hbz w;by_cases g:20<n
 . have gi:(20:Int)<(n:Int):=by omega
   obtain⟨W,cd,ae,ai⟩:=fJ w 41 [af V,.slice a n cap];go_enter Tryz.func30,Tryz.ntmps30;go_wp2;refine bodyPost_ret (results_tmp rfl _ _ _) rfl ⟨⟨true,rfl,λh=>by cases h⟩,ae.1.out⟩
 have gi:¬(20:Int)<(n:Int):=by omega
 obtain⟨W,cd,ae,ai⟩:=fJ w 41 [af V,.slice a n cap];go_enter Tryz.func30,Tryz.ntmps30;go_wp2_with fail;go_loopw[3] (λx wr=>∃k:Nat,k<=n/\x=af (k:Int)/\(∀t∈ts.take k,okL t.2/\t.1.length<=8/\degN t.1<=5)/\ar wr w.heap.size 41 [af V,.slice a n cap]/\Bw w wr) (λx _=>n-(intOf x).toNat);case atStart=>exact⟨0,Nat.zero_le _,rfl,(λy hy=>by simp at hy),ae.2.1.out,ae.1.out⟩
 case round=>
  skip
  obtain⟨k,hk,rfl,hok,qd,pb⟩:=hrel;obtain⟨Hd,Hb,kP⟩:=bM qd pb hok;clear hok pb qd;by_cases hlt:k<n
  . have ez:k<ts.length:=by rw[Hn.out];exact hlt
    obtain⟨l,s,m,e,hx⟩:∃l s m e,ts[k]=(l,s,m,e):=⟨_,_,_,_,rfl⟩;obtain⟨b,o,hab,hp⟩:=(Ha.out.below Hb.out).term k ez hx;have aX:=gX n cap k (k:Int) hab hlt rfl;have hsz:(bs l).size=l.length:=mR l;obtain⟨Hp,Hx⟩:=aH hp hx;clear hp hx hab;obtain⟨ae,ai⟩:=qZ (Hd.an<|Hp.an trivial);go_wp2_with fail;refine(Gh s m e _).mono ?_;rintro e w5 ⟨⟨v,rfl,hv⟩,ak⟩;obtain⟨ae,ai⟩:=qX ak (Hb.an ae);have Hv:=aj hv;clear hv;cases v with
    |true=>go_wp2;refine bodyPost_ret (results_tmp rfl _ _ _) rfl ⟨⟨true,rfl,λh=>by cases h⟩,ae.1.out⟩
    | false=>
      replace Hv:Hid (okL (s,m,e)):=Hv.out rfl;by_cases g8:8<l.length
      . have g9:(8:Int)<(l.length:Int):=by omega
        go_wp2;refine bodyPost_ret (results_tmp rfl _ _ _) rfl ⟨⟨true,rfl,λh=>by cases h⟩,ae.1.out⟩
      . have g9:¬(8:Int)<(l.length:Int):=by omega
        have Xj:Hid (∀i,degN (l.take i)<=2040):=λi=>by
         have h1:=ZB (l.take i);have h2:(l.take i).length<=l.length:=by rw[List.length_take];exact Nat.min_le_right _ _
         omega
        go_wp2_with fail;go_loopw[5,6] (λs5 x wr=>∃i:Nat,i<=l.length/\x=af (i:Int)/\s5=af (degN (l.take i):Int)/\wr=w5) (λ_ x _=>l.length-(intOf x).toNat);case atStart=>exact⟨0,Nat.zero_le _,rfl,rfl,rfl⟩
        case round=>
         obtain⟨i,hi,rfl,rfl,rfl⟩:=hrel;by_cases oZ:i<l.length
         . have hst:=vk l (i:Int) i oZ rfl;have Sw:l[i].toNat<=255:=by have:=l[i].toNat_lt;omega
           have hnx:=ZC l i oZ;have hd1:=Xj.out i;have hd2:=Xj.out (i+1);generalize l[i].toNat=c at*;have hw1:IntKind.i64.wrap (c:Int)=(c:Int):=by rw[IntKind.wrap_i64];omega
           have hw2:IntKind.i64.wrap ((degN (l.take i):Int)+(c:Int))=((degN (l.take (i+1)):Nat):Int):=by rw[IntKind.wrap_i64,hnx];omega
           clear hnx;go_wp2;go_roundw;case rel=>exact⟨i+1,by omega,by go_num,rfl,trivial⟩
           case measure=>exact bi
         . obtain rfl:i=l.length:=by omega
           rw[List.take_length];by_cases g5:5<degN l
           . have g6:(5:Int)<(degN l:Int):=by omega
             go_wp2;refine bodyPost_ret (results_tmp rfl _ _ _) rfl ⟨⟨true,rfl,λh=>by cases h⟩,ae.1.out⟩
           . have g6:¬(5:Int)<(degN l:Int):=by omega
             have vQ:Hid (okL ts[k].2/\ts[k].1.length<=8/\degN ts[k].1<=5):=by show _/\_;rw[Hx.out];exact⟨Hv.out,by simpa using g8,by simpa using g5⟩
             go_wp2;go_roundw;case rel=>exact⟨k+1,by omega,by go_num,KV ez kP.out vQ.out,ae.2.1.out,ae.1.out⟩
             case measure=>exact bi
  . obtain rfl:k=n:=by omega
    have Pm:Hid (NotHeavy2 ts):=⟨by rw[Hn.out];omega,by
     have:=kP.out
     rwa [<-Hn.out,List.take_length]at this⟩
    obtain⟨ae,ai⟩:=qZ (Hd.an trivial);go_wp2;refine bodyPost_ret (results_tmp rfl _ _ _) rfl ⟨⟨false,rfl,λ_=>Pm.out⟩,Hb.out⟩
structure NotLong (ns:List Nd)(qs:Nat->List Trm):Prop where
 few:ns.length<=40\/4096<ns.length
 all:∀k (h:k<ns.length),k<50->okL ns[k].sc/\NotHeavy2 (qs k)
def art (ns:List Nd)(qs:Nat->List Trm)(n:Nat)(a:Option Addr)(cap:Nat)(w:World)(hn:ns.length=n)(ha:At w a (ns.flatMap mF))(hq:vV w ns qs):
 Cl 28 #[.slice a n cap] w λe w'=>KI (NotLong ns qs) e/\Bw w w':=by
 obtain⟨Ha,Hn,Hq⟩:=bM ha hn hq;clear ha hn hq;have Hb:=hbz w;by_cases g:40<n/\n<=4096\/5000<n
 . rcases (show((40:Int)<(n:Int)/\(n:Int)<=4096)\/((40:Int)<(n:Int)/\¬(n:Int)<=4096/\(5000:Int)<(n:Int))by omega)with⟨g1,g2⟩ |⟨g1,g2,g3⟩;all_goals
    clear g
    go_enter Tryz.func28,Tryz.ntmps28
    go_wp2
    refine bodyPost_ret (results_tmp rfl _ _ _) rfl ⟨⟨true,rfl,λh=>by cases h⟩,Hb.out⟩
 have Hf:Hid (n<=40\/4096<n):=by show _\/_;omega
 rcases(show((40:Int)<(n:Int)/\¬(n:Int)<=4096/\¬(5000:Int)<(n:Int))\/(¬(40:Int)<(n:Int)/\¬(5000:Int)<(n:Int))by omega)with⟨g1,g2,g3⟩ |⟨g1,g3⟩;all_goals
  clear g
  go_enter Tryz.func28,Tryz.ntmps28
  go_wp2_with fail
  go_loopw[3] (λx wr=>∃k:Nat,k<=n/\x=af (k:Int)/\(∀j (h:j<ns.length),j<k->okL ns[j].sc/\NotHeavy2 (qs j))/\k<=50/\Bw w wr) (λx _=>n-(intOf x).toNat)
  case atStart=>exact⟨0,Nat.zero_le _,rfl,(λj _ h=>absurd h (Nat.not_lt_zero _)),Nat.zero_le _,Hb.out⟩
  case round=>
   clear Hb;obtain⟨k,hk,rfl,hok,Mq,pb⟩:=hrel;obtain⟨Hb,kP⟩:=aH pb hok;clear hok pb;by_cases hlt:k<n
   . by_cases h50:k<50
     . have aow:(k:Int)<50:=by omega
       have ez:k<ns.length:=by rw[Hn.out];exact hlt
       obtain⟨sp,s,m,e,V,a1,n1,c1,hx⟩:∃sp s m e V a1 n1 c1,ns[k]=⟨sp,(s,m,e),V,a1,n1,c1⟩:=⟨_,_,_,_,_,_,_,_,rfl⟩;obtain⟨b,o,hab,hp⟩:=(Ha.out.below Hb.out).node k ez hx;obtain⟨q1,q2,q3⟩:=Hq.out k ez;rw[hx]at q1 q2 q3;have aX:=IY n cap k (k:Int) hab hlt rfl;have Hhe:=aj λW (hW:Bw w W)=>apy V (qs k) n1 a1 c1 W q1 (q3.below hW);obtain⟨Hp,Hx⟩:=aH hp hx;clear hp hx hab q1 q2 q3;obtain⟨ae,ai⟩:=qZ (Hp.an trivial);go_wp2_with fail;refine(Gh s m e _).mono ?_;rintro e w5 ⟨⟨v,rfl,hv⟩,ak⟩;obtain⟨ae,ai⟩:=qX ak (Hb.an ae);have Hv:=aj hv;clear hv;cases v with
       |true=>go_wp2;refine bodyPost_ret (results_tmp rfl _ _ _) rfl ⟨⟨true,rfl,λh=>by cases h⟩,ae.1.out⟩
       | false=>
         replace Hv:Hid (okL (s,m,e)):=Hv.out rfl;go_wp2_with fail;refine(Hhe.out _ ae.1.out).mono ?_;rintro e w6 ⟨⟨v,rfl,hv⟩,ak⟩;obtain⟨ae,ai⟩:=qX ak ae;have FA:=aj hv;clear hv;cases v with
         |true=>go_wp2;refine bodyPost_ret (results_tmp rfl _ _ _) rfl ⟨⟨true,rfl,λh=>by cases h⟩,ae.1.out⟩
         | false=>
           have vQ:Hid (okL ns[k].sc/\NotHeavy2 (qs k)):=by show _/\_;rw[Hx.out];exact⟨Hv.out,FA.out rfl⟩
           go_wp2;go_roundw;case rel=>
            refine⟨k+1,by omega,by go_num,λj h hj=>?_,by omega,ae.1.out⟩;by_cases hjk:j=k
            . subst hjk;exact vQ.out
            . exact kP.out j h zo
           case measure=>exact bi
     . have aow:¬(k:Int)<50:=by omega
       have zV:Hid (NotLong ns qs):=⟨by rw[Hn.out];exact Hf.out,λj h hj=>kP.out j h zo⟩;go_wp2;refine bodyPost_ret (results_tmp rfl _ _ _) rfl ⟨⟨false,rfl,λ_=>zV.out⟩,Hb.out⟩
   . obtain rfl:k=n:=by omega
     have zV:Hid (NotLong ns qs):=⟨by rw[Hn.out];exact Hf.out,λj h hj=>kP.out j h (by rw[Hn.out]at h;exact h)⟩;go_wp2;refine bodyPost_ret (results_tmp rfl _ _ _) rfl ⟨⟨false,rfl,λ_=>zV.out⟩,Hb.out⟩
end Go.Proofs.YtpfgffadgkkedaaGreatDoor
