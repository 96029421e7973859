/- ogeelaw24: wide,ways. -/
import Derived.Test.YtbkopgdpcijfbaaGreatDoorZ7
import Derived.Test.YtbkopgdpcijfbaaGreatDoorZ30
import Derived.Test.YtbkopgdpcijfbaaGreatDoorZ34
import Derived.Test.YtbkopgdpcijfbaaGreatDoorZ12
import Derived.Test.YtbkopgdpcijfbaaGreatDoorZ23
import Derived.Test.YtbkopgdpcijfbaaGreatDoorZ15
import Derived.Test.YtbkopgdpcijfbaaGreatDoorZ24
set_option linter.all false
set_option maxRecDepth 100000
set_option maxHeartbeats 16000000
namespace Go.Proofs.YtbkopgdpcijfbaaGreatDoor
open Go.RowKit
attribute [local go_sem ↓] Go.wp_at_zero Go.wp_at_succ
structure NotWide (ts:List Trm):Prop where
 few:ts.length<=12
 all:∀t∈ts,okN t.2/\t.1.length<=5/\∀c∈t.1,c.toNat<=4
def abm {α:Type}{l:List α}{Q:α->Prop}{k:Nat}(hk:k<l.length)(h:∀x∈l.take k,Q x)(hx:Q l[k]):∀x∈l.take (k+1),Q x:=SI hk h hx
def aBn (V:Int)(ts:List Trm)(n:Nat)(a:Option Addr)(cap:Nat)(w:World)(hn:ts.length=n)(ha:At w a (ts.flatMap aY))(hl:n<=9223372036854775807)(hls:∀t∈ts,t.1.length<=9223372036854775807):
 Cl 7 #[.agg #[af V,.slice a n cap]] w λe w'=>(∃b,e=.returned (ag b)/\(b=false->NotWide ts))/\Bw w w':=by
 obtain⟨Ha,Hn,rR⟩:=cw ha hn hls;clear ha hn hls;have Hb:=hbz w;obtain⟨W,cE,ae,ak⟩:=il w 24 [af V,.slice a n cap];go_enter Tryz.func7,Tryz.ntmps7;go_wp2_with fail;go_loopw[3] (λx wr=>∃k:Nat,k<=n/\x=af (k:Int)/\(∀t∈ts.take k,okN t.2/\t.1.length<=5/\∀c∈t.1,c.toNat<=4)/\ar wr w.heap.size 24 [af V,.slice a n cap]/\Bw w wr) (λx _=>n-(intOf x).toNat);case atStart=>exact⟨0,Nat.zero_le _,rfl,(λy hy=>by simp at hy),ae.2.1.out,ae.1.out⟩
 case round=>
  skip
  obtain⟨k,hk,rfl,hok,qd,pb⟩:=hrel;obtain⟨Hd,Hb,xH⟩:=cw qd pb hok;clear hok pb qd;by_cases hlt:k<n
  . have ic:k<ts.length:=by rw[Hn.out];exact hlt
    obtain⟨l,s,m,e,hx⟩:∃l s m e,ts[k]=(l,s,m,e):=⟨_,_,_,_,rfl⟩;obtain⟨b,o,hab,hp⟩:=(Ha.out.below Hb.out).term k ic hx;have bD:=sI n cap k (k:Int) hab hlt rfl;have hsz:(bs l).size=l.length:=jB l;have wL:l.length<=9223372036854775807:=by have:=rR.out _ (List.getElem_mem ic);rw[hx]at this;exact this
    obtain⟨Hp,Hx⟩:=aK hp hx;clear hp hx hab;obtain⟨ae,ak⟩:=qZ (Hd.an<|Hp.an trivial);have aR:=qL (Hb.an ae);go_wp2_with fail;refine ik wr (Hb.an ae) 30 [ag s,ah m,af e] λW5 aR ae ak=>?_;go_wp2_with fail;refine(Tx [(s,m,e)] 1 _ 1 _ rfl zd (At.aGr ae.1.out)).mono ?_;rintro e w6 ⟨⟨v,rfl,hv⟩,ai⟩;obtain⟨ae,ak⟩:=qX ai ae;have Hv:=aj hv;clear hv;cases v with
    |true=>go_wp2;refine bodyPost_ret (results_tmp rfl _ _ _) rfl ⟨⟨true,rfl,λh=>by cases h⟩,ae.2.1.out⟩
    | false=>
      replace Hv:Hid (okN (s,m,e)):=Hv.out rfl (s,m,e) zm;by_cases g5:5<l.length
      . have g9:(5:Int)<(l.length:Int):=by omega
        go_wp2;refine bodyPost_ret (results_tmp rfl _ _ _) rfl ⟨⟨true,rfl,λh=>by cases h⟩,ae.2.1.out⟩
      . have g9:¬(5:Int)<(l.length:Int):=by omega
        have Hd6:=ae.2.2.1;have Hp6:=ae.2.2.2.1;have xz:=ae.2.1;go_wp2_with fail;go_loopw[4] (λx wr=>∃i:Nat,i<=l.length/\x=af (i:Int)/\(∀c∈l.take i,c.toNat<=4)/\wr=w6) (λx _=>l.length-(intOf x).toNat);case atStart=>exact⟨0,Nat.zero_le _,rfl,(λy hy=>by simp at hy),rfl⟩
        case round=>
         obtain⟨i,hi,rfl,hoi,rfl⟩:=hrel;have Hoi:=aj hoi;clear hoi;by_cases vr:i<l.length
         . have hst:=Aw l (i:Int) i vr rfl;obtain⟨c,hc⟩:=aB (l[i]);have LH:=aj hc;rw[hc]at hst;clear hc;by_cases g4:4<c.toNat
           . have g8:(4:Int)<(c.toNat:Int):=by omega
             go_wp2;refine bodyPost_ret (results_tmp rfl _ _ _) rfl ⟨⟨true,rfl,λh=>by cases h⟩,xz.out⟩
           . have g8:¬(4:Int)<(c.toNat:Int):=by omega
             have Ri:Hid (l[i].toNat<=4):=by show _<=_;rw[LH.out];omega
             go_wp2;go_roundw;case rel=>exact⟨i+1,by omega,by go_num,abm vr Hoi.out Ri.out,trivial⟩
             case measure=>exact bC
         . obtain rfl:i=l.length:=by omega
           have Ri:Hid (okN ts[k].2/\ts[k].1.length<=5/\∀c∈ts[k].1,c.toNat<=4):=by
            show _/\_
            rw[Hx.out];refine⟨Hv.out,by simpa using g5,?_⟩;have:=Hoi.out;rwa [List.take_length]at this
           go_wp2;go_roundw;case rel=>exact⟨k+1,by omega,by go_num,abm ic xH.out Ri.out,Hd6.out,xz.out⟩
           case measure=>exact bC
  . obtain rfl:k=n:=by omega
    have sX:Hid (∀t∈ts,okN t.2/\t.1.length<=5/\∀c∈t.1,c.toNat<=4):=by have:=xH.out;rwa [<-Hn.out,List.take_length]at this
    obtain⟨ae,ak⟩:=qZ (Hd.an trivial);by_cases g12:12<k
    . have g9:decide ((12:Int)<(k:Int))=true:=by rw[decide_eq_true_eq];omega
      go_wp2;refine bodyPost_ret (results_tmp rfl _ _ _) rfl ⟨⟨true,by first|rfl|simp[g9],λh=>by cases h⟩,Hb.out⟩
    . have g9:decide ((12:Int)<(k:Int))=false:=by rw[decide_eq_false_iff_not];omega
      have yY:Hid (NotWide ts):=⟨by rw[Hn.out];omega,sX.out⟩;go_wp2;refine bodyPost_ret (results_tmp rfl _ _ _) rfl ⟨⟨false,by first|rfl|simp[g9],λ_=>yY.out⟩,Hb.out⟩
def MX {a b:Nat}(h:a<=b):cQ a<=cQ b:=by
 induction b with
 | zero => obtain rfl:a=0:=by omega
           exact Nat.le_refl _
 | succ b ih=>
   by_cases e:a=b+1
   . rw[e];exact Nat.le_refl _
   . exact Nat.le_trans (ih zo) (by rw[cQ];exact Nat.le_mul_of_pos_left _ zo)
def PS (x:List Nat):jd x<=cQ x.sum:=by rw[<-Yy x];exact Nat.le_mul_of_pos_right _ (acK x)
def ajX (x:List Nat)(a:Nat):∀n s,uq n s (x++[a])=uq n s x*ch (s+x.sum+a) a:=by
 induction x with
 |nil=>intro n s;show n*ch (s+a) a=n*ch (s+0+a) a;rw[Nat.add_zero]
 | cons b x ih=>
   intro n s;show uq (n*ch (s+b) b) (s+b) (x++[a])=uq (n*ch (s+b) b) (s+b) x*_
   rw[ih,List.sum_cons,<-Nat.add_assoc]
def aBj (N s k:Nat):(N*ch (s+k) k) * (s+k+1)=N*ch (s+k+1) (k+1) * (k+1):=by rw[Nat.mul_assoc,Nat.mul_assoc,MF,Nat.mul_comm (s+k+1)]
def aBk (x:List Nat)(l:List UInt8)(hl:l=x.map UInt8.ofNat)(hx:x.sum<=10)(hxl:x.length<=100)(D:Dyadic)(hD:nD (jd x)=D)(w:World)(hT:aC w):
 Cv 14 #[ah l] w (bT D):=by
 have hlen:l.length=x.length:=by rw[hl,List.length_map]
 have hget:∀j (h:j<l.length) (h2:j<x.length),l[j].toNat=x[j]:=λj h h2=>by
  subst hl;rw[List.getElem_map,UInt8.toNat_ofNat'];have h3:x[j]<=x.sum:=by have:=xW x j;simpa[List.getD_eq_getElem?_getD,h2]using this
  exact Nat.mod_eq_of_lt zo
 have Ji:∀j k,j<x.length->k<=x.getD j 0->jd (x.take j) *ch ((x.take j).sum+k) k<=3628800/\(x.take j).sum+k<=10:=λj k hj hk=>by
  have h1:(x.take j).sum+k<=x.sum:=by
   have e:x.sum=(x.take j).sum+(x.drop j).sum:=by rw[<-List.sum_append,List.take_append_drop]
   have e2:(x.drop j).getD 0 0=x.getD j 0:=by simp[List.getD_eq_getElem?_getD]
   have:=xW (x.drop j) 0;omega
  have h2:=PS (x.take j++[k]);have h3:jd (x.take j++[k])=jd (x.take j) *ch ((x.take j).sum+k) k:=by
   show uq 1 0 _=uq 1 0 _*_
   rw[ajX,Nat.zero_add]
  have h4:(x.take j++[k]).sum=(x.take j).sum+k:=by simp
  rw[h3,h4]at h2;have h5:=MX (show(x.take j).sum+k<=10 by omega);have h6:cQ 10=3628800:=by decide
  exact⟨by omega,by omega⟩
 have htk:∀j (h:j<x.length),jd (x.take (j+1))=jd (x.take j) *ch ((x.take j).sum+x.getD j 0) (x.getD j 0)/\(x.take (j+1)).sum=(x.take j).sum+x.getD j 0:=λj h=>by
  have e:x.take (j+1)=x.take j++[x.getD j 0]:=by rw[List.take_succ_eq_append_getElem h];simp[List.getD_eq_getElem?_getD,h]
  rw[e];refine⟨?_,by simp⟩;show uq 1 0 _=uq 1 0 _*_
  rw[ajX,Nat.zero_add]
 have hsz:(bs l).size=l.length:=jB l;have hall:x.take x.length=x:=List.take_length;obtain⟨L,hL⟩:=aB x.length;have hof:=λW (hW:Bw w W)=>uP ((jd x:Nat):Int) D hD W (by have:=PS x;have:=MX hx;have h6:cQ 10=3628800:=zd;omega) (hT.below hW);have hwb:jd x<=3628800:=by have:=PS x;have:=MX hx;have h6:cQ 10=3628800:=zd;omega
 rw[hL]at hlen hxl hall;rw[hlen]at hsz;obtain⟨GJ,Dm,Mj,sX,uz,HlL,HxL⟩:=jL hget Ji htk hall hof hlen hL;clear hget Ji htk hall hof hlen hl hT hD hL;have Hb:=hbz w;obtain⟨W,cE,ae,ak⟩:=il w 30 [ag false,.string ⟨#[]⟩,af 0];go_enter Tryz.func14,Tryz.ntmps14;go_wp2_with fail;go_loopw[3,4,5] (λs3 s4 x5 wr=>∃j:Nat,j<=L/\x5=af (j:Int)/\s3=af ((jd (x.take j):Nat):Int)/\s4=af (((x.take j).sum:Nat):Int)/\W=wr) (λ_ _ x5 _=>L-(intOf x5).toNat);case atStart=>exact⟨0,Nat.zero_le _,rfl,rfl,rfl,rfl⟩
 case round=>
  obtain⟨j,hj,rfl,rfl,rfl,rfl⟩:=hrel;by_cases hlt:j<L
  . have hjl:j<l.length:=by rw[HlL.out];exact hlt
    have tT:j<x.length:=by rw[HxL.out];exact hlt
    have hst:=Aw l (j:Int) j hjl rfl;have Aj:=GJ.out j hjl tT;have NK:=Dm.out j;have VN:=Mj.out j tT;have IG:x.getD j 0=x[j]:=by simp[List.getD_eq_getElem?_getD,tT]
    rw[IG]at NK VN;rw[Aj]at hst;generalize x[j]=c at*;generalize Nu:jd (x.take j)=N0 at*;generalize hs0:(x.take j).sum=s0 at*;have aDE:c<=10:=by have:=(NK c tT (Nat.le_refl _)).2;omega
    obtain⟨xA,Htj⟩:=aK NK VN;have hwc:IntKind.i64.wrap (c:Int)=(c:Int):=by rw[IntKind.wrap_i64];omega
    clear Aj NK VN IG Nu hs0;go_wp2_with fail;go_loopw[3,4,6] (λs3 s4 x6 wr=>∃k:Nat,k<=c/\x6=af ((k:Int)+1)/\s3=af ((N0*ch (s0+k) k:Nat):Int)/\s4=af ((s0+k:Nat):Int)/\W=wr) (λ_ _ x6 _=>c+1-(intOf x6).toNat);case atStart=>exact⟨0,Nat.zero_le _,rfl,by rw[wm,Nat.mul_one],rfl,rfl⟩
    case round=>
     obtain⟨k,hk,rfl,rfl,rfl,rfl⟩:=hrel;by_cases hkc:k<c
     . have g1:(k:Int)+1<=(c:Int):=by omega
       obtain⟨h1,h2⟩:=xA.out k tT hk;obtain⟨h3,h4⟩:=xA.out (k+1) tT hkc;have h5:=aBj N0 s0 k;rw[<-Nat.add_assoc]at h3 h4;generalize N0*ch (s0+k) k=P at*;generalize kU:N0*ch (s0+k+1) (k+1)=P' at*;have hw1:IntKind.i64.wrap (((s0+k:Nat):Int)+1)=((s0+k+1:Nat):Int):=by rw[IntKind.wrap_i64];omega
       have h6:(P:Int) * ((s0+k+1:Nat):Int)=(P':Int) * ((k:Int)+1):=by have:=congrArg (λn:Nat=>(n:Int)) h5;simpa using this
       have h7:(P:Int) * ((s0+k+1:Nat):Int)<=3628800*10:=by have e:P* (s0+k+1)<=36288000:=Nat.mul_le_mul h1 h4;have e2:((P* (s0+k+1):Nat):Int)<=((36288000:Nat):Int):=Int.ofNat_le.2 e;rw[Int.natCast_mul]at e2;exact e2
       have h8:0<=(P:Int) * ((s0+k+1:Nat):Int):=Int.mul_nonneg zo zo;have hw2:wrap64 ((P:Int) * ((s0+k+1:Nat):Int))=(P:Int) * ((s0+k+1:Nat):Int):=by unfold wrap64;omega
       have hq:((P:Int) * ((s0+k+1:Nat):Int)).tdiv ((k:Int)+1)=(P':Int):=by rw[h6];exact Int.mul_tdiv_cancel _ zo
       have fN:¬(k:Int)+1=0:=by omega
       have hw3:wrap64 (P':Int)=(P':Int):=by unfold wrap64;omega
       have q3:Value.int IntKind.i64 (wrap64 ((wrap64 ((P:Int) * ((s0:Int)+(k:Int)+1))).tdiv ((k:Int)+1)))=af (P':Int):=by rw[show(s0:Int)+(k:Int)+1=((s0+k+1:Nat):Int)by omega];rw[hw2,hq,hw3]
       obtain⟨Q3,Q4⟩:=aK q3 kU;clear h5 h6 h7 h8 q3 kU hw2 hw3 hq;go_wp2;go_roundw;case rel=>exact⟨k+1,hkc,by go_num,by rw[<-Nat.add_assoc,Q4.out];exact Q3.out,by rw[<-Nat.add_assoc];go_num,trivial⟩
       case measure=>exact bC
     . obtain rfl:k=c:=by omega
       have g1:¬(k:Int)+1<=(k:Int):=by omega
       have e1:=Htj.out.1;have e2:=Htj.out.2;go_wp2;go_roundw;case rel=>exact⟨j+1,hlt,by go_num,by rw[e1],by rw[e2],trivial⟩
       case measure=>exact bC
  . obtain rfl:j=L:=by omega
    have aEg:=sX.out;go_wp2_with fail;refine aJ ae (uz.out _ ae.1.out) λw3 ae ak=>?_;go_wp2;refine dX (aV w3 (w.heap.size) 0 (bG D)) aX ?_;intro w9 hs0;have ae:=bU hs0 ae;simp only[bV,List.set]at ae;have ak:=qC ae;refine bodyPost_ret (v:=bT D) (by simp[results,Tryz.results14,go_sem,ak]) rfl ⟨rfl,ae.1.out⟩
def At.dnm {w:World}{a:Option Addr}{ds:List Dyadic}(h:At w a (dC ds))(j:Nat)(hj:j<ds.length){D:Dyadic}(hD:ds[j]=D):∃b o,a=some ⟨b,o,none⟩/\aZ w b (o+j*3) (bG D):=by rw[sf]at h;obtain⟨b,o,h1,h2,h3,h4⟩:=h.num j (by rw[List.length_map];exact hj) (show(ds.map canon)[j]'(by rw[List.length_map];exact hj)=(bE D)by rw[List.getElem_map,hD];rfl);exact⟨b,o,h1,kE h2 h3 h4⟩
def ahe {a b:Dyadic}:ju a b=true↔a<b:=by unfold ju;rw[decide_eq_true_eq,uQ];grind
def ahP {a b:Dyadic}:jw a b=true↔b<a:=by unfold jw;rw[decide_eq_true_eq,BQ];grind
def asx (xs:List Raw):∀n,n<=xs.length->∀k (h:k<xs.length),k<n->au (dR ju xs n)<=au xs[k]:=by
 intro n;induction n with
 |zero=>intro _ k _ h;exact absurd h (Nat.not_lt_zero _)
 | succ n ih=>
   intro hn k hk hkn;have e:xs.getD n (false,[],0)=xs[n]:=by simp[List.getD_eq_getElem?_getD,show n<xs.length by omega]
   have ih:=ih zo;rw[dR,e];by_cases hc:n=0\/ju (au xs[n]) (au (dR ju xs n))=true
   . rw[if_pos hc];by_cases hkn2:k=n
     . subst hkn2;exact Dyadic.le_refl _
     . have h1:=ih k hk zo;rcases hc with hc|hc
       . omega
       . have:=ahe.1 hc;generalize au xs[n]=u at*;generalize au (dR ju xs n)=v at*;clear ih hc;grind
   . rw[if_neg hc];by_cases hkn2:k=n
     . subst hkn2;have h1:¬ju (au xs[k]) (au (dR ju xs k))=true:=λh=>hc (.inr h);have:=mt ahe.2 h1;clear ih hc h1;generalize au (dR ju xs k)=v at*;grind
     . exact ih k hk zo
def asy (xs:List Raw):∀n,n<=xs.length->∀k (h:k<xs.length),k<n->au xs[k]<=au (dR jw xs n):=by
 intro n;induction n with
 |zero=>intro _ k _ h;exact absurd h (Nat.not_lt_zero _)
 | succ n ih=>
   intro hn k hk hkn;have e:xs.getD n (false,[],0)=xs[n]:=by simp[List.getD_eq_getElem?_getD,show n<xs.length by omega]
   have ih:=ih zo;rw[dR,e];by_cases hc:n=0\/jw (au xs[n]) (au (dR jw xs n))=true
   . rw[if_pos hc];by_cases hkn2:k=n
     . subst hkn2;exact Dyadic.le_refl _
     . have h1:=ih k hk zo;rcases hc with hc|hc
       . omega
       . have:=ahP.1 hc;generalize au xs[n]=u at*;generalize au (dR jw xs n)=v at*;clear ih hc;grind
   . rw[if_neg hc];by_cases hkn2:k=n
     . subst hkn2;have h1:¬jw (au xs[k]) (au (dR jw xs k))=true:=λh=>hc (.inr h);have:=mt ahP.2 h1;clear ih hc h1;generalize au (dR jw xs k)=v at*;grind
     . exact ih k hk zo
def azC (xs:List Raw)(a:Option Addr)(n cap:Nat)(X Y:Dyadic)(w:World)(hn:xs.length=n)(hl:n<=1048576)(hok:∀x∈xs,Ok x)(hat:At w a (xs.flatMap bu))(hX:au (dR ju xs n)=X)(hY:au (dR jw xs n)=Y)(hT:aC w):
 Cv 157 #[.slice a n cap] w (pV (X,Y)):=by
 have h1:=λW (hW:Bw w W)=>ace xs X a n cap W hn hl hok (hat.below hW) (hT.below hW) hX;have h2:=λW (hW:Bw w W)=>acd xs Y a n cap W hn hl hok (hat.below hW) (hT.below hW) hY;obtain⟨H1,H2⟩:=aK h1 h2;clear h1 h2 hok hat hT hX hY hn;obtain⟨W,cE,ae,ak⟩:=il w 119 [ag false,.string ⟨#[]⟩,af 0,ag false,.string ⟨#[]⟩,af 0];go_enter Tryz.func157,Tryz.ntmps157;go_wp2_with fail;refine aJ ae (H1.out _ ae.1.out) λw1 ae ak=>?_;go_wp2_with fail;refine aJ ae (H2.out _ ae.1.out) λw2 ae ak=>?_;go_wp2;refine dX (aV w2 (w.heap.size) 0 [ag (az (dN X)),ah (nt (dN X).natAbs),af (dE X),ag (az (dN Y)),ah (nt (dN Y).natAbs),af (dE Y)]) aX ?_;intro w9 hs0;have ae:=bU hs0 ae;simp only[bV,List.set]at ae;have ak:=qC ae;refine bodyPost_ret (v:=pV (X,Y)) (by simp[results,Tryz.results157,go_sem,ak]) rfl ⟨rfl,ae.1.out⟩
def iQ (ss:List (Raw×Raw)):List Raw:=ss.flatMap λs=>[s.1,s.2]
def acD (ss:List (Raw×Raw)):(iQ ss).length=ss.length*2:=by
 unfold iQ;induction ss with
 |nil=>rfl
 |cons s ss ih=>rw[List.flatMap_cons,List.length_append,ih];show 2+ss.length*2=(ss.length+1) *2;omega
def auv (ss:List (Raw×Raw))(a:Option Addr)(n cap:Nat)(X Y:Dyadic)(w:World)(hn:ss.length=n)(hl:n<=1000)(hok:∀s∈ss,Ok s.1/\Ok s.2)(hat:At w a (ss.flatMap cK))(hX:au (dR ju (iQ ss) (n*2))=X)(hY:au (dR jw (iQ ss) (n*2))=Y)(hT:aC w):
 Cv 69 #[.slice a n cap] w (pV (X,Y)):=by
 obtain⟨i0,hi,hz0,hz1,hz2⟩:=info_parts Tryz.aGt
 have hof:=λW a9 c9 (hW:Bw w W) (h9:At W a9 ((iQ ss).flatMap bu))=>azC (iQ ss) a9 (n*2) c9 X Y W (by rw[acD,hn]) zo (λx hx=>by
  unfold iQ at hx;obtain⟨s,hs,hx⟩:=List.mem_flatMap.1 hx;simp only[List.mem_cons,List.not_mem_nil,or_false]at hx;rcases hx with rfl|rfl
  . exact(hok s hs).1
  . exact(hok s hs).2) h9 hX hY (hT.below hW)
 obtain⟨Hi,eu,ey,dM,uz,Ha,Hn⟩:=jL hi hz0 hz1 hz2 hof hat hn;clear hi hz0 hz1 hz2 hof hat hn hok hX hY hT;have Hb:=hbz w;obtain⟨W,cE,ae,ak⟩:=il w 119 [ag false,.string ⟨#[]⟩,af 0,ag false,.string ⟨#[]⟩,af 0];go_enter Tryz.func69,Tryz.ntmps69;have Qt:=ae.1;go_wp2_with fail;go_loopw[3,8] (λs3 x wr=>∃(k:Nat) (v:Value),k<=n/\x=af (k:Int)/\v=s3/\wr.ownsRow W.heap.size 30 3 v (k*2) ((iQ (ss.take k)).flatMap bu)/\ar wr w.heap.size 119 [ag false,.string ⟨#[]⟩,af 0,ag false,.string ⟨#[]⟩,af 0]/\Bw W wr) (λ_ x _=>n-(intOf x).toNat);case atStart=>exact⟨0,_,Nat.zero_le _,rfl,rfl,World.ownsRow_nil _ _ _ _,ae.2.1.out,Below.refl _ _⟩
 case round=>
  skip
  obtain⟨k,v,hk,rfl,rfl,ho,hr,pb⟩:=hrel;obtain⟨Ho,za,bo,zq⟩:=dv ho hr pb (aI Qt.out pb);clear ho hr pb;by_cases hlt:k<n
  . have ic:k<ss.length:=by rw[Hn.out];exact hlt
    obtain⟨s,l,e,t,m,f,hx⟩:∃s l e t m f,ss[k]=((s,l,e),(t,m,f)):=⟨_,_,_,_,_,_,rfl⟩;obtain⟨b1,o1,dh,hw1⟩:=(Ha.out.below zq.out).spn k ic hx;have bD:=auF n cap k (k:Int) dh hlt rfl;have hst:(iQ (ss.take (k+1))).flatMap bu=(iQ (ss.take k)).flatMap bu++[ag s,ah l,af e,ag t,ah m,af f]:=by unfold iQ;rw[List.take_succ_eq_append_getElem ic,List.flatMap_append,List.flatMap_append,hx];rfl
    have bR:=aj hst;have Hy:Hid (aZ wr b1 (o1+k*6) [ag s,ah l,af e,ag t,ah m,af f]):=hw1;clear hst hx dh hw1;have Hr:=za;have Hb:=hbz wr;obtain⟨ae,ak⟩:=qZ (Hr.an<|Hy.an trivial);obtain⟨W7,Uw,aR,ae,ak⟩:=KH wr (Hb.an ae) 119 [ag s,ah l,af e,ag t,ah m,af f] 30 [ag s,ah l,af e,ag t,ah m,af f];have bW:=ownsRow_below Ho.out ae.2.2.1.out;have jq:=ae.2.2.1.out.size;have kD:=bo.out.size;have hnews:=ji ae.2.1.out;have GX:=ae.2.2.2.1;go_wp2_with (at_builtin;refine wpList_append_own_at _ rfl _ _ 35 rfl W.heap.size 30 i0 _ 3 32 Tryz.underlying35 Hi.out eu.out ey.out dM.out rfl zd v (k*2) ((iQ (ss.take k)).flatMap bu) rfl bW ⟨wr.heap.size+1,0,none⟩ 2 2 [ag s,ah l,af e,ag t,ah m,af f] rfl rfl hnews zy zx zo zo ?_;intro v' w8 gm cF _ _);have mW:=(aI bo.out ae.2.2.1.out).grown cF zo (λj e=>eo bW j e);have JS:=GX.out.row zd bW cF;rw[<-bR.out,show k*2+2=(k+1) *2 by omega]at gm;obtain⟨rS,nI,RL⟩:=cw gm mW JS;clear gm mW cF bW hnews JS GX;go_wp2;go_roundw;case rel=>exact⟨k+1,_,by omega,by go_num,rfl,rS.out,RL.out,nI.out⟩
    case measure=>exact bC
  . obtain rfl:k=n:=by omega
    have ho:=Ho.out;rw[List.take_of_length_le (by rw[Hn.out];exact Nat.le_refl _)]at ho;obtain⟨a5,c5,rfl,hat,_⟩:=dZ ho;have Hb:=zq;have dL:=aj hat;have Hr:=za;clear ho hat;obtain⟨ae,ak⟩:=qZ (Hr.an trivial);go_wp2_with fail;refine aJ (Hb.an ae) (uz.out _ a5 c5 Hb.out dL.out) λw8 ae ak=>?_;go_wp2;refine dX (aV w8 (w.heap.size) 0 [ag (az (dN X)),ah (nt (dN X).natAbs),af (dE X),ag (az (dN Y)),ah (nt (dN Y).natAbs),af (dE Y)]) aX ?_;intro w9 hs0;have ae:=bU hs0 ae;simp only[bV,List.set]at ae;have ak:=qC ae;refine bodyPost_ret (v:=pV (X,Y)) (by simp[results,Tryz.results69,go_sem,ak]) rfl ⟨rfl,ae.1.out⟩
def Mn (a0:Act)(w0:World)(cs:List (Addr×Value))(x1 x2 x3 x4 P1 P2 N:Dyadic)(dn:Nat->Bool)(a:Act)(w:World):Prop:=
 ∃v1 v2 v3 v4 v5 v6:Value,a=(((((a0.put (some 30) v1).put (some 31) v2).put (some 40) v3).put (some 41) v4).put (some 42) v5).put (some 9) v6/\iD cs w/\Bw w0 w/\
  (dn 8=true->∃b,v1=.slice (some ⟨b,0,none⟩) 2 2/\ar w b 30 [ag (az (dN x1)),ah (nt (dN x1).natAbs),af (dE x1),ag (az (dN x2)),ah (nt (dN x2).natAbs),af (dE x2)])/\(dn 9=true->v2=bT P1)/\
  (dn 18=true->∃b,v3=.slice (some ⟨b,0,none⟩) 2 2/\ar w b 30 [ag (az (dN x3)),ah (nt (dN x3).natAbs),af (dE x3),ag (az (dN x4)),ah (nt (dN x4).natAbs),af (dE x4)])/\(dn 19=true->v4=bT P2)/\(dn 20=true->v5=bT N)/\
  (dn 21=true->∃b,v6=.pointer (some ⟨b,0,none⟩)/\w0.heap.size<=b/\ar w b 30 [ag false,.string ⟨#[]⟩,af 0])
def Mn.init (a:Act)(w0 w:World)(cs:List (Addr×Value))(x1 x2 x3 x4 P1 P2 N:Dyadic)(hk:iD cs w)(hb:Bw w0 w):Mn a w0 cs x1 x2 x3 x4 P1 P2 N (λ_=>false) a w:=
 ⟨a.tmps.getD 30 undef,a.tmps.getD 31 undef,a.tmps.getD 40 undef,a.tmps.getD 41 undef,a.tmps.getD 42 undef,a.tmps.getD 9 undef,by rw[uk,uk,uk,uk,uk,uk],hk,hb,(λh=>by cases h),(λh=>by cases h),(λh=>by cases h),(λh=>by cases h),(λh=>by cases h),(λh=>by cases h)⟩
def aqg (cs ws:List Dyadic)(ms:Bool)(ml:List UInt8)(me:Int)(M:Dyadic)(n B:Nat)(a wa:Option Addr)(cap wc:Nat)(w:World)(hn:cs.length=n)(hw:ws.length=n)(hl:n<=500)(hs:∀c∈cs,Sm B c)(dF:200<=B)(hB:B<=900000)(hws:∀x∈ws,Sm 40 x)(hm:Fit 192 (ms,ml,me))(hM:au (ms,ml,me)=M)(hlt:∀q r,q<n->r<n->cs.getD q 0*ws.getD r 0-cs.getD r 0*ws.getD q 0<M* (ws.getD q 0*ws.getD r 0))(ha:At w a (dC cs))(CB:At w wa (dC ws))(hT:aC w):
 Cv 20 #[.slice a n cap,.slice wa n wc,.agg #[ag ms,ah ml,af me]] w (ag true):=by
 have hsm:∀k,k<n->Sm B (cs.getD k 0)/\Sm B (ws.getD k 0):=λk hk=>by
  have e1:cs.getD k 0=cs[k]:=by simp[List.getD_eq_getElem?_getD,show k<cs.length by omega]
  have e2:ws.getD k 0=ws[k]:=by simp[List.getD_eq_getElem?_getD,show k<ws.length by omega]
  rw[e1,e2];exact⟨hs _ (List.getElem_mem _),(hws _ (List.getElem_mem _)).mono zo⟩
 have yj:∀k,k<n->∀W (_:Bw w W),(∃b o,a=some ⟨b,o,none⟩/\aZ W b (o+k*3) [ag (az (dN (cs.getD k 0))),ah (nt (dN (cs.getD k 0)).natAbs),af (dE (cs.getD k 0))])/\∃b o,wa=some ⟨b,o,none⟩/\aZ W b (o+k*3) [ag (az (dN (ws.getD k 0))),ah (nt (dN (ws.getD k 0)).natAbs),af (dE (ws.getD k 0))]:=λk hk W hW=>
  ⟨(ha.below hW).dnm k zo (by simp[List.getD_eq_getElem?_getD,show k<cs.length by omega]),(CB.below hW).dnm k zo (by simp[List.getD_eq_getElem?_getD,show k<ws.length by omega])⟩
 obtain⟨HT,vT,DU,tj,Hm,HM⟩:=gU hT yj hsm hlt (hm.mono (show 192<=B by omega)) hM;clear hT yj hsm hlt hs hws ha CB hm hM hn hw;have Hb:=hbz w;obtain⟨W,cE,ae,ak⟩:=il w 30 [ag ms,ah ml,af me];go_enter Tryz.func20,Tryz.ntmps20;go_wp2_with fail;go_loopw[7] (λx wr=>∃i:Nat,i<=n/\x=af (i:Int)/\ar wr w.heap.size 30 [ag ms,ah ml,af me]/\Bw w wr) (λx _=>n-(intOf x).toNat);case atStart=>exact⟨0,Nat.zero_le _,rfl,ae.2.1.out,ae.1.out⟩
 case round=>
  skip
  obtain⟨i,hi,rfl,qp,pb⟩:=hrel;obtain⟨Hp,Hb⟩:=aK qp pb;clear qp pb;by_cases hlt1:i<n
  . obtain⟨wo,hwo⟩:∃wo,wo=wr:=⟨_,rfl⟩;subst hwo;go_wp2_with fail;go_loopw[8] (λx wr=>∃k:Nat,k<=n/\x=af (k:Int)/\ar wr w.heap.size 30 [ag ms,ah ml,af me]/\Bw w wr) (λx _=>n-(intOf x).toNat);case atStart=>exact⟨0,Nat.zero_le _,rfl,Hp.out,Hb.out⟩
    case round=>
     clear Hb Hp;obtain⟨k,hk,rfl,qp,pb⟩:=hrel;obtain⟨oU,ft⟩:=aK qp pb;clear qp pb;by_cases bA:k<n
     . obtain⟨⟨b1,o1,dh,hw1⟩,d1,p1,agF,hv1⟩:=vT.out i hlt1 wr ft.out;obtain⟨⟨b2,o2,dG,hw2⟩,d2,p2,agG,hv2⟩:=vT.out k bA wr ft.out;obtain⟨s1,t1⟩:=DU.out i hlt1;obtain⟨s2,t2⟩:=DU.out k bA;have hin:=tj.out i k hlt1 bA;generalize cs.getD i 0=A1 at*;generalize cs.getD k 0=A2 at*;generalize ws.getD i 0=V1 at*;generalize ws.getD k 0=V2 at*;obtain⟨P1,zV⟩:∃X,A1*V2=X:=⟨_,rfl⟩;obtain⟨P2,kU⟩:∃X,A2*V1=X:=⟨_,rfl⟩;obtain⟨N,hN⟩:∃X,P1-P2=X:=⟨_,rfl⟩;obtain⟨T,Ny⟩:∃X,M* (V1*V2)=X:=⟨_,rfl⟩;obtain⟨c,hc⟩:=aB (bg (N-T));rw[zV,kU,hN,Ny]at hin;have hc0:c<0:=by rw[<-hc];exact(uQ _).2 (by grind)
       have XA:Sm (B+B) P1:=by rw[<-zV];exact s1.mul t2
       have XB:Sm (B+B) P2:=by rw[<-kU];exact s2.mul t1
       have sN:Sm (B+B+1) N:=by rw[<-hN];exact Sm.sub XA XB
       have sT:Sm (B+(B+B)) T:=by rw[<-Ny];exact Sm.mul (by rw[<-HM.out];exact Hm.out.2) (t1.mul t2)
       have Em:Fit B (canon V1):=t1.fit zo;have TF:Fit B (canon V2):=t2.fit zo;have jX:=λb W h9 h8=>tB (az (dN A1)) (nt (dN A1).natAbs) (dE A1) (az (dN V2)) (nt (dN V2).natAbs) (dE V2) P1 B (by show au (canon A1) *au (canon V2)=P1;rw[bF,bF];exact zV) b 2 30 W (s1.fit zo) TF zo h9 h8;have hm2:=λb W h9 h8=>tB (az (dN A2)) (nt (dN A2).natAbs) (dE A2) (az (dN V1)) (nt (dN V1).natAbs) (dE V1) P2 B (by show au (canon A2) *au (canon V1)=P2;rw[bF,bF];exact kU) b 2 30 W (s2.fit zo) Em zo h9 h8;have wO:=λW h8=>Ej (az (dN P1)) (nt (dN P1).natAbs) (dE P1) (az (dN P2)) (nt (dN P2).natAbs) (dE P2) N (B+B) (by show au (canon P1)-au (canon P2)=N;rw[bF,bF];exact hN) W (XA.fit zo) (XB.fit zo) zo h8;have hm3:=λb W (h9:ar W b 30 [ag ms,ah ml,af me,ag (az (dN V1)),ah (nt (dN V1).natAbs),af (dE V1),ag (az (dN V2)),ah (nt (dN V2).natAbs),af (dE V2)]) h8=>(show Cv 61 #[.slice (some ⟨b,0,none⟩) 3 3] W (bT T)from MI [(ms,ml,me),canon V1,canon V2] B T (by simp only[jU,bF,HM.out];rw[<-Ny];grind) (some ⟨b,0,none⟩) 3 W (by intro x h;simp only[List.mem_cons,List.not_mem_nil,or_false]at h;rcases h with rfl|rfl|rfl;exact Hm.out;exact Em;exact TF) (by simp only[List.length_cons,List.length_nil];omega) zm (At.aGr h9) h8);have hcm:=λW h8=>wu (az (dN N)) (nt (dN N).natAbs) (dE N) (az (dN T)) (nt (dN T).natAbs) (dE T) c (by show bg (au (canon N)-au (canon T))=c;rw[bF,bF];exact hc) W (sN.ok zo) (sT.ok zo) h8;have ub:=mg n cap i (i:Int) dh hlt1 rfl;have Ay:=mg n cap k (k:Int) dG bA rfl;have iy1:=mg n wc i (i:Int) agF hlt1 rfl;have iy2:=mg n wc k (k:Int) agG bA rfl;obtain⟨vU,Hm2,DR,Bt,uu,fU⟩:=gU jX hm2 wO hm3 hcm (HT.out.below ft.out);have Hx:Hid (aZ wr b1 (o1+i*3) (bG A1)):=hw1;have Hy:Hid (aZ wr b2 (o2+k*3) (bG A2)):=hw2;have Hu:Hid (aZ wr d1 (p1+i*3) (bG V1)):=hv1;have Hv:Hid (aZ wr d2 (p2+k*3) (bG V2)):=hv2;have Hu0:=Hu;have Hv0:=Hv;clear jX hm2 wO hm3 hcm dh hw1 agF hv1 dG hw2 agG hv2 s1 t1 s2 t2 hin zV kU hN Ny hc XA XB sN sT Em TF;have Hb:=hbz wr;go_upto_region 7 with fail
       go_cut[9] (λs9 wx=>∃g:Nat,s9=.pointer (some ⟨g,0,none⟩)/\ar wx g 30 (bG N)/\Bw wr wx);case first=>
        clear Bt uu;obtain⟨ae,ak⟩:=qZ (Hx.an<|Hy.an<|Hu.an<|Hv.an trivial);obtain⟨Hx,Hy,Hu,Hv,_⟩:=ae;obtain⟨x0,x1,x2⟩:=Hx.out.w3;obtain⟨y0,y1,y2⟩:=Hy.out.w3;obtain⟨u0,u1,u2⟩:=Hu.out.w3;obtain⟨v0,v1,v2⟩:=Hv.out.w3;obtain⟨cs,hcs⟩:∃cs:List (Addr×Value),[(⟨b1,o1+i*3,none⟩,ag (az (dN A1))),(⟨b1,o1+i*3+1,none⟩,ah (nt (dN A1).natAbs)),(⟨b1,o1+i*3+2,none⟩,af (dE A1)),(⟨b2,o2+k*3,none⟩,ag (az (dN A2))),(⟨b2,o2+k*3+1,none⟩,ah (nt (dN A2).natAbs)),(⟨b2,o2+k*3+2,none⟩,af (dE A2)),(⟨d1,p1+i*3,none⟩,ag (az (dN V1))),(⟨d1,p1+i*3+1,none⟩,ah (nt (dN V1).natAbs)),(⟨d1,p1+i*3+2,none⟩,af (dE V1)),(⟨d2,p2+k*3,none⟩,ag (az (dN V2))),(⟨d2,p2+k*3+1,none⟩,ah (nt (dN V2).natAbs)),(⟨d2,p2+k*3+2,none⟩,af (dE V2))]=cs:=⟨_,rfl⟩;have gJ:∀w',iD cs w'->aH w' b1 (o1+i*3) (ag (az (dN A1)))/\aH w' b1 (o1+i*3+1) (ah (nt (dN A1).natAbs))/\aH w' b1 (o1+i*3+2) (af (dE A1))/\aH w' b2 (o2+k*3) (ag (az (dN A2)))/\aH w' b2 (o2+k*3+1) (ah (nt (dN A2).natAbs))/\aH w' b2 (o2+k*3+2) (af (dE A2))/\aH w' d1 (p1+i*3) (ag (az (dN V1)))/\aH w' d1 (p1+i*3+1) (ah (nt (dN V1).natAbs))/\aH w' d1 (p1+i*3+2) (af (dE V1))/\aH w' d2 (p2+k*3) (ag (az (dN V2)))/\aH w' d2 (p2+k*3+1) (ah (nt (dN V2).natAbs))/\aH w' d2 (p2+k*3+2) (af (dE V2)):=by subst hcs;intro w' h;exact⟨h.hd,h.tl.hd,h.tl.tl.hd,h.tl.tl.tl.hd,h.tl.tl.tl.tl.hd,h.tl.tl.tl.tl.tl.hd,h.tl.tl.tl.tl.tl.tl.hd,h.tl.tl.tl.tl.tl.tl.tl.hd,h.tl.tl.tl.tl.tl.tl.tl.tl.hd,h.tl.tl.tl.tl.tl.tl.tl.tl.tl.hd,h.tl.tl.tl.tl.tl.tl.tl.tl.tl.tl.hd,h.tl.tl.tl.tl.tl.tl.tl.tl.tl.tl.tl.hd⟩
        have cf:Hid (iD cs wr):=by subst hcs;show iD _ _;intro p hp;simp only[List.mem_cons,List.not_mem_nil,or_false]at hp;rcases hp with rfl|rfl|rfl|rfl|rfl|rfl|rfl|rfl|rfl|rfl|rfl|rfl<;>assumption
        refine aj1 (λw'=>iD cs w') (λi=>Nat.blt i 22) [8,9,18,19,20,21] (λk=>if k=9 then[8]else if k=19 then[9,18]else if k=20 then[9,19]else[]) [(22,false)] [0,1,2,3,4,5,6,7,10,11,12,13,14,15,16,17] zk zk rfl zk zc cf.out.drew ?_;iterate 16 (refine aio rfl rfl (v:=?_) (λw' hw'=>?_) ?_;rotate_left;(focus have hw':=gJ w' hw';obtain⟨q0,q1,q2,q3,q4,q5,q6,q7,q8,q9,q10,q11⟩:=hw';go_simp;try with_reducible rfl);try simp only[UU])
        clear x0 x1 x2 y0 y1 y2 u0 u1 u2 v0 v1 v2 Hx Hy Hu Hv gJ hcs;refine ain (λa0=>Mn a0 wr cs A1 V2 A2 V1 P1 P2 N) (Mn.init _ _ _ _ _ _ _ _ _ _ _ cf.out.drew (Below.refl _ _).drew) ?_ ?_ ?_
        . rintro dn a' w' ⟨_,_,_,_,_,_,_,h,_⟩;exact h
        . intro k0 fN dn a' w' _ hD hI;obtain⟨v1,v2,v3,v4,v5,v6,rfl,mU,gh,f1,f2,f3,f4,f5,f6⟩:=hI;simp only[List.mem_cons,List.not_mem_nil,or_false]at fN;rcases fN with rfl|rfl|rfl|rfl|rfl|rfl
          . have tF:=mU.alloc (.cells #[ag (az (dN A1)),ah (nt (dN A1).natAbs),af (dE A1),ag (az (dN V2)),ah (nt (dN V2).natAbs),af (dE V2)] 30);have hal:=(Below.refl w'.heap.size w').alloc (Nat.le_refl _) (.cells #[ag (az (dN A1)),ah (nt (dN A1).natAbs),af (dE A1),ag (az (dN V2)),ah (nt (dN V2).natAbs),af (dE V2)] 30);refine uf rfl rfl (λK hK=>?_);clear f1;simp only[Act.put,U1,U2,U3];go_simp;refine hK _ _ ⟨.slice (some ⟨w'.heap.size,0,none⟩) 2 2,v2,v3,v4,v5,v6,by simp only[Act.put,U1,U2,U3],tF,aI gh hal,λ_=>⟨_,rfl,ar.new _ _ _⟩,λh=>f2 (by simpa using h),λh=>?_,λh=>f4 (by simpa using h),λh=>f5 (by simpa using h),λh=>?_⟩
            . obtain⟨b,e,q⟩:=f3 (by simpa using h);exact⟨b,e,q.below hal⟩
            . obtain⟨b,e,hb,q⟩:=f6 (by simpa using h);exact⟨b,e,hb,q.below hal⟩
          . obtain⟨b,rfl,q⟩:=f1 (hD 8 zm);refine uf rfl rfl (λK hK=>?_);clear f1;simp only[Act.put,U1,U2,U3];go_simp;with_reducible refine(vU.out b _ q (fU.out.below gh)).mono ?_
            rintro e w2 ⟨rfl,hq⟩;refine hK _ _ ⟨_,bT P1,v3,v4,v5,v6,by simp only[Act.put,U1,U2,U3],mU.below hq,aI gh hq,λ_=>⟨b,rfl,q.below hq⟩,λ_=>rfl,λh=>?_,λh=>f4 (by simpa using h),λh=>f5 (by simpa using h),λh=>?_⟩
            . obtain⟨b,e,q⟩:=f3 (by simpa using h);exact⟨b,e,q.below hq⟩
            . obtain⟨b,e,hb,q⟩:=f6 (by simpa using h);exact⟨b,e,hb,q.below hq⟩
          . have tF:=mU.alloc (.cells #[ag (az (dN A2)),ah (nt (dN A2).natAbs),af (dE A2),ag (az (dN V1)),ah (nt (dN V1).natAbs),af (dE V1)] 30);have hal:=(Below.refl w'.heap.size w').alloc (Nat.le_refl _) (.cells #[ag (az (dN A2)),ah (nt (dN A2).natAbs),af (dE A2),ag (az (dN V1)),ah (nt (dN V1).natAbs),af (dE V1)] 30);refine uf rfl rfl (λK hK=>?_);clear f3;simp only[Act.put,U1,U2,U3];go_simp;refine hK _ _ ⟨v1,v2,.slice (some ⟨w'.heap.size,0,none⟩) 2 2,v4,v5,v6,by simp only[Act.put,U1,U2,U3],tF,aI gh hal,λh=>?_,λh=>f2 (by simpa using h),λ_=>⟨_,rfl,ar.new _ _ _⟩,λh=>f4 (by simpa using h),λh=>f5 (by simpa using h),λh=>?_⟩
            . obtain⟨b,e,q⟩:=f1 (by simpa using h);exact⟨b,e,q.below hal⟩
            . obtain⟨b,e,hb,q⟩:=f6 (by simpa using h);exact⟨b,e,hb,q.below hal⟩
          . obtain⟨b,rfl,q⟩:=f3 (hD 18 zm);obtain rfl:=f2 (hD 9 zm);refine uf rfl rfl (λK hK=>?_);clear f3;simp only[Act.put,U1,U2,U3];go_simp;with_reducible refine(Hm2.out b _ q (fU.out.below gh)).mono ?_
            rintro e w2 ⟨rfl,hq⟩;refine hK _ _ ⟨v1,bT P1,.slice (some ⟨b,0,none⟩) 2 2,bT P2,v5,v6,by simp only[Act.put,U1,U2,U3],mU.below hq,aI gh hq,λh=>?_,λ_=>rfl,λ_=>⟨b,rfl,q.below hq⟩,λ_=>rfl,λh=>f5 (by simpa using h),λh=>?_⟩
            . obtain⟨b,e,q⟩:=f1 (by simpa using h);exact⟨b,e,q.below hq⟩
            . obtain⟨b,e,hb,q⟩:=f6 (by simpa using h);exact⟨b,e,hb,q.below hq⟩
          . obtain rfl:=f2 (hD 9 zm);obtain rfl:=f4 (hD 19 zm);refine uf rfl rfl (λK hK=>?_);clear f2 f4;simp only[Act.put,U1,U2,U3];go_simp;with_reducible refine(DR.out _ (fU.out.below gh)).mono ?_
            rintro e w2 ⟨rfl,hq⟩;refine hK _ _ ⟨v1,_,v3,_,bT N,v6,by simp only[Act.put,U1,U2,U3],mU.below hq,aI gh hq,λh=>?_,λ_=>rfl,λh=>?_,λ_=>rfl,λ_=>rfl,λh=>?_⟩
            . obtain⟨b,e,q⟩:=f1 (by simpa using h);exact⟨b,e,q.below hq⟩
            . obtain⟨b,e,q⟩:=f3 (by simpa using h);exact⟨b,e,q.below hq⟩
            . obtain⟨b,e,hb,q⟩:=f6 (by simpa using h);exact⟨b,e,hb,q.below hq⟩
          . have tF:=mU.alloc (.cells #[ag false,.string ⟨#[]⟩,af 0] 30);have hal:=(Below.refl w'.heap.size w').alloc (Nat.le_refl _) (.cells #[ag false,.string ⟨#[]⟩,af 0] 30);refine uf rfl rfl (λK hK=>?_);clear f6;simp only[Act.put,U1,U2,U3];go_simp;refine hK _ _ ⟨v1,v2,v3,v4,v5,.pointer (some ⟨w'.heap.size,0,none⟩),by simp only[Act.put,U1,U2,U3],tF,aI gh hal,λh=>?_,λh=>f2 (by simpa using h),λh=>?_,λh=>f4 (by simpa using h),λh=>f5 (by simpa using h),λ_=>⟨_,rfl,gh.size,ar.new _ _ _⟩⟩
            . obtain⟨b,e,q⟩:=f1 (by simpa using h);exact⟨b,e,q.below hal⟩
            . obtain⟨b,e,q⟩:=f3 (by simpa using h);exact⟨b,e,q.below hal⟩
        . intro dn a' w' hall hI;obtain⟨v1,v2,v3,v4,v5,v6,rfl,mU,gh,f1,f2,f3,f4,f5,f6⟩:=hI;obtain rfl:=f5 (hall 20 zm);obtain⟨b,rfl,hb,q⟩:=f6 (hall 21 zm);obtain⟨wV,asb,np,asc,CP,aCQ⟩:=q.g3;have Ui:=((q.set 0 (ag (az (dN N)))).set 1 (ah (nt (dN N).natAbs))).set 2 (af (dE N));have TS:=((gh.sc b 0 hb (ag (az (dN N)))).sc b 1 hb (ah (nt (dN N).natAbs))).sc b 2 hb (af (dE N));clear f1 f2 f3 f4 f5 f6;refine aM rfl rfl (λK hK=>?_);simp only[Act.put,U1,U2,U3];go_simp;refine hK _ _ (λh=>absurd h zd) ?_;simp only[bH];go_wp2_with fail;go_meet;exact⟨b,rfl,Ui,TS⟩
       case rest=>
        obtain⟨g,rfl,qx,qb⟩:=hcut;obtain⟨Hf,Hp,sY,yS⟩:=dv qx (oU.out.below qb) (aI ft.out qb) (fU.out.below qb);have Hu:Hid (aZ wc d1 (p1+i*3) (bG V1)):=Hu0.out.below qb;have Hv:Hid (aZ wc d2 (p2+k*3) (bG V2)):=Hv0.out.below qb;clear qx qb Hx Hy Hu0 Hv0 vU Hm2 DR Hb oU ft fU;have Hb:=hbz wc;have hc1:¬0<=c:=by omega
        obtain⟨ae,ak⟩:=qZ (Hf.an<|Hp.an<|Hu.an<|Hv.an trivial);go_wp2_with fail;have ae:=Hb.an ae;refine fT 999 ae (fH 14 0x1b18161413110f0d0b0907050301) ?_;refine cG ?_;refine vG 30 [ag ms,ah ml,af me,ag (az (dN V1)),ah (nt (dN V1).natAbs),af (dE V1),ag (az (dN V2)),ah (nt (dN V2).natAbs),af (dE V2)] ae λW9 aR ae=>?_;refine cV ae (Bt.out _ _ ae.1.out (yS.out.below ae.2.1.out)) λdw ae=>?_;refine cV ae (uu.out _ (yS.out.below ae.2.1.out)) λir ae=>?_;refine cG ?_;refine fR ae λak=>?_;go_wp2;go_roundw;case rel=>exact⟨k+1,by omega,by go_num,ae.2.2.2.1.out,aI sY.out ae.2.1.out⟩
        case measure=>exact bC
     . obtain rfl:k=n:=by omega
       go_wp2;go_roundw;case rel=>exact⟨i+1,by omega,by go_num,oU.out,ft.out⟩
       case measure=>exact bC
  . obtain rfl:i=n:=by omega
    go_wp2;refine bodyPost_ret (results_tmp rfl _ _ _) rfl ⟨rfl,Hb.out⟩
end Go.Proofs.YtbkopgdpcijfbaaGreatDoor
namespace Go.Proofs.YtbkopgdpcijfbaaGreatDoor
open Go.RowKit
def asr {V D C N:Nat}{rows:List (List Raw)}{cs:List Dyadic}(hV:1<=V)(hD:D<=20)(hN:cnt V D=N)(uV:N<=512)(hs:∀c∈cs,Sm C c)(s:Bool):(∀c∈uS V D s rows cs,Sm (C+10794) c)/\(uS V D s rows cs).length=N:=by
 have hF:=yD (cH rows V) (V+1) zo;unfold uS;cases s with
 |false=>rw[if_neg zm];exact⟨aef hs hD zo zo,by rw[aee,hN]⟩
 |true=>rw[if_pos rfl];exact⟨aef hs hD zo zo,by rw[aee,hN]⟩
def apE {V D B C N:Nat}{rows:List (List Raw)}{cs:List Dyadic}(hV:1<=V)(hD:D<=20)(hN:cnt V D=N)(uV:N<=512)(hr:Rw V B rows)(hs:∀c∈cs,Sm C c)(hl:cs.length=N)(ss:List Bool)(hB:B+3*ss.length<=10000000):
 Rw V (B+3*ss.length) (gL V D ss (rows,cs)).1/\(∀c∈(gL V D ss (rows,cs)).2,Sm (C+10794*ss.length) c)/\(gL V D ss (rows,cs)).2.length=N:=by
 induction ss generalizing B C rows cs with
 |nil=>exact⟨hr,hs,hl⟩
 |cons s ss ih=>rw[List.length_cons]at hB⊢;obtain⟨f1,f2⟩:=asr (rows:=rows) hV hD hN uV hs s;have h:=ih (Ew hr hV zo s) f1 f2 zo;rw[show B+3+3*ss.length=B+3* (ss.length+1)by omega,show C+10794+10794*ss.length=C+10794* (ss.length+1)by omega]at h;exact h
def xq (V d:Nat):List Dyadic:=(bz (V+1) d).map λx=>nD (jd x)
def aBD {V d N:Nat}(h:cnt V d=N):(xq V d).length=N:=by unfold xq;rw[List.length_map,pQ,h]
def aBB {V d k:Nat}(h:k<(bz (V+1) d).length):(xq V d).getD k 0=nD (jd ((bz (V+1) d).getD k [])):=by unfold xq;simp[List.getD_eq_getElem?_getD,h]
def aBA {V d k:Nat}(h:k<(xq V d).length)(h2:k<(bz (V+1) d).length):(xq V d)[k]=nD (jd (bz (V+1) d)[k]):=by simp[xq]
def awK {n:Nat}(h:n<=3628800):Sm 40 (nD n):=by
 refine⟨(n:Int) *2^40,?_,?_⟩
 . have:=mz (n:Int) 40 0;rw[Int.zero_add]at this;exact this.symm
 . rw[Int.natAbs_mul,Int.natAbs_pow];show(n:Int).natAbs*2^40<2^80
   rw[Int.natAbs_natCast];omega
def axm {n:Nat}(h:1<=n):1<=nD n:=(yJ 1 (n:Int) 0).2 zo
def aBC {V d:Nat}(hd:d<=10):∀x∈xq V d,1<=x/\Sm 40 x:=by
 intro x hx;unfold xq at hx;obtain⟨y,hy,rfl⟩:=List.mem_map.1 hx;have h1:=(sO V d y).1 hy;have h2:=PS y;have h3:=MX (show y.sum<=10 by omega);have h6:cQ 10=3628800:=by decide
 refine⟨axm ?_,awK zo⟩;have h4:=Yy y;have h5:=MZ y.sum;rw[<-h4]at h5;exact Nat.pos_of_mul_pos_right h5
def abQ {g:Nat}(vs:List Value):∀(o:Nat) (w:World),Chg (λb=>b=g) w (xg g o vs w):=by
 induction vs with
 |nil=>intro o w;exact Chg.refl _ _
 |cons v vs ih=>intro o w;exact(ap1 (Y:=λb=>b=g) (Chg.refl _ _) g o v rfl).trans (ih _ _) λ_ h=>.inl h
def abP {w W:World}{g o:Nat}{vs:List Value}(k:aV w g o vs W):Chg (λb=>b=g) w W:=by
 rcases k with rfl|rfl
 . exact abQ vs o w
 . exact(Chg.of_below (Y:=λb=>b=g) (Below.refl _ _).drew).trans (abQ vs o w.drew) λ_ h=>.inl h
def ass {w:World}{g:Nat}{t:TypeId}{V D:Int}{a:Option Addr}{n c:Nat}(hb:ar w g t [af V,af D,.slice a n c])(o:Nat)(s:Bool):w.cell? ⟨g,o,none⟩≠some (ag s):=by rw[hb.cell];rcases o with _|_|_|o<;>simp
def aiA {w W:World}{g o:Nat}{t:TypeId}{V D:Int}{x:Option Addr}{n c:Nat}{vs:List Value}{a:Option Addr}{xs:List Raw}(h:At w a (xs.flatMap bu))(hb:ar w g t [af V,af D,.slice x n c])(k:aV w g o vs W):At W a (xs.flatMap bu):=by
 cases xs with
 |nil=>exact .inl rfl
 | cons r rs=>
   refine At.chgS h (abP k) ?_;rintro b o2 rfl rfl;rcases h with h|⟨b,o3,e,hc⟩
   . cases h
   . simp only[Option.some.injEq,Addr.mk.injEq,and_true]at e;obtain⟨rfl,rfl⟩:=e;exact ass hb _ _ (hc 0 (by simp[bu]))
def Ei {w W:World}{g o:Nat}{t:TypeId}{V D:Int}{x:Option Addr}{n c:Nat}{vs:List Value}{a:Option Addr}{ds:List Dyadic}(h:At w a (dC ds))(hb:ar w g t [af V,af D,.slice x n c])(k:aV w g o vs W):At W a (dC ds):=by rw[sf]at h⊢;exact aiA h hb k
def XY {w W:World}{g o:Nat}{t:TypeId}{V D:Int}{x:Option Addr}{n c:Nat}{vs:List Value}{a:Option Addr}{rows:List (List Raw)}(h:bJ w a rows)(h2:2<=rows.length)(hb:ar w g t [af V,af D,.slice x n c])(k:aV w g o vs W):bJ W a rows:=by
 have yn:=h.row 0 zo;have hr1:=h.row 1 zo;obtain⟨b0,o0,x0,c0,e0,q0,_⟩:=yn;obtain⟨b1,o1,x1,c1,e1,q1,_⟩:=hr1;subst e0;simp only[Option.some.injEq,Addr.mk.injEq,and_true]at e1;obtain⟨rfl,rfl⟩:=e1;obtain⟨vals,hl,ha,hp⟩:=h;refine⟨vals,hl,At.chgS ha (abP k) ?_,λi h1 h2=>?_⟩
 . rintro b o2 e rfl;simp only[Option.some.injEq,Addr.mk.injEq,and_true]at e;obtain⟨rfl,rfl⟩:=e;rw[hb.cell]at q0 q1;rcases o0 with _|_|_|o0<;>simp at q0 q1
 . obtain⟨a',c',hv,hat⟩:=hp i h1 h2;exact⟨a',c',hv,aiA hat hb k⟩
end Go.Proofs.YtbkopgdpcijfbaaGreatDoor
namespace Go.Proofs.YtbkopgdpcijfbaaGreatDoor
open Go.RowKit
attribute [local go_sem ↓] Go.wp_at_zero Go.wp_at_succ
def jQ (cs ws:List Dyadic)(n:Nat):List (Raw×Raw):=(List.range n).map λk=>(canon (fy (cs.getD k 0) (ws.getD k 0)),canon (-fy (-cs.getD k 0) (ws.getD k 0)))
def arD (ss:List (Raw×Raw))(n:Nat)(hn:ss.length=n):∀x∈iQ ss,au (dR ju (iQ ss) (n*2))<=au x/\au x<=au (dR jw (iQ ss) (n*2)):=λx hx=>by
 obtain⟨k,hk,rfl⟩:=List.mem_iff_getElem.1 hx;have hl:(iQ ss).length=n*2:=by rw[acD,hn]
 exact⟨asx _ _ zo k hk zo,asy _ _ zo k hk zo⟩
def azJ {cs ws:List Dyadic}{n B:Nat}{lo hi:Dyadic}(hn:cs.length=n)(hw:ws.length=n)(h1:1<=n)(hs:∀c∈cs,Sm B c)(hws:∀x∈ws,1<=x)(hlo:au (dR ju (iQ (jQ cs ws n)) (n*2))=lo)(hhi:au (dR jw (iQ (jQ cs ws n)) (n*2))=hi):
 lo<=hi/\Sm (B+21) lo/\Sm (B+21) hi/\∀k,k<n->lo*ws.getD k 0<=cs.getD k 0/\cs.getD k 0<=hi*ws.getD k 0:=by
 have hsl:(jQ cs ws n).length=n:=by unfold jQ;simp
 have hin:=arD (jQ cs ws n) n hsl;rw[hlo,hhi]at hin;have hg:∀k,k<n->cs.getD k 0∈cs/\ws.getD k 0∈ws:=λk hk=>by
  have e1:cs.getD k 0=cs[k]:=by simp[List.getD_eq_getElem?_getD,show k<cs.length by omega]
  have e2:ws.getD k 0=ws[k]:=by simp[List.getD_eq_getElem?_getD,show k<ws.length by omega]
  rw[e1,e2];exact⟨List.getElem_mem _,List.getElem_mem _⟩
 have hm:∀k,k<n->canon (fy (cs.getD k 0) (ws.getD k 0))∈iQ (jQ cs ws n)/\canon (-fy (-cs.getD k 0) (ws.getD k 0))∈iQ (jQ cs ws n):=λk hk=>by unfold iQ jQ;exact⟨List.mem_flatMap.2 ⟨_,List.mem_map.2 ⟨k,List.mem_range.2 hk,rfl⟩,by simp⟩,List.mem_flatMap.2 ⟨_,List.mem_map.2 ⟨k,List.mem_range.2 hk,rfl⟩,by simp⟩⟩
 have hall:∀x∈iQ (jQ cs ws n),Sm (B+21) (au x):=λx hx=>by
  unfold iQ jQ at hx;obtain⟨s,hs2,hx⟩:=List.mem_flatMap.1 hx;obtain⟨k,hk,rfl⟩:=List.mem_map.1 hs2;obtain⟨g1,g2⟩:=hg k (List.mem_range.1 hk);simp only[List.mem_cons,List.not_mem_nil,or_false]at hx;rcases hx with rfl|rfl
  . rw[bF];exact Iq (hs _ g1) (hws _ g2)
  . rw[bF];exact Sm.neg (Iq (Sm.neg (hs _ g1)) (hws _ g2))
 refine⟨?_,by rw[<-hlo];exact TE ju _ (λx=>Sm (B+21) (au x)) (Sm.zero _) hall _,by rw[<-hhi];exact TE jw _ (λx=>Sm (B+21) (au x)) (Sm.zero _) hall _,λk hk=>?_⟩
 . have:=hin _ (hm 0 zo).1;exact Dyadic.le_trans this.1 this.2
 . obtain ⟨m1,m2⟩:=hm k hk;obtain⟨_,g2⟩:=hg k hk;have h2:=hws _ g2;have hp:0<ws.getD k 0:=by
    have:(0:Dyadic)<1:=by decide+kernel
    grind
   have f1:=(SP (cs.getD k 0) (ws.getD k 0) hp).1;have f2:=(SP (-cs.getD k 0) (ws.getD k 0) hp).1;have i1:=(hin _ m1).1;have i2:=(hin _ m2).2;rw[bF]at i1 i2;have k1:=gP (x:=fy (cs.getD k 0) (ws.getD k 0)-lo) (y:=ws.getD k 0) (by grind) (by grind);have k2:=gP (x:=hi- -fy (-cs.getD k 0) (ws.getD k 0)) (y:=ws.getD k 0) (by grind) (by grind);generalize fy (cs.getD k 0) (ws.getD k 0)=q1 at*;generalize fy (-cs.getD k 0) (ws.getD k 0)=q2 at*;generalize cs.getD k 0=c at*;generalize ws.getD k 0=v at*;clear hin hm hall hg hs hws;constructor<;>grind
def azK (cs ws:List Dyadic)(n B:Nat)(a wa:Option Addr)(cap wc:Nat)(w:World)(hn:cs.length=n)(hw:ws.length=n)(h1:1<=n)(hl:n<=500)(hs:∀c∈cs,Sm B c)(hB:B<=900000)(hws:∀x∈ws,1<=x/\Sm 40 x)(ha:At w a (dC cs))(CB:At w wa (dC ws))(hT:aC w):
 Cl 16 #[.slice a n cap,.slice wa n wc] w λe w'=>(∃lo hi:Dyadic,e=.returned (bT (hi-lo))/\lo<=hi/\Sm (B+22) (hi-lo)/\∀k,k<n->lo*ws.getD k 0<=cs.getD k 0/\cs.getD k 0<=hi*ws.getD k 0)/\Bw w w':=by
 obtain⟨i0,hi,hz0,hz1,hz2⟩:=info_parts Tryz.aGx;obtain⟨lo,hlo⟩:∃X,au (dR ju (iQ (jQ cs ws n)) (n*2))=X:=⟨_,rfl⟩;obtain⟨hh,hhi⟩:∃X,au (dR jw (iQ (jQ cs ws n)) (n*2))=X:=⟨_,rfl⟩;have Ak:=azJ hn hw h1 hs (λx hx=>(hws x hx).1) hlo hhi;have hsl:(jQ cs ws n).length=n:=by unfold jQ;simp
 have hg:∀k,k<n->cs.getD k 0∈cs/\ws.getD k 0∈ws:=λk hk=>by
  have e1:cs.getD k 0=cs[k]:=by simp[List.getD_eq_getElem?_getD,show k<cs.length by omega]
  have e2:ws.getD k 0=ws[k]:=by simp[List.getD_eq_getElem?_getD,show k<ws.length by omega]
  rw[e1,e2];exact⟨List.getElem_mem _,List.getElem_mem _⟩
 have lh:∀k (h:k<(jQ cs ws n).length),(jQ cs ws n)[k]=(canon (fy (cs.getD k 0) (ws.getD k 0)),canon (-fy (-cs.getD k 0) (ws.getD k 0))):=λk h=>by unfold jQ;simp
 have hok:∀s∈jQ cs ws n,Ok s.1/\Ok s.2:=λs hs2=>by unfold jQ at hs2;obtain⟨k,hk,rfl⟩:=List.mem_map.1 hs2;obtain⟨g1,g2⟩:=hg k (List.mem_range.1 hk);exact⟨(Iq (hs _ g1) (hws _ g2).1).ok zo,(Sm.neg (Iq (Sm.neg (hs _ g1)) (hws _ g2).1)).ok zo⟩
 have hq:=λk (hk:k<n) W2 (eO:aC W2)=>(by
  obtain⟨g1,g2⟩:=hg k hk;have hp:0<ws.getD k 0:=by
   have:(0:Dyadic)<1:=by decide+kernel
   have:=(hws _ g2).1;grind
  exact ayw (cs.getD k 0) (ws.getD k 0) (fy (cs.getD k 0) (ws.getD k 0),-fy (-cs.getD k 0) (ws.getD k 0)) B W2 (hs _ g1) zo hp (hws _ g2).1 (hws _ g2).2 rfl eO)
 have hhl:=λW a9 c9 (hW:Bw w W) (h9:At W a9 ((jQ cs ws n).flatMap cK))=>auv (jQ cs ws n) a9 n c9 lo hh W hsl zo hok h9 hlo hhi (hT.below hW);have hwd:xn (lo,hh)=hh-lo:=by
  have e:iZ (lo,hh)=(lo,hh):=by unfold iZ;rw[if_neg];intro h;have:=(BQ _).1 h;have:=Ak.1;grind
  unfold xn;rw[e]
 have hwt:=λW2 (eO:aC W2)=>XK (az (dN lo)) (nt (dN lo).natAbs) (dE lo) (az (dN hh)) (nt (dN hh).natAbs) (dE hh) (B+21) (hh-lo) (by show xn (au (canon lo),au (canon hh))=_;rw[bF,bF];exact hwd) W2 (Ak.2.1.fit zo) (Ak.2.2.1.fit zo) zo eO;have hfin:lo<=hh/\Sm (B+22) (hh-lo)/\∀k,k<n->lo*ws.getD k 0<=cs.getD k 0/\cs.getD k 0<=hh*ws.getD k 0:=⟨Ak.1,Sm.sub Ak.2.2.1 Ak.2.1,Ak.2.2.2⟩;have yj:∀k,k<n->∀W (_:Bw w W),(∃b o,a=some ⟨b,o,none⟩/\aZ W b (o+k*3) [ag (az (dN (cs.getD k 0))),ah (nt (dN (cs.getD k 0)).natAbs),af (dE (cs.getD k 0))])/\∃b o,wa=some ⟨b,o,none⟩/\aZ W b (o+k*3) [ag (az (dN (ws.getD k 0))),ah (nt (dN (ws.getD k 0)).natAbs),af (dE (ws.getD k 0))]:=λk hk W hW=>
  ⟨(ha.below hW).dnm k zo (by simp[List.getD_eq_getElem?_getD,show k<cs.length by omega]),(CB.below hW).dnm k zo (by simp[List.getD_eq_getElem?_getD,show k<ws.length by omega])⟩
 obtain⟨Hi,eu,ey,dM,Hhl,Hwt,uv,Hq,oV,DT,HT,vT⟩:=ie hi hz0 hz1 hz2 hhl hwt hfin hq lh hsl hT yj;clear hi hz0 hz1 hz2 hhl hwt hfin hq lh hsl hT yj Ak hg hok hwd hlo hhi hs hws ha CB hn hw;generalize jQ cs ws n=ss at*;have Hb:=hbz w;obtain⟨W,cE,ae,ak⟩:=il w 30 [ag false,.string ⟨#[]⟩,af 0];go_enter Tryz.func16,Tryz.ntmps16;have Qt:=ae.1;go_wp2_with fail;go_loopw[5,6] (λs5 x wr=>∃(k:Nat) (v:Value),k<=n/\x=af (k:Int)/\v=s5/\wr.ownsRow W.heap.size 119 6 v k ((ss.take k).flatMap cK)/\ar wr w.heap.size 30 [ag false,.string ⟨#[]⟩,af 0]/\Bw W wr) (λ_ x _=>n-(intOf x).toNat);case atStart=>exact⟨0,_,Nat.zero_le _,rfl,rfl,World.ownsRow_nil _ _ _ _,ae.2.1.out,Below.refl _ _⟩
 case round=>
  skip
  obtain⟨k,v,hk,rfl,rfl,ho,hr,pb⟩:=hrel;obtain⟨Ho,za,bo,zq⟩:=dv ho hr pb (aI Qt.out pb);clear ho hr pb;by_cases hlt:k<n
  . have ic:k<ss.length:=by rw[DT.out];exact hlt
    obtain⟨⟨b1,o1,dh,hw1⟩,b2,o2,dG,hw2⟩:=vT.out k hlt wr zq.out;have hqk:=Hq.out k hlt;have hsk:=oV.out k ic;generalize cs.getD k 0=C at*;generalize ws.getD k 0=V at*;generalize fy C V=Q1 at*;generalize-fy (-C) V=Q2 at*;have bD:=mg n cap k (k:Int) dh hlt rfl;have kv:=mg n wc k (k:Int) dG hlt rfl;have hst:(ss.take (k+1)).flatMap cK=(ss.take k).flatMap cK++[ag (az (dN Q1)),ah (nt (dN Q1).natAbs),af (dE Q1),ag (az (dN Q2)),ah (nt (dN Q2).natAbs),af (dE Q2)]:=by rw[List.take_succ_eq_append_getElem ic,List.flatMap_append,hsk];rfl
    obtain⟨bR,Hqk,fU⟩:=cw hst hqk (HT.out.below zq.out);have Hx:Hid (aZ wr b1 (o1+k*3) (bG C)):=hw1;have Hz:Hid (aZ wr b2 (o2+k*3) (bG V)):=hw2;clear hst hsk hqk dh hw1 dG hw2;have Hb:=hbz wr;go_upto_region 5 with fail
    go_cut[7,8] (λs7 s8 wx=>∃g:Nat,s7=.pointer (some ⟨g,0,none⟩)/\s8=af 0/\wr.heap.size<=g/\ar wx g 119 [ag (az (dN Q1)),ah (nt (dN Q1).natAbs),af (dE Q1),ag (az (dN Q2)),ah (nt (dN Q2).natAbs),af (dE Q2)]/\Bw wr wx);case first=>
     obtain⟨ae,ak⟩:=qZ (Hx.an<|Hz.an trivial);obtain⟨Hx,Hz,_⟩:=ae;obtain⟨x0,x1,x2⟩:=Hx.out.w3;obtain⟨z0,z1,z2⟩:=Hz.out.w3;have gJ:∀w',ez wr w'->aH w' b1 (o1+k*3) (ag (az (dN C)))/\aH w' b1 (o1+k*3+1) (ah (nt (dN C).natAbs))/\aH w' b1 (o1+k*3+2) (af (dE C))/\aH w' b2 (o2+k*3) (ag (az (dN V)))/\aH w' b2 (o2+k*3+1) (ah (nt (dN V).natAbs))/\aH w' b2 (o2+k*3+2) (af (dE V)):=λw' h=>⟨cell_later h x0,cell_later h x1,cell_later h x2,cell_later h z0,cell_later h z1,cell_later h z2⟩;refine Bd (λw'=>ez wr w') (λi=>Nat.blt i 14) 12 119 [ag false,.string ⟨#[]⟩,af 0,ag false,.string ⟨#[]⟩,af 0] [(0,true),(1,true),(2,true),(3,true),(4,true),(5,true),(6,true),(7,true),(8,false),(9,true),(10,true),(11,true)] [(13,false),(14,false)] zk zk rfl rfl rfl zk zk zc zc (λK a w h=>AR rfl rfl (λK' hK=>by go_simp;exact hK _ _ h)) ?_;clear x0 x1 x2 z0 z1 z2 Hx Hz;intro wrf ai;replace Hb:=aj (aI Hb.out ai);refine⟨Hb.out,?_⟩;iterate 8 (refine rK rfl rfl (v:=?_) (λw' hw'=>?_) ?_;rotate_left;(focus have hw':=gJ w' hw';obtain⟨q0,q1,q2,q3,q4,q5⟩:=hw';go_simp;try with_reducible rfl);try simp only[UU])
     refine oH rfl rfl (λK hK=>?_);go_simp;with_reducible refine(Hqk.out _ (fU.out.below Hb.out)).mono ?_
     rintro e w9 ⟨rfl,hq⟩;refine hK _ _ hq (λw5 ai hb2=>?_);replace Hb:=aj (aI Hb.out ai);refine⟨Hb.out,?_⟩;clear ai hb2 hq hK K;try simp only[UU]
     iterate 3 (refine rK rfl rfl (v:=?_) (λw' hw'=>?_) ?_;rotate_left;(focus go_simp;try with_reducible rfl);try simp only[UU])
     intro iI hb0 qx;have Hh:=aj qx;clear qx;obtain⟨h0,Ty,h1,Tz,h2,TA,h3,fh3,h4,fh4,h5,fh5⟩:=Hh.out.g6;try simp only[U1]
     try simp only[Act.put,U2,U3]
     refine aM rfl rfl (λK hK=>?_);go_simp;refine hK _ _ (λ_=>((((((Hb.out.setCell zp _).setCell zp _).setCell zp _).setCell zp _).setCell zp _).setCell zp _)) ?_;try simp only[UU]
     refine aM rfl rfl (λK hK=>?_);go_simp;refine hK _ _ (λh=>absurd h zd) ?_;try simp only[UU]
     simp only[bH];go_wp2_with fail;go_meet;exact⟨iI,rfl,rfl,hb0,(((((Hh.out.set 0 _).set 1 _).set 2 _).set 3 _).set 4 _).set 5 _,(((((Hb.out.setCell zp _).setCell zp _).setCell zp _).setCell zp _).setCell zp _).setCell zp _⟩
    case rest=>
     obtain⟨g,rfl,rfl,vk,qg,qb⟩:=hcut;obtain⟨Hr,Hy⟩:=aK (za.out.below qb) qg;clear Hb;have Hb:=aj qb;clear qg qb Hx Hz bD kv vk;obtain⟨ae,ak⟩:=qZ (Hy.an trivial);have szc:=Hb.out.size;obtain⟨W7,Uw,aR,ae,ak⟩:=bX wc (Hb.an ae) 119 [ag (az (dN Q1)),ah (nt (dN Q1).natAbs),af (dE Q1),ag (az (dN Q2)),ah (nt (dN Q2).natAbs),af (dE Q2)];have bW:=ownsRow_below Ho.out ae.2.1.out;have jq:=ae.2.1.out.size;have kD:=bo.out.size;have hnews:=ji ae.1.out;have GX:=aj (za.out.below ae.2.1.out);go_wp2_with (at_builtin;refine wpList_append_own_at _ rfl _ _ 57 rfl W.heap.size 119 i0 _ 6 64 Tryz.underlying57 Hi.out eu.out ey.out dM.out rfl zd v k ((ss.take k).flatMap cK) rfl bW ⟨wc.heap.size,0,none⟩ 1 1 [ag (az (dN Q1)),ah (nt (dN Q1).natAbs),af (dE Q1),ag (az (dN Q2)),ah (nt (dN Q2).natAbs),af (dE Q2)] rfl rfl hnews zy zx zo zo ?_;intro v' w8 gm cF _ _);have mW:=(aI bo.out ae.2.1.out).grown cF zo (λj e=>eo bW j e);have JS:=GX.out.row zd bW cF;rw[<-bR.out]at gm;obtain⟨rS,nI,RL⟩:=cw gm mW JS;clear gm mW cF bW hnews JS GX;go_wp2;go_roundw;case rel=>exact⟨k+1,_,by omega,by go_num,rfl,rS.out,RL.out,nI.out⟩
     case measure=>exact bC
  . obtain rfl:k=n:=by omega
    have ho:=Ho.out;rw[List.take_of_length_le (by rw[DT.out];exact Nat.le_refl _)]at ho;obtain⟨a5,c5,rfl,hat,_⟩:=dZ ho;have Hb:=zq;have dL:=aj hat;have Hr:=za;clear ho hat;generalize hX:hh-lo=X at*;obtain⟨ae,ak⟩:=qZ (Hr.an trivial);go_wp2_with fail;refine aJ (Hb.an ae) (Hhl.out _ a5 c5 Hb.out dL.out) λw8 ae ak=>?_;go_wp2_with fail;refine aJ ae (Hwt.out _ (HT.out.below ae.1.out)) λw9 ae ak=>?_;go_wp2;refine dX (aV w9 (w.heap.size) 0 (bG X)) aX ?_;intro dw hs0;have ae:=bU hs0 ae;simp only[bV,List.set]at ae;have ak:=qC ae;refine bodyPost_ret (v:=bT X) (by simp[results,Tryz.results16,go_sem,ak]) rfl ⟨⟨lo,hh,by rw[hX],by rw[hX];exact uv.out⟩,ae.1.out⟩
end Go.Proofs.YtbkopgdpcijfbaaGreatDoor
