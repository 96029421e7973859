/- Package tri: Size,Check,up to three variables. -/
import Derived.Test.YtpfgffadgkkedaaGreatDoorZ7
import Derived.Test.YtpfgffadgkkedaaGreatDoorZ12
import Derived.Test.YtpfgffadgkkedaaGreatDoorZ9
import Derived.Test.YtpfgffadgkkedaaGreatDoorZ11
import Derived.Test.YtpfgffadgkkedaaGreatDoorZ5
set_option linter.all false
set_option maxRecDepth 100000
set_option maxHeartbeats 16000000
namespace Go.Proofs.YtpfgffadgkkedaaGreatDoor
open Go.RowKit
attribute [local go_sem ↓] Go.wp_at_zero Go.wp_at_succ
def eF (rows:List (List Raw)):Nat->Nat->Dyadic:=λa b=>bW (rows.map λr=>r.map dval) a b
def aki (o p:List Raw)(k:Nat)(h:k<p.length)(h':k<o.length):(jk o p).getD k 0=dval p[k]-dval o[k]:=by unfold jk;rw[List.getD_eq_getElem?_getD,List.getElem?_zipWith];simp[h,h']
def vR (rows:List (List Raw))(a b:Nat)(ha:a<rows.length)(hb:b<rows[a].length):eF rows a b=dval rows[a][b]:=by simp[eF,bW,List.getD_eq_getElem?_getD,ha,hb]
def acw (n:Nat)(rows:List (List Raw))(hL:rows.length=n+1)(hrow:∀r∈rows,r.length=n)(i j:Nat)(hi:i<n)(hj:j<n):
 bW ((rows.drop 1).map λp=>jk (rows.getD 0 []) p) i j=eF rows (i+1) j-eF rows 0 j:=by
 have h0:0<rows.length:=by omega
 have h1:i+1<rows.length:=by omega
 have l0:=hrow _ (List.getElem_mem h0);have l1:=hrow _ (List.getElem_mem h1);rw[vR rows (i+1) j h1 zo,vR rows 0 j h0 zo];have e0:rows.getD 0 []=rows[0]:=by simp[h0]
 have e1:((rows.drop 1).map λp=>jk (rows.getD 0 []) p).getD i []=jk rows[0] rows[i+1]:=by rw[e0,List.getD_eq_getElem?_getD,List.getElem?_map,List.getElem?_drop];rw[show 1+i=i+1 by omega,List.getElem?_eq_getElem h1];rfl
 unfold bW;rw[e1,aki _ _ _ zo zo]
def GA (n:Nat)(bH:n<=4){e f:Nat->Nat->Dyadic}(h:∀i j,i<n->j<n->e i j=f i j):dI n e=dI n f:=by
 have hc:n=0\/n=1\/n=2\/n=3\/n=4:=by omega
 rcases hc with rfl|rfl|rfl|rfl|rfl
 . rfl
 . exact h 0 0 zo zo
 . unfold dI;simp only;rw[h 0 0 zo zo,h 0 1 zo zo,h 1 0 zo zo,h 1 1 zo zo]
 . unfold dI;simp only;rw[h 0 0 zo zo,h 0 1 zo zo,h 0 2 zo zo,h 1 0 zo zo,h 1 1 zo zo,h 1 2 zo zo,h 2 0 zo zo,h 2 1 zo zo,h 2 2 zo zo]
 . unfold dI;simp only;rw[h 0 0 zo zo,h 0 1 zo zo,h 0 2 zo zo,h 0 3 zo zo,h 1 0 zo zo,h 1 1 zo zo,h 1 2 zo zo,h 1 3 zo zo,h 2 0 zo zo,h 2 1 zo zo,h 2 2 zo zo,h 2 3 zo zo,h 3 0 zo zo,h 3 1 zo zo,h 3 2 zo zo,h 3 3 zo zo]
def VP {B n:Nat}{e:Nat->Nat->Dyadic}(hn:1<=n)(bH:n<=4)(h:∀i j,i<n->j<n->Sm B (e i j)):Sm (4*B+6) (dI n e):=by
 have m2:∀a b c d:Dyadic,Sm B a->Sm B b->Sm B c->Sm B d->Sm (2*B+1) (a*b-c*d):=λa b c d ha hb hc hd=>(Sm.sub (Sm.mul ha hb) (Sm.mul hc hd)).mono zo;have m3:∀x y:Dyadic,Sm B x->Sm (2*B+1) y->Sm (3*B+1) (x*y):=λx y hx hy=>(Sm.mul hx hy).mono zo;have m4:∀x y z:Dyadic,Sm (3*B+1) x->Sm (3*B+1) y->Sm (3*B+1) z->Sm (3*B+3) (x-y+z):=λx y z hx hy hz=>(Sm.add (Sm.sub hx hy) (hz.mono zo)).mono zo;have m5:∀x y:Dyadic,Sm B x->Sm (3*B+3) y->Sm (4*B+3) (x*y):=λx y hx hy=>(Sm.mul hx hy).mono zo;have hc:n=1\/n=2\/n=3\/n=4:=by omega
 rcases hc with rfl|rfl|rfl|rfl
 . exact(h 0 0 zo zo).mono zo
 . exact(Sm.sub (Sm.mul (h 0 0 zo zo) (h 1 1 zo zo)) (Sm.mul (h 0 1 zo zo) (h 1 0 zo zo))).mono zo
 . unfold dI;refine(m4 _ _ _ (m3 _ _ ?_ (m2 _ _ _ _ ?_ ?_ ?_ ?_)) (m3 _ _ ?_ (m2 _ _ _ _ ?_ ?_ ?_ ?_)) (m3 _ _ ?_ (m2 _ _ _ _ ?_ ?_ ?_ ?_))).mono zo<;>exact h _ _ zo zo
 . unfold dI;have m6:∀x y z u:Dyadic,Sm (4*B+3) x->Sm (4*B+3) y->Sm (4*B+3) z->Sm (4*B+3) u->Sm (4*B+6) (x-y+z-u):=λx y z u hx hy hz hu=>(Sm.sub (Sm.add (Sm.sub hx hy) (hz.mono zo)) (hu.mono zo)).mono zo;refine m6 _ _ _ _ (m5 _ _ ?_ (m4 _ _ _ (m3 _ _ ?_ (m2 _ _ _ _ ?_ ?_ ?_ ?_)) (m3 _ _ ?_ (m2 _ _ _ _ ?_ ?_ ?_ ?_)) (m3 _ _ ?_ (m2 _ _ _ _ ?_ ?_ ?_ ?_)))) (m5 _ _ ?_ (m4 _ _ _ (m3 _ _ ?_ (m2 _ _ _ _ ?_ ?_ ?_ ?_)) (m3 _ _ ?_ (m2 _ _ _ _ ?_ ?_ ?_ ?_)) (m3 _ _ ?_ (m2 _ _ _ _ ?_ ?_ ?_ ?_)))) (m5 _ _ ?_ (m4 _ _ _ (m3 _ _ ?_ (m2 _ _ _ _ ?_ ?_ ?_ ?_)) (m3 _ _ ?_ (m2 _ _ _ _ ?_ ?_ ?_ ?_)) (m3 _ _ ?_ (m2 _ _ _ _ ?_ ?_ ?_ ?_)))) (m5 _ _ ?_ (m4 _ _ _ (m3 _ _ ?_ (m2 _ _ _ _ ?_ ?_ ?_ ?_)) (m3 _ _ ?_ (m2 _ _ _ _ ?_ ?_ ?_ ?_)) (m3 _ _ ?_ (m2 _ _ _ _ ?_ ?_ ?_ ?_))))<;>exact h _ _ zo zo
def VZ (X:Dyadic):bg X=0↔X=0:=by
 constructor
 . intro h;have h1:dN X=0:=by
    unfold bg dL at h;by_cases h1:dN X<0
    . rw[if_pos h1]at h;cases h
    . rw[if_neg h1]at h;by_cases h2:dN X=0
      . exact h2
      . rw[if_neg h2]at h;cases h
   have h2:=qI X;rw[h1,ug]at h2;exact h2
 . rintro rfl;rfl
noncomputable def nu (rows:List (List Raw)):Int:=if kI rows=0 then 1 else if dh (kI rows).toNat (eF rows)=0 then 5 else 0
def arB (a:Option Addr)(cap n:Nat)(rows:List (List Raw))(B:Nat)(X:Dyadic)(w:World)(hn:1<=n)(bH:n<=4)(hL:rows.length=n+1)(hrow:∀r∈rows,r.length=n)(hcap:n+1<=cap)(ha:cC w a rows)
 (hfit:∀r∈rows,∀c∈r,Fit B c) (hB:B<=900000) (hT:aB w) (hX:dh n (eF rows)=X):
 Cv 49 #[.slice a (n+1) cap] w (.tuple #[bK X,af 0]):=by
 obtain⟨b,o,rfl⟩:∃b o,a=some ⟨b,o,none⟩:=by
  obtain⟨vals,hvl,hat,_⟩:=ha;rcases hat with h|⟨b,o,h,_⟩
  . rw[h]at hvl;simp at hvl;omega
  . exact⟨b,o,h⟩
 have hv:=adf hL hrow hn zo;obtain⟨S,hS⟩:=az ((rows.drop 1).map λp=>jk (rows.getD 0 []) p);have nX:S.length=n:=by rw[<-hS];simp[hL]
 have rK:∀r∈S,r.length=n:=by
  intro r hr;rw[<-hS]at hr;obtain⟨p,hp,rfl⟩:=List.mem_map.1 hr;have h0:0<rows.length:=by omega
  have e0:rows.getD 0 []=rows[0]:=by simp[h0]
  rw[GG (by rw[e0,hrow _ (List.mem_of_mem_drop hp),hrow _ (List.getElem_mem h0)]),hrow _ (List.mem_of_mem_drop hp)]
 have mQ:∀r∈S,∀d∈r,Sm (B+1) d:=by
  intro r hr d hd;rw[<-hS]at hr;obtain⟨p,hp,rfl⟩:=List.mem_map.1 hr;unfold jk at hd;obtain⟨i,hi,rfl⟩:=List.mem_iff_getElem.1 hd;rw[List.getElem_zipWith];have h0:0<rows.length:=by omega
  have e0:rows.getD 0 []=rows[0]:=by simp[h0]
  refine Sm.sub (hfit p (List.mem_of_mem_drop hp) _ (List.getElem_mem _)).2 (hfit (rows.getD 0 []) ?_ _ (List.getElem_mem _)).2;rw[e0];exact List.getElem_mem h0
 have hent:dI n (bW S)=X:=by rw[<-hX,GJ];refine GA n bH (λi j hi hj=>?_);rw[<-hS];exact acw n rows hL hrow i j hi hj
 have hvar:=λW=>λ(h:cC W (some ⟨b,o,none⟩) rows)=>adg (some ⟨b,o,none⟩) (n+1) cap rows W hL zo h;rw[hv]at hvar;have hrows:=λW=>λ(h:cC W (some ⟨b,o,none⟩) rows) (hT:aB W)=>acd b o cap n n rows B W hL zo hcap hn hn zo hrow h hfit zo hT;rw[hS]at hrows;have lQ:((S.map λr=>r.map canon).map λr=>r.map dval)=S:=by
  rw[List.map_map];have:((λr:List Raw=>r.map dval)∘λr:List Dyadic=>r.map canon)=id:=by
   funext r
   show(r.map canon).map dval=r
   rw[List.map_map];have:(dval∘canon)=id:=funext bD;rw[this];simp
  rw[this];simp
 have mU:=λW a' c'=>λ(h:cC W a' (S.map λr=>r.map canon)) (hT:aB W)=>MZ a' c' n (S.map λr=>r.map canon) (B+1) S X W hn bH (by simpa using nX) (by
  intro r hr;obtain⟨x,hx,rfl⟩:=List.mem_map.1 hr
  simpa using rK x hx) h (by
  intro r hr c hc;obtain⟨x,hx,rfl⟩:=List.mem_map.1 hr;obtain⟨y,hy,rfl⟩:=List.mem_map.1 hc
  exact(mQ x hx y hy).fit zo) zo zo hT lQ hent
 obtain⟨Mf,agN,BH,Ha,HT⟩:=eV hvar hrows mU ha hT;clear hvar hrows mU ha hT lQ hent mQ rK nX hS hv hX hfit hrow hL;have hn0:¬(n:Int)=0:=by omega
 have Hb:=hbz w;go_enter Tryz.func49,Tryz.ntmps49;go_wp2_with fail;refine bP w (Hb.an trivial) 45 [ag false,.string ⟨#[]⟩,af 0] λW aG ae ai=>?_;have HA:Hid (cC W (some ⟨b,o,none⟩) rows):=Ha.out.below ae.2.1.out;have HU:Hid (aB W):=HT.out.below ae.2.1.out;go_wp2_with fail;refine aJ (HA.an<|HU.an ae) (Mf.out _ HA.out) λw1 ae ai=>?_;go_wp2_with fail;refine(agN.out _ ae.1.out ae.2.1.out).mono ?_;rintro e w2 ⟨a',c',rfl,hcc,qE,ak⟩;obtain⟨ae,ai⟩:=qX ak ae;have Kl:=aj qE;clear qE;go_wp2_with fail;refine aJ ae (BH.out _ a' c' Kl.out ae.2.1.out) λw3 ae ai=>?_;go_wp2;refine dA (aN w3 (w.heap.size) 0 (bo X)) aU ?_;intro w9 hs0;have ae:=bG hs0 ae;simp only[bA,List.set]at ae;have ai:=qC ae;refine bodyPost_ret (v:=.tuple #[bK X,af 0]) (by simp[results,Tryz.results49,go_sem,ai]) rfl ⟨rfl,ae.2.2.2.1.out⟩
def acO (a:Option Addr)(L cap:Nat)(rows:List (List Raw))(B:Nat)(w:World)(hL:rows.length=L)(hL5:L<=5)(hcap:L<=cap)(ha:cC w a rows)
 (hfit:∀r∈rows,∀c∈r,Fit B c) (hB:B<=900000) (hT:aB w):
 Cv 111 #[.slice a L cap] w (af (nu rows)):=by
 obtain⟨R,hR⟩:=az (nu rows);rw[hR];unfold nu at hR;by_cases hv:kI rows=0
 . rw[if_pos hv]at hR;subst hR;have hvar:=λW=>λ(h:cC W a rows)=>adg a L cap rows W hL zo h;rw[hv]at hvar;obtain⟨Mf,Ha⟩:=aI hvar ha;have hsz:∀W,Bw w W->Cv 49 #[.slice a L cap] W (.tuple #[.agg #[ag false,.string ⟨#[]⟩,af 0],af 1]):=by intro w0 hw0;have qW:=aj (Ha.out.below hw0);clear ha hfit hL hT hv hvar Ha hw0 w;obtain⟨w,PL⟩:∃w,w=w0:=⟨_,rfl⟩;subst PL;have Hb:=hbz w;go_enter Tryz.func49,Tryz.ntmps49;go_wp2_with fail;refine bP w (Hb.an trivial) 45 [ag false,.string ⟨#[]⟩,af 0] λW aG ae ai=>?_;go_wp2_with fail;refine aJ ae (Mf.out _ (qW.out.below ae.2.1.out)) λw1 ae ai=>?_;go_wp2;refine dA (aN w1 (w.heap.size) 0 [ag false,.string ⟨#[]⟩,af 0]) aU ?_;intro w9 hs0;have ae:=bG hs0 ae;simp only[bA,List.set]at ae;have ai:=qC ae;refine bodyPost_ret (v:=.tuple #[.agg #[ag false,.string ⟨#[]⟩,af 0],af 1]) (by simp[results,Tryz.results49,go_sem,ai]) rfl ⟨rfl,ae.2.1.out⟩
   have pL:=aj hsz;clear hsz hvar ha hfit hL hT hv;have Hb:=hbz w;go_enter Tryz.func111,Tryz.ntmps111;go_wp2_with fail;refine aJ (Hb.an trivial) (pL.out _ Hb.out) λw1 ae ai=>?_;have hsz:=ae.1.out.size;obtain⟨W2,kP,aG,ae,ai⟩:=cg w1 ae 45 [ag false,.string ⟨#[]⟩,af 0];go_wp2;refine bodyPost_ret (results_tmp rfl _ _ _) rfl ⟨rfl,?_⟩;exact((ae.2.1.out.setCell zp _).setCell zp _).setCell zp _
 . obtain⟨n,hn⟩:∃n:Nat,kI rows=n:=⟨(kI rows).toNat,by have:=RF rfl hv;omega⟩;rw[if_neg hv,hn,Int.toNat_natCast]at hR;obtain⟨c1,c2,c3,c4⟩:=RF hn zo;obtain rfl:L=n+1:=by omega
   obtain⟨X,hX⟩:=az (dh n (eF rows));rw[hX]at hR;have hsz:=λW=>λ(h:cC W a rows) (hT:aB W)=>arB a cap n rows B X W zo zo zo (λr hr=>by have:=c4 r hr;omega) hcap h hfit hB hT hX;have hXm:Sm (4* (B+1)+6) X:=by
    rw[<-hX,GJ];refine VP zo zo (λi j hi hj=>?_);have h0:0<rows.length:=by omega
    have h1:i+1<rows.length:=by omega
    have l0:=c4 _ (List.getElem_mem h0);have l1:=c4 _ (List.getElem_mem h1);rw[vR rows (i+1) j h1 zo,vR rows 0 j h0 zo];exact Sm.sub (hfit _ (List.getElem_mem h1) _ (List.getElem_mem _)).2 (hfit _ (List.getElem_mem h0) _ (List.getElem_mem _)).2
   have dR:∀W,Cv 27 #[.agg #[ag (au (dN X)),ah (nt (dN X).natAbs),af (dE X)]] W (af (bg X)):=λW=>lK _ _ _ (bg X) (by show bg (dval (canon X))=_;rw[bD]) W (hXm.ok zo);obtain⟨g,hg⟩:=az (bg X);have YH:R=if g=0 then 5 else 0:=by
    rw[<-hR,<-hg];by_cases h:X=0
    . rw[if_pos h,if_pos ((VZ X).2 h)]
    . rw[if_neg h,if_neg (λh2=>h ((VZ X).1 h2))]
   rw[hg]at dR;obtain⟨pL,iL,Ha,HT,TC⟩:=eV hsz dR ha hT YH;clear hsz dR ha hT YH hg hX hR hfit c4 hL;have Hb:=hbz w;go_enter Tryz.func111,Tryz.ntmps111;go_wp2_with fail;refine aJ (Hb.an trivial) (pL.out _ (Ha.out.below Hb.out) (HT.out.below Hb.out)) λw1 ae ai=>?_;obtain⟨W2,kP,aG,ae,ai⟩:=cg w1 ae 45 (bo X);go_wp2_with fail;refine aJ ae (iL.out _) λw3 ae ai=>?_;by_cases hg0:g=0
   . have hr:=TC.out;rw[if_pos hg0]at hr;subst hr hg0;go_wp2;refine bodyPost_ret (results_tmp rfl _ _ _) rfl ⟨rfl,ae.2.1.out⟩
   . have hr:=TC.out;rw[if_neg hg0]at hr;subst hr;go_wp2;refine bodyPost_ret (results_tmp rfl _ _ _) rfl ⟨rfl,ae.2.1.out⟩
end Go.Proofs.YtpfgffadgkkedaaGreatDoor
namespace Go.Proofs.YtpfgffadgkkedaaGreatDoor
def zQ (p:Nat->Nat->Dyadic):Nat->Nat->Dyadic:=λa b=>p (a+1) b-p 0 b
def kg (n:Nat)(e:Nat->Nat->Dyadic)(k i:Nat):Dyadic:=if(k+i)%2=1 then-dI (n-1) (kD e i k)else dI (n-1) (kD e i k)
def iO (n:Nat)(p:Nat->Nat->Dyadic)(k i:Nat):Dyadic:=kg n (zQ p) k i*mo (dh n p)
def wS (n:Nat)(p:Nat->Nat->Dyadic)(x:Nat->Dyadic)(i:Nat):Nat->Dyadic
 |0=>0
 |k+1=>wS n p x i k+(x k-p 0 k) *iO n p k i
def asV (n:Nat)(p:Nat->Nat->Dyadic)(x:Nat->Dyadic)(i k:Nat):wS n p x i k=mo (dh n p) *AL n (zQ p) (λk=>x k-p 0 k) i k:=by
 induction k with
 |zero=>simp[wS,AL]
 |succ k ih=>unfold wS AL;rw[ih];unfold iO kg;generalize (if(k+i)%2=1 then-dI (n-1) (kD (zQ p) i k)else dI (n-1) (kD (zQ p) i k))=z;grind
def EP (n:Nat)(hn:1<=n)(bH:n<=4)(p:Nat->Nat->Dyadic)(x:Nat->Dyadic)(i:Nat)(hi:i<n):wS n p x i n=pq n p x (i+1):=by rw[asV,anN n hn bH _ _ i hi];unfold pq;rw[akH];rfl
def wZ (n:Nat)(p:Nat->Nat->Dyadic)(x:Nat->Dyadic):Nat->Dyadic
 |0=>mo (dh n p) *dh n p
 |k+1=>wZ n p x k-pq n p x (k+1)
def as0 (n:Nat)(p:Nat->Nat->Dyadic)(x:Nat->Dyadic)(k:Nat):wZ n p x k=mo (dh n p) *dh n p-df (λi=>pq n p x (i+1)) k:=by
 induction k with
 |zero=>simp[wZ,df];grind
 |succ k ih=>unfold wZ df;rw[ih];grind
def as1 (n:Nat)(hn:1<=n)(bH:n<=4)(p:Nat->Nat->Dyadic)(x:Nat->Dyadic):wZ n p x n=pq n p x 0:=by rw[as0];unfold pq;rw[arW,ati n hn bH p x];grind
def acp (X:Dyadic):mo X*X=if X<0 then-X else X:=by
 rw[acr];split
 . grind
 . split<;>grind
def GC {B n:Nat}{e:Nat->Nat->Dyadic}(bH:n<=4)(h:∀i j,i<n->j<n->Sm B (e i j)):Sm (4*B+6) (dI n e):=by
 by_cases h0:n=0
 . subst h0;exact Sm.one.mono zo
 . exact VP zo bH h
def Rl (X:Dyadic):Sm 1 (mo X):=by
 rw[acr];split
 . exact Sm.neg Sm.one
 . split
   . exact Sm.zero _
   . exact Sm.one
def GK {B n:Nat}{p:Nat->Nat->Dyadic}(h:∀a b,a<=n->b<n->Sm B (p a b))(a b:Nat)(ha:a<n)(hb:b<n):Sm (B+1) (zQ p a b):=Sm.sub (h (a+1) b zo hb) (h 0 b zo hb)
def UT {B n:Nat}{e:Nat->Nat->Dyadic}(hn:1<=n)(bH:n<=4)(h:∀i j,i<n->j<n->Sm B (e i j))(k i:Nat):Sm (4*B+6) (kg n e k i):=by
 have h2:Sm (4*B+6) (dI (n-1) (kD e i k)):=GC zo (λa b ha hb=>h _ _ (by split<;>omega) (by split<;>omega));unfold kg;split
 . exact h2.neg
 . exact h2
def Gi {B n:Nat}{p:Nat->Nat->Dyadic}(hn:1<=n)(bH:n<=4)(h:∀a b,a<=n->b<n->Sm B (p a b))(k i:Nat):Sm (4*B+11) (iO n p k i):=
 (Sm.mul (UT (B:=B+1) hn bH (λa b ha hb=>GK h a b ha hb) k i) (Rl _)).mono zo
def acx {B n:Nat}{p:Nat->Nat->Dyadic}(bH:n<=4)(h:∀a b,a<=n->b<n->Sm B (p a b)):Sm (4*B+11) (mo (dh n p) *dh n p):=by rw[GJ];exact(Sm.mul (Rl _) (GC (B:=B+1) bH (λa b ha hb=>GK h a b ha hb))).mono zo
def RH {B n:Nat}{p:Nat->Nat->Dyadic}{x:Nat->Dyadic}(hn:1<=n)(bH:n<=4)(h:∀a b,a<=n->b<n->Sm B (p a b))(hx:∀b,b<n->Sm B (x b))(i k:Nat)(hk:k<=n):Sm (5*B+12+k) (wS n p x i k):=by
 induction k with
 |zero=>exact Sm.zero _
 |succ k ih=>have h1:=ih zo;have h2:Sm (5*B+12) ((x k-p 0 k) *iO n p k i):=(Sm.mul (Sm.sub (hx k zo) (h 0 k zo zo)) (Gi hn bH h k i)).mono zo;exact(h1.add (h2.mono zo)).mono zo
def atg {B n:Nat}{p:Nat->Nat->Dyadic}{x:Nat->Dyadic}(hn:1<=n)(bH:n<=4)(h:∀a b,a<=n->b<n->Sm B (p a b))(hx:∀b,b<n->Sm B (x b))(i:Nat)(hi:i<n):Sm (5*B+16) (pq n p x (i+1)):=by rw[<-EP n hn bH p x i hi];exact(RH hn bH h hx i n (Nat.le_refl _)).mono zo
def asZ {B n:Nat}{p:Nat->Nat->Dyadic}{x:Nat->Dyadic}(hn:1<=n)(bH:n<=4)(h:∀a b,a<=n->b<n->Sm B (p a b))(hx:∀b,b<n->Sm B (x b))(k:Nat)(hk:k<=n):Sm (5*B+16+k) (wZ n p x k):=by
 induction k with
 |zero=>exact(acx bH h).mono zo
 |succ k ih=>exact(Sm.sub (ih zo) ((atg hn bH h hx k zo).mono zo)).mono zo
def wC (n:Nat)(p:Nat->Nat->Dyadic)(i:Nat):Dyadic:=wS n p (λ_=>0) i n
def lZ (n:Nat)(p:Nat->Nat->Dyadic)(b:Nat):Nat->Dyadic
 |0=>0
 |k+1=>lZ n p b k-iO n p b k
def adp (n:Nat)(p:Nat->Nat->Dyadic)(x:Nat->Dyadic)(i k:Nat):wS n p x i k=wS n p (λ_=>0) i k+df (λb=>iO n p b i*x b) k:=by
 induction k with
 |zero=>simp[wS,df]
 |succ k ih=>unfold wS df;rw[ih];grind
def asY (n:Nat)(hn:1<=n)(bH:n<=4)(p:Nat->Nat->Dyadic)(x:Nat->Dyadic)(k:Nat)(hk:k<=n):wZ n p x k=wZ n p (λ_=>0) k+df (λb=>lZ n p b k*x b) n:=by
 induction k with
 | zero=>
   have:df (λb=>lZ n p b 0*x b) n=0:=by rw[acG (g:=λ_=>(0:Dyadic) *0) n (λb _=>by simp[lZ]),acH];grind
   rw[this];unfold wZ;grind
 | succ k ih=>
   unfold wZ;rw[ih zo,<-EP n hn bH p x k zo,<-EP n hn bH p (λ_=>0) k zo,adp n p x k n];have:df (λb=>lZ n p b (k+1) *x b) n=df (λb=>lZ n p b k*x b) n+df (λb=>iO n p b k*x b) n* (-1):=by rw[<-acH,<-arU];exact acG n (λb _=>by simp only[lZ];grind)
   rw[this];grind
def jP (R:List (List Dyadic))(r c:Nat):List (List Dyadic):=(R.eraseIdx r).map λx=>x.eraseIdx c
def abl (R:List (List Dyadic))(r c m:Nat)(hL:R.length=m+1)(hr:r<=m):(jP R r c).length=m:=by unfold jP;rw[List.length_map,List.length_eraseIdx_of_lt zo];omega
def abm (R:List (List Dyadic))(r c m:Nat)(hrow:∀x∈R,x.length=m+1)(hc:c<=m):∀x∈jP R r c,x.length=m:=by intro x hx;unfold jP at hx;obtain⟨y,hy,rfl⟩:=List.mem_map.1 hx;have:=hrow y (List.mem_of_mem_eraseIdx hy);rw[List.length_eraseIdx_of_lt zo];omega
def abk (R:List (List Dyadic))(r c m:Nat)(hL:R.length=m+1)(hr:r<=m)(j:Nat)(hj:j<m):(jP R r c).getD j []=(R.getD (if j<r then j else j+1) []).eraseIdx c:=by
 unfold jP;have h1:j<(R.eraseIdx r).length:=by rw[List.length_eraseIdx_of_lt zo];omega
 rw[List.getD_eq_getElem?_getD,List.getElem?_map,List.getElem?_eq_getElem h1,Option.map_some,Option.getD_some,List.getElem_eraseIdx];split
 . rename_i h;rw[List.getD_eq_getElem?_getD,List.getElem?_eq_getElem zo];rfl
 . rename_i h;rw[List.getD_eq_getElem?_getD,List.getElem?_eq_getElem zo];rfl
def alC (l:List Dyadic)(c j:Nat)(h:j+1<l.length)(hc:c<l.length):(l.eraseIdx c).getD j 0=l.getD (if j<c then j else j+1) 0:=by
 have h1:j<(l.eraseIdx c).length:=by rw[List.length_eraseIdx_of_lt hc];omega
 rw[List.getD_eq_getElem?_getD,List.getElem?_eq_getElem h1,Option.getD_some,List.getElem_eraseIdx];split
 . rw[List.getD_eq_getElem?_getD,List.getElem?_eq_getElem zo];rfl
 . rw[List.getD_eq_getElem?_getD,List.getElem?_eq_getElem zo];rfl
def aoz (R:List (List Dyadic))(r c m:Nat)(hL:R.length=m+1)(hrow:∀x∈R,x.length=m+1)(hr:r<=m)(hc:c<=m)(i j:Nat)(hi:i<m)(hj:j<m):bW (jP R r c) i j=kD (bW R) r c i j:=by
 show((jP R r c).getD i []).getD j 0=(R.getD (if i<r then i else i+1) []).getD (if j<c then j else j+1) 0
 rw[abk R r c m hL hr i hi];have hk:(if i<r then i else i+1)<R.length:=by split<;>omega
 have e:R.getD (if i<r then i else i+1) []=R[if i<r then i else i+1]'hk:=by rw[List.getD_eq_getElem?_getD,List.getElem?_eq_getElem hk];rfl
 have hl:=hrow _ (List.getElem_mem hk);rw[e];exact alC _ c j (by rw[hl];omega) (by rw[hl];omega)
def pM (n:Nat)(e:Nat->Nat->Dyadic):List (List Dyadic):=(List.range n).map λa=>(List.range n).map λb=>kg n e a b
def UW (n:Nat)(e:Nat->Nat->Dyadic)(a:Nat)(ha:a<n):(pM n e).getD a []=(List.range n).map λb=>kg n e a b:=by unfold pM;simp[List.getD_eq_getElem?_getD,ha]
def ahO (n:Nat)(e:Nat->Nat->Dyadic)(a b:Nat)(ha:a<n)(hb:b<n):bW (pM n e) a b=kg n e a b:=by unfold bW;rw[UW n e a ha];simp[List.getD_eq_getElem?_getD,hb]
def ahP (n:Nat)(e:Nat->Nat->Dyadic):(pM n e).length=n:=by simp[pM]
def ahQ (n:Nat)(e:Nat->Nat->Dyadic):∀r∈pM n e,r.length=n:=by intro r hr;unfold pM at hr;obtain⟨x,_,rfl⟩:=List.mem_map.1 hr;simp
def aoy (R:List (List Dyadic))(r c m:Nat)(hL:R.length=m+1)(hrow:∀x∈R,x.length=m+1)(hr:r<=m)(hc:c<=m)(hm:m<=4):dI m (bW (jP R r c))=dI m (kD (bW R) r c):=
 GA m hm (λi j hi hj=>aoz R r c m hL hrow hr hc i j hi hj)
def aoA {B:Nat}{R:List (List Dyadic)}(h:∀x∈R,∀d∈x,Sm B d)(r c:Nat):∀x∈jP R r c,∀d∈x,Sm B d:=by intro x hx d hd;unfold jP at hx;obtain⟨y,hy,rfl⟩:=List.mem_map.1 hx;exact h y (List.mem_of_mem_eraseIdx hy) d (List.mem_of_mem_eraseIdx hd)
end Go.Proofs.YtpfgffadgkkedaaGreatDoor
namespace Go.Proofs.YtpfgffadgkkedaaGreatDoor
open Go.RowKit
def Rw (n B:Nat)(rows:List (List Raw)):Prop:=rows.length=n+1/\(∀r∈rows,r.length=n)/\∀r∈rows,∀c∈r,Fit B c
end Go.Proofs.YtpfgffadgkkedaaGreatDoor
namespace Go.Proofs.YtpfgffadgkkedaaGreatDoor
def dF (x:Dyadic):Nat->Dyadic
 |0=>1
 |n+1=>dF x n*x
def arE :Sm 1 (1:Dyadic):=by
 have e:(1:Dyadic)=Dyadic.ofIntWithPrec 1 0:=by decide+kernel
 rw[e];exact⟨1*2^1,(ow 1 1 0).symm,by decide⟩
def JJ {B:Nat}{x:Dyadic}(h:Sm B x)(n:Nat):Sm (B*n+1) (dF x n):=by
 induction n with
 |zero=>exact arE
 |succ n ih=>exact(Sm.mul ih h).mono (by rw[Nat.mul_succ];omega)
def fx (X:Nat->Dyadic)(c:Dyadic)(l:List UInt8):Nat->Dyadic
 |0=>c
 |k+1=>fx X c l k*dF (X k) (l.getD k 0).toNat
def zT :Trm:=([],false,[],0)
def mH (X:Nat->Dyadic)(n:Nat)(ts:List Trm):Nat->Dyadic
 |0=>0
 |k+1=>mH X n ts k+fx X (dval (ts.getD k zT).2) (ts.getD k zT).1 n
def abn {X:Nat->Dyadic}{c:Dyadic}{l:List UInt8}{B C:Nat}(hc:Sm C c)(hl:∀x∈l,x.toNat<=127)(k:Nat)(hX:∀j,j<k->Sm B (X j)):Sm (C+k* (127*B+1)) (fx X c l k):=by
 induction k with
 |zero=>exact hc.mono zo
 | succ k ih=>
   have h1:=ih (λj hj=>hX j zo);have h2:(l.getD k 0).toNat<=127:=by
    rw[List.getD_eq_getElem?_getD];by_cases hk:k<l.length
    . rw[List.getElem?_eq_getElem hk];exact hl _ (List.getElem_mem hk)
    . rw[List.getElem?_eq_none zo];decide
   have h3:=JJ (hX k zo) (l.getD k 0).toNat;have h4:B* (l.getD k 0).toNat<=B*127:=Nat.mul_le_mul_left _ h2;refine(Sm.mul h1 h3).mono ?_;rw[Nat.add_mul,Nat.one_mul];omega
def Wh {X:Nat->Dyadic}{n:Nat}{ts:List Trm}{D:Nat}(h:∀k,k<ts.length->Sm D (fx X (dval (ts.getD k zT).2) (ts.getD k zT).1 n))(k:Nat)(hk:k<=ts.length):Sm (D+k) (mH X n ts k):=by
 induction k with
 |zero=>exact Sm.zero _
 |succ k ih=>exact Sm.add (ih zo) ((h k zo).mono (Nat.le_add_right _ _))
def bz (f:List UInt8->Dyadic):List Trm->Dyadic
 |[]=>0
 |x::l=>dval x.2*f x.1+bz f l
def xe (f:List UInt8->Dyadic)(a b:List Trm):bz f (a++b)=bz f a+bz f b:=by
 induction a with
 |nil=>simp[bz]
 |cons x a ih=>simp only[List.cons_append,bz,ih];grind
def akR (f:List UInt8->Dyadic)(a b:List Trm):bz f (fM a b)=bz f a+bz f b:=by
 obtain⟨n,hn⟩:=az (a.length+b.length);induction n using Nat.strongRecOn generalizing a b with
 | _ n ih=>
   cases a with
   |nil=>rw[yh];simp[bz]
   | cons x a=>cases b with
     |nil=>rw[yi];simp[bz]
     | cons y b=>
       rw[ua];simp only[List.length_cons]at hn;split
       . have:=ih _ (by simp only[List.length_cons];omega) a (y::b) rfl;simp only[bz]at this⊢;rw[this];grind
       . split
         . have:=ih _ (by simp only[List.length_cons];omega) (x::a) b rfl;simp only[bz]at this⊢;rw[this];grind
         . rename_i h1 h2
           have:=ih _ zo a b rfl;have e:x.1=y.1:=zK (by simpa using h1) (by simpa using h2);simp only[bz,JQ,bD]at this⊢;rw[this,e];grind
def akV (f:List UInt8->Dyadic)(l:List Trm):bz f (fO l)=bz f l:=
 EK (Q:=λl r=>bz f r=bz f l) (λ_ _=>rfl) (λa b c d h1 h2=>by rw[akR,xe,h1,h2]) l
def xf (f:List UInt8->Dyadic)(l:List Trm):bz f (aS l)=bz f l:=by
 have h1:∀l,bz f (l.map λx=>(x.1,canon (dval x.2)))=bz f l:=λl=>by
  induction l with
  |nil=>rfl
  |cons x l ih=>simp only[List.map_cons,bz,ih,bD]
 have h2:∀l,bz f (l.filter fN)=bz f l:=λl=>by
  induction l with
  |nil=>rfl
  | cons x l ih=>
    rw[List.filter_cons];split
    . simp only[bz,ih]
    . rename_i h
      have h0:dval x.2=0:=Classical.byContradiction λhc=>h (by unfold fN;rw[(uR _).2 hc];rfl);simp only[bz,ih,h0];grind
 unfold aS;rw[h1,h2,akV]
def fw (X:Nat->Dyadic)(n:Nat)(l:List UInt8):Dyadic:=fx X 1 l n
def aoF (X:Nat->Dyadic)(c:Dyadic)(l:List UInt8)(n:Nat):fx X c l n=c*fx X 1 l n:=by
 induction n with
 |zero=>show c=c*1;grind
 |succ n ih=>rw[fx,fx,ih];grind
def GN (X:Nat->Dyadic)(n:Nat)(ts:List Trm)(k:Nat)(hk:k<=ts.length):mH X n ts k=bz (fw X n) (ts.take k):=by
 induction k with
 |zero=>rfl
 | succ k ih=>
   have hk':k<ts.length:=by omega
   have e:ts.getD k zT=ts[k]:=by simp[List.getD_eq_getElem?_getD,hk']
   rw[mH,ih zo,List.take_succ_eq_append_getElem hk',xe,e,aoF];simp only[bz,fw];grind
def aoG (X:Nat->Dyadic)(n k:Nat):fx X 1 (jS n) k=1:=by
 induction k with
 |zero=>rfl
 | succ k ih=>
   have e:(jS n).getD k 0=0:=by unfold jS;rw[List.getD_eq_getElem?_getD,List.getElem?_replicate];split<;>rfl
   rw[fx,ih,e];show 1*dF (X k) 0=1;show(1:Dyadic) *1=1;grind
def abo (X:Nat->Dyadic)(n j k:Nat)(hk:k<=n)(hj:j<n):fx X 1 (cj n j) k=if j<k then X j else 1:=by
 induction k with
 |zero=>rfl
 | succ k ih=>
   have e:((cj n j).getD k 0).toNat=if k=j then 1 else 0:=by
    unfold cj;rw[List.getD_eq_getElem?_getD,List.getElem?_set];by_cases h:j=k
    . subst h;rw[if_pos rfl,if_pos (by simpa using hj),if_pos rfl];rfl
    . rw[if_neg h,List.getElem?_replicate,if_pos zo,if_neg (λh2=>h h2.symm)];rfl
   rw[fx,ih zo,e];by_cases h:k=j
   . subst h;rw[if_neg zo,if_pos rfl,if_pos zo];show 1* (1*X k)=X k;grind
   . rw[if_neg h];by_cases h2:j<k
     . rw[if_pos h2,if_pos zo];show X j*1=X j;grind
     . rw[if_neg h2,if_neg zo];show(1:Dyadic) *1=1;grind
def fE (a b:List UInt8):List UInt8:=List.zipWith (λx y=>UInt8.ofNat (x.toNat+y.toNat)) a b
def zF (a b:List UInt8)(n:Nat)(ha:a.length=n)(hb:b.length=n):(fE a b).length=n:=by simp[fE,ha,hb]
def MF (a b:List UInt8)(i:Nat)(h:i<(fE a b).length)(hs:(a.getD i 0).toNat+(b.getD i 0).toNat<=255):((fE a b)[i]).toNat=(a.getD i 0).toNat+(b.getD i 0).toNat:=by
 have h1:i<a.length:=by simp[fE]at h;omega
 have h2:i<b.length:=by simp[fE]at h;omega
 simp only[fE,List.getElem_zipWith];simp only[List.getD_eq_getElem?_getD,List.getElem?_eq_getElem h1,List.getElem?_eq_getElem h2,Option.getD_some]at hs⊢;simp;omega
def UQ (a b:List UInt8)(n:Nat)(ha:a.length=n)(hb:b.length=n)(hs:∀i,i<n->(a.getD i 0).toNat+(b.getD i 0).toNat<=127):∀c∈fE a b,c.toNat<=127:=λc hc=>by
 obtain⟨i,hi,rfl⟩:=List.mem_iff_getElem.1 hc;have hi':i<n:=by rw[zF a b n ha hb]at hi;exact hi
 rw[MF a b i hi (by have:=hs i hi';omega)];exact hs i hi'
abbrev fP (l:List UInt8):Nat:=(l.map UInt8.toNat).sum
def vY (l:List UInt8)(i:Nat):(l.getD i 0).toNat<=fP l:=by
 induction l generalizing i with
 |nil=>simp
 | cons c l ih=>
   unfold fP;rw[List.map_cons,List.sum_cons];cases i with
   |zero=>simp
   |succ i=>have:=ih i;unfold fP at this;simp only[List.getD_cons_succ];omega
def ahM (a b:List UInt8)(n:Nat)(ha:a.length=n)(hb:b.length=n)(h:fP a+fP b<=127):fP (fE a b)=fP a+fP b:=by
 induction a generalizing b n with
 | nil=>
   obtain rfl:n=0:=by simpa using ha.symm
   obtain rfl:b=[]:=List.eq_nil_of_length_eq_zero hb;rfl
 | cons x a ih=>cases b with
   |nil=>simp at ha hb;omega
   | cons y b=>
     simp only[fP,List.map_cons,List.sum_cons]at h;have h1:=ih b a.length rfl (by simp at ha hb;omega) (by unfold fP;omega);unfold fP at h1⊢;have e:fE (x::a) (y::b)=UInt8.ofNat (x.toNat+y.toNat)::fE a b:=rfl;have e2:(UInt8.ofNat (x.toNat+y.toNat)).toNat=x.toNat+y.toNat:=by simp;omega
     rw[e,List.map_cons,List.sum_cons,h1,e2,List.map_cons,List.sum_cons,List.map_cons,List.sum_cons];omega
def fp (ta tb:List Trm):List Trm:=ta.flatMap λx=>tb.map λy=>(fE x.1 y.1,canon (dval x.2*dval y.2))
def Jx (ta tb:List Trm):(fp ta tb).length=ta.length*tb.length:=by
 unfold fp;rw[List.length_flatMap];induction ta with
 |nil=>simp
 |cons x ta ih=>rw[List.map_cons,List.sum_cons,ih,List.length_map,List.length_cons,Nat.succ_mul];omega
def Qq {ta tb:List Trm}{t:Trm}(h:t∈fp ta tb):∃x∈ta,∃y∈tb,t=(fE x.1 y.1,canon (dval x.2*dval y.2)):=by unfold fp at h;obtain⟨x,hx,h⟩:=List.mem_flatMap.1 h;obtain⟨y,hy,e⟩:=List.mem_map.1 h;exact⟨x,hx,y,hy,e.symm⟩
def Qr {A B:Nat}{ta tb:List Trm}(ha:∀t∈ta,Sm A (dval t.2))(hb:∀t∈tb,Sm B (dval t.2)):∀t∈fp ta tb,Sm (A+B) (dval t.2):=λt ht=>by obtain⟨x,hx,y,hy,rfl⟩:=Qq ht;rw[bD];exact Sm.mul (ha x hx) (hb y hy)
def tW {l:List UInt8}{V:Nat}(h:bZ l (V:Int)=true):l.length=V/\∀c∈l,c.toNat<=127:=by unfold bZ at h;simp only[Bool.and_eq_true,List.all_eq_true,decide_eq_true_eq]at h;exact⟨by have:=h.2;omega,h.1⟩
def aov {l:List UInt8}{V:Nat}(h1:l.length=V)(h2:∀c∈l,c.toNat<=127):bZ l (V:Int)=true:=by unfold bZ;simp only[Bool.and_eq_true,List.all_eq_true,decide_eq_true_eq];exact⟨h2,by omega⟩
def DegT (V d:Nat)(ts:List Trm):Prop:=∀t∈ts,bZ t.1 (V:Int)=true/\fP t.1<=d
def DegT.mul {V d e:Nat}{ta tb:List Trm}(ha:DegT V d ta)(hb:DegT V e tb)(h:d+e<=127):DegT V (d+e) (fp ta tb):=λt ht=>by
 obtain⟨x,hx,y,hy,rfl⟩:=Qq ht;obtain⟨h1,h2⟩:=ha x hx;obtain⟨h3,h4⟩:=hb y hy;have l1:=(tW h1).1;have l2:=(tW h3).1;refine⟨aov (zF _ _ V l1 l2) (UQ _ _ V l1 l2 (λi _=>?_)),?_⟩
 . have:=vY x.1 i;have:=vY y.1 i;omega
 . have:=ahM x.1 y.1 V l1 l2 zo;show fP (fE x.1 y.1)<=_;omega
def DegT.clean {V d:Nat}{ts:List Trm}(h:DegT V d ts):DegT V d (aS ts):=λt ht=>by obtain⟨y,hy,e⟩:=Vv _ t ht;rw[<-e];exact h y hy
def DegT.append {V d:Nat}{a b:List Trm}(ha:DegT V d a)(hb:DegT V d b):DegT V d (a++b):=λt ht=>by
 rcases List.mem_append.1 ht with h|h
 . exact ha t h
 . exact hb t h
def DegT.mono {V d e:Nat}{a:List Trm}(ha:DegT V d a)(h:d<=e):DegT V e a:=λt ht=>⟨(ha t ht).1,Nat.le_trans (ha t ht).2 h⟩
def aqu (x:Dyadic)(a b:Nat):dF x (a+b)=dF x a*dF x b:=by
 induction b with
 |zero=>show dF x a=dF x a*1;grind
 |succ b ih=>rw[<-Nat.add_assoc,dF,ih,dF];grind
def aoE (X:Nat->Dyadic)(n:Nat)(a b:List UInt8)(ha:a.length=n)(hb:b.length=n)(h:fP a+fP b<=127)(k:Nat):fx X 1 (fE a b) k=fx X 1 a k*fx X 1 b k:=by
 induction k with
 |zero=>show(1:Dyadic)=1*1;grind
 | succ k ih=>
   have h1:=vY a k;have h2:=vY b k;have e:((fE a b).getD k 0).toNat=(a.getD k 0).toNat+(b.getD k 0).toNat:=by
    by_cases hk:k<n
    . have hk2:k<(fE a b).length:=by rw[zF a b n ha hb];exact hk
      rw[<-MF a b k hk2 zo];simp[hk2]
    . rw[List.getD_eq_getElem?_getD,List.getElem?_eq_none (by rw[zF a b n ha hb];omega),List.getD_eq_getElem?_getD,List.getElem?_eq_none zo,List.getD_eq_getElem?_getD,List.getElem?_eq_none zo];rfl
   rw[fx,fx,fx,ih,e,aqu];grind
def akS (X:Nat->Dyadic)(V d e:Nat)(ta tb:List Trm)(ha:DegT V d ta)(hb:DegT V e tb)(h:d+e<=127):bz (fw X V) (fp ta tb)=bz (fw X V) ta*bz (fw X V) tb:=by
 induction ta with
 |nil=>show(0:Dyadic)=0*_;grind
 | cons x ta ih=>
   have h1:=ha x zm;have l1:=(tW h1.1).1;have hx:bz (fw X V) (tb.map λy=>(fE x.1 y.1,canon (dval x.2*dval y.2)))=dval x.2*fw X V x.1*bz (fw X V) tb:=by
    clear ih;induction tb with
    |nil=>show(0:Dyadic)=_*0;grind
    | cons y tb ih2=>
      have h2:=hb y zm;have l2:=(tW h2.1).1;rw[List.map_cons,bz,bz,ih2 (λt ht=>hb t (by simp[ht])),bD];show _*fx X 1 (fE x.1 y.1) V+_=_
      rw[aoE X V x.1 y.1 l1 l2 (by have:=h1.2;have:=h2.2;omega)];unfold fw;grind
   have ec:fp (x::ta) tb=(tb.map λy=>(fE x.1 y.1,canon (dval x.2*dval y.2)))++fp ta tb:=rfl;rw[ec,xe,hx,ih (λt ht=>ha t (by simp[ht])),bz];grind
end Go.Proofs.YtpfgffadgkkedaaGreatDoor
namespace Go.Proofs.YtpfgffadgkkedaaGreatDoor
open Go.RowKit
attribute [local go_sem ↓] Go.wp_at_zero Go.wp_at_succ
def Bv (w:World)(x:Value)(n v:Nat):Prop:=v<2^n/\((x=.slice none 0 0/\n=0)\/∃b o cap,x=.slice (some ⟨b,o,none⟩) n cap/\n<=cap/\∀j,j<n->w.cell? ⟨b,o+j,none⟩=some (.int .u8 (bd v j:Int)))
def Bv.below {w w':World}{x:Value}{n v:Nat}(h:Bv w x n v)(hb:Bw w w'):Bv w' x n v:=by
 refine⟨h.1,?_⟩;rcases h.2 with h|⟨b,o,cap,e,h1,hc⟩
 . exact .inl h
 . exact .inr ⟨b,o,cap,e,h1,λj hj=>cell_later hb (hc j hj)⟩
def Bv.awS {w:World}{base:Nat}{e:TypeId}{x:Value}{n v:Nat}(h:w.ownsRow base e 1 x n (cH n (bd v)))(hx:v<2^n):Bv w x n v:=by
 refine⟨hx,?_⟩;rcases h.2 with⟨rfl,rfl⟩ |⟨g,cap,cur,rfl,hb,hg,h2,h3,h4,h5⟩
 . exact .inl ⟨rfl,rfl⟩
 . refine .inr ⟨g,0,cap,rfl,h2,λj hj=>?_⟩;have:=h.cells (g:=g) rfl j _ (lv n (bd v) j hj);have e2:((⟨g,0,none⟩:Addr).add j)=⟨g,j,none⟩:=by simp[Addr.add];omega
   rw[Nat.zero_add,<-e2];exact this
def Bv.awH {w:World}{b:Nat}{t:TypeId}{n v:Nat}(h:ar w b t (cH n (bd v)))(hv:v<2^n):Bv w (.slice (some ⟨b,0,none⟩) n n) n v:=
 ⟨hv,.inr ⟨b,0,n,rfl,Nat.le_refl _,λj hj=>by rw[Nat.zero_add,h.cell,lv _ _ _ hj]⟩⟩
def ab5 (b o n cap v:Nat)(w:World)(hm:n<=1099511627776)(hcap:n<=cap)(hc:∀j,j<n->w.cell? ⟨b,o+j,none⟩=some (.int .u8 (bd v j:Int)))(hv:v<2^n):
 Cl 287 #[.slice (some ⟨b,o,none⟩) n cap] w λe w'=>e=.returned (.slice (some ⟨b,o,none⟩) (bu v) cap)/\w=w':=by
 have Hc:=aj hc;clear hc;have Hv:=aj hv;clear hv;go_enter Tryz.func287,Tryz.ntmps287;go_wp2_with fail;go_loop [3] (λx=>∃k:Nat,k<=n/\v<2^k/\x=af (k:Int)) (λx=>(intOf x).toNat)
 case atStart=>exact⟨n,Nat.le_refl _,Hv.out,rfl⟩
 case round=>
  obtain⟨k,hk,hvk,rfl⟩:=hrel;have mD:=aj hvk;clear hvk;by_cases h0:0<k
  . have hcell:w.cell? ⟨b,o+(k-1),none⟩=some (.int .u8 (bd v (k-1):Int)):=Hc.out _ zo;have aQ:=tN n cap (k-1) ((k:Int)-1) (rfl:(some ⟨b,o,none⟩:Option Addr)=_) zo zo;rw[Nat.mul_one]at aQ;by_cases hd:bd v (k-1)=0
    . have hd':((bd v (k-1):Int)==0)=true:=by simp[hd]
      have Hd:=aj hd;clear hd;go_wp2;refine⟨⟨k-1,by omega,?_,by go_num⟩,by simp[intOf];omega⟩;refine ai2 ?_ Hd.out;rw[show k-1+1=k by omega];exact mD.out
    . have hd':((bd v (k-1):Int)==0)=false:=by simp[hd]
      have Hd:=aj hd;clear hd;go_wp2;go_ret;have e:bu v=k:=by have:=aiO (v:=v) (k:=k-1) (by rw[show k-1+1=k by omega];exact mD.out) (ai1 Hd.out);omega
      rw[e];exact⟨rfl,rfl⟩
  . obtain rfl:k=0:=by omega
    go_wp2;go_ret;have e:bu v=0:=by have:=mD.out;simp at this;subst this;rfl
    rw[e];exact⟨rfl,rfl⟩
def ab6 (w:World):
 Cl 287 #[.slice none 0 0] w λe w'=>e=.returned (.slice none 0 0)/\w=w':=by
 go_enter Tryz.func287,Tryz.ntmps287;go_wp2_with fail;refine wp_loop_rounds 1 ?_;rw[rounds_succ];go_wp2;go_ret;exact⟨rfl,rfl⟩
def Cr (x:Value)(lo:Nat):Prop:=∀b o n c,x=.slice (some ⟨b,o,none⟩) n c->lo<=b
def QY (x:Value)(n v:Nat)(w:World)(hm:n<=1099511627776)(hx:Bv w x n v):
 Cl 287 #[x] w λe w'=>(∃y,e=.returned y/\Bv w y (bu v) v/\∀lo,Cr x lo->Cr y lo)/\w=w':=by
 have hl:=gw hx.1;rcases hx.2 with⟨rfl,rfl⟩ |⟨b,o,cap,rfl,h1,hc⟩
 . refine(ab6 w).mono ?_;rintro e w' ⟨rfl,rfl⟩;exact⟨⟨_,rfl,⟨pP v,.inl ⟨rfl,by omega⟩⟩,λ_ h=>h⟩,rfl⟩
 . refine(ab5 b o n cap v w hm h1 hc hx.1).mono ?_;rintro e w' ⟨rfl,rfl⟩;exact⟨⟨_,rfl,⟨pP v,.inr ⟨b,o,cap,rfl,by omega,λj hj=>hc j zo⟩⟩,λlo h b' o' n' c' e=>by cases e;exact h _ _ _ _ rfl⟩,rfl⟩
def arc (b o n cap v:Nat)(w:World)(hm:n<=1099511627776)(hcap:n<=cap)(hc:∀j,j<n->w.cell? ⟨b,o+j,none⟩=some (.int .u8 (bd v j:Int)))(hv:v<2^n):
 Cv 263 #[.slice (some ⟨b,o,none⟩) n cap] w (ah (nt v)):=by
 have hle:=gw hv;have hcut:=ab5 b o n cap v w hm hcap hc hv;have hvl:=pP v;have lC:Hid ((List.range ((bu v+7)/8)).map (λj=>UInt8.ofNat (v/256^((bu v+7)/8-1-j)%256))=nt v):=Qw _ _ (Cz v).1 (Cz v).2;generalize hL:bu v=L at*;obtain⟨nb,hnb⟩:=az ((L+7)/8);have hmk:=tY (((L:Int)+7)/8) nb zo zo;have OW:((L:Int)+7)/8=(nb:Int):=by omega
 rw[OW]at hmk;rw[hnb]at lC;obtain⟨ae0,Hc,Hv,sL,HL⟩:=eV hcut hc hv hvl hL;clear hcut hc hv hvl hL;go_enter Tryz.func263,Tryz.ntmps263;go_wp2_with fail;refine ae0.out.mono ?_;rintro e w' ⟨rfl,rfl⟩;go_wp2_with fail;go_loopw[4] (λi wr=>∃k:Nat,k<=L/\i=af (k:Int)/\ar wr w.heap.size 5 (cH nb (λj=>v%2^k/256^(nb-1-j)%256))/\Bw w wr) (λi _=>L-(intOf i).toNat);case atStart=>
  refine⟨0,Nat.zero_le _,rfl,?_,zl⟩;have e:cH nb (λj=>v%2^0/256^(nb-1-j)%256)=cH nb λ_=>0:=mz λj hj=>by simp[Nat.mod_one]
  rw[e];exact ar.new _ _ _
 case round=>
  obtain⟨k,hk,rfl,hB,hb⟩:=hrel;by_cases hlt:k<L
  . have hq:k/8<nb:=by omega
    obtain⟨Z,hZ⟩:=az (bd v k);have hZ1:Z<=1:=by rw[<-hZ];exact ry v k
    have jN:wr.cell? ⟨b,o+k,none⟩=some (.int .u8 (Z:Int)):=by rw[<-hZ];exact cell_later hb (Hc.out _ zo)
    obtain⟨A,hA⟩:=az (v%2^k/256^(k/8)%256);have hcell:wr.cell? ⟨w.heap.size,nb-1-k/8,none⟩=some (.int .u8 (A:Int)):=by rw[hB.cell,lv _ _ _ zo,show nb-1-(nb-1-k/8)=k/8 by omega,hA]
    have hfree:wr.frozen? ⟨w.heap.size,nb-1-k/8,none⟩=false:=hB.free _;obtain⟨hb1,hb2⟩:=ai6 v k;rw[hA,hZ]at hb1 hb2;have bL:=hB.set (nb-1-k/8) (.int .u8 ((A+Z*2^(k%8):Nat):Int));have hb3:=hb.setCell (p:=⟨w.heap.size,nb-1-k/8,none⟩) (Nat.le_refl _) (.int .u8 ((A+Z*2^(k%8):Nat):Int))
    rw[Bh,mz (g:=λj=>v%2^(k+1)/256^(nb-1-j)%256) λj hj=>by
     by_cases tE:j=nb-1-k/8
     . subst tE;rw[if_pos rfl,show nb-1-(nb-1-k/8)=k/8 by omega,hb1]
     . rw[if_neg tE,ai7 v k _ zo]]at bL
    obtain⟨dQ,Hb⟩:=aI bL hb3;clear hB hb bL hb3 hb1 hA hZ;have He:Hid ((((A:Int)+(Z:Int) *2^(k%8))%256)=((A+Z*2^(k%8):Nat):Int)):=by
     show _=_
     have:((Z:Int) *2^(k%8))=((Z*2^(k%8):Nat):Int):=by simp
     rw[this];omega
    clear hb2;go_wp2;go_region
    go_wp2;go_roundw;case rel=>rw[He.out];exact⟨k+1,by omega,by go_num,dQ.out,Hb.out.drew⟩
    case measure=>exact bf
  . obtain rfl:k=L:=by omega
    rw[Nat.mod_eq_of_lt sL.out]at hB;have oM:=Bg hB nb;rw[lC.out]at oM;have Hb:=aj hb;clear hb hB;go_wp2;go_ret;exact⟨rfl,Hb.out⟩
def ard (w:World):
 Cv 263 #[.slice none 0 0] w (.string (bs [])):=by
 have hmk:=tY 0 0 rfl zo;have oM:=Bg (ar.new w 5 (cH 0 λ_=>0)) 0;go_enter Tryz.func263,Tryz.ntmps263;go_wp2_with fail;refine(ab6 w).mono ?_;rintro e w' ⟨rfl,rfl⟩;go_wp2_with fail;refine wp_loop_rounds 1 ?_;rw[rounds_succ];go_wp2;go_ret;exact⟨rfl,zl⟩
def vT (x:Value)(n v:Nat)(w:World)(hm:n<=1099511627776)(hx:Bv w x n v):
 Cv 263 #[x] w (ah (nt v)):=by
 rcases hx.2 with⟨rfl,rfl⟩ |⟨b,o,cap,rfl,h1,hc⟩
 . have h0:=hx.1;obtain rfl:v=0:=by simpa using h0
   exact ard w
 . exact arc b o n cap v w hm h1 hc hx.1
def ac4 (n:Nat)(f:Nat->Nat):cH (n+1) f=cH n f++[.int .u8 (f n:Int)]:=by unfold cH;rw[List.range_succ,List.map_append];rfl
def aca (N:Nat)(w:World)(hN:N<WW):
 Cv 218 #[.int .u64 (N:Int)] w (ah (nt N)):=by
 obtain⟨i0,hi,hz0,hz1,hz2⟩:=info_parts Tryz.awQ;have hNb:bu N<=64:=gw (by rw[kd]at hN;exact hN);have hW:=iG;go_enter Tryz.func218,Tryz.ntmps218;go_wp2_with fail;go_loopw[0,3] (λu v wr=>∃k:Nat,k<=bu N/\u=.int .u64 ((N/2^k:Nat):Int)/\wr.ownsRow w.heap.size 5 1 v k (cH k (bd N))/\Bw w wr) (λu _ _=>(intOf u).toNat);case atStart=>exact⟨0,Nat.zero_le _,by simp,World.ownsRow_nil _ _ _ _,Below.refl _ _⟩
 case round=>
  obtain⟨k,hk,rfl,hown,hb⟩:=hrel;obtain⟨M,hM⟩:=az (N/2^k);have CS:M<18446744073709551616:=by have:=Nat.div_le_self N (2^k);omega
  have HM:=aj hM;rw[hM];have zY:N/2^(k+1)=M/2:=by rw[Nat.pow_succ,<-Nat.div_div_eq_div_mul,hM]
  have gX:bd N k=M%2:=by unfold bd;rw[hM]
  obtain⟨ww,jD⟩:=aI zY gX;clear hM zY gX hW hN;by_cases h0:0<M
  . have h01:(0:Int)<(M:Int):=by omega
    have hkl:k<bu N:=by
     rcases Nat.lt_or_ge k (bu N)with h|h
     . exact h
     . have h1:N<2^k:=Nat.lt_of_lt_of_le (pP N) (Nat.pow_le_pow_right zd h);have:=HM.out;rw[Nat.div_eq_of_lt h1]at this;omega
    have hs0:=hb.size;have nP:=aj hown;clear hown;go_wp2_with (first| (at_builtin;refine wpList_append_own _ rfl _ _ 59 rfl w.heap.size 5 i0 (.int .u8 0) 1 1 Tryz.underlying59 hi hz0 hz1 hz2 rfl zd _ _ _ rfl (nP.out.alloc _) ⟨wr.heap.size,0,none⟩ 1 1 [.int .u8 ((M:Int)%2)] rfl rfl (cell_one_new _ _ _) zy zx zo zi ?_;intro v' w1 ho hg _;obtain⟨Ho,Hg⟩:=aI ho hg;clear ho hg));go_roundw;case rel=>
     refine⟨k+1,by omega,?_,?_,?_⟩
     . rw[ww.out];go_num
     . rw[ac4,jD.out];have e:((M%2:Nat):Int)=(M:Int)%2:=by omega
       rw[e];exact Ho.out
     . exact(hb.alloc hs0 _).grown Hg.out zi (λj e=>cZ nP.out j e)
    case measure=>exact bf
  . obtain rfl:M=0:=by omega
    have YU:N<2^k:=by have:=HM.out;exact(Nat.div_eq_zero_iff_lt (Nat.pow_pos zd)).1 this
    obtain⟨KF,Hb⟩:=aI (Bv.awS hown YU) hb;clear hown YU hb;go_wp2_with fail;refine(vT u3 k N wr zo KF.out).mono ?_;rintro e w2 ⟨rfl,hb2⟩;have cn:=aj hb2;clear hb2;go_wp2;go_ret;exact⟨rfl,aC Hb.out cn.out⟩
def MI (a:Nat)(ha:a<256):bits .and .u8 (a:Int) 1=((a%2:Nat):Int):=by
 have h1:(BitVec.ofInt 8 (a:Int)).toNat=a:=by rw[BitVec.ofInt_natCast,BitVec.toNat_ofNat];exact Nat.mod_eq_of_lt zo
 show IntKind.u8.wrap ((BitVec.ofInt 8 (a:Int)&&&BitVec.ofInt 8 1).toNat:Int)=_
 rw[BitVec.toNat_and,h1,show(BitVec.ofInt 8 1).toNat=1 from rfl,Nat.and_one_is_mod,IntKind.wrap_u8];omega
def qO (l:List UInt8)(w:World)(hl:l.length<=68719476736):
 Cl 264 #[ah l] w λe w'=>(∃y,e=.returned y/\Bv w' y (bu (nv l)) (nv l))/\Bw w w':=by
 obtain⟨i0,hi,hz0,hz1,hz2⟩:=info_parts Tryz.awQ;have hsz:(bs l).size=l.length:=jh l;go_enter Tryz.func264,Tryz.ntmps264;go_wp2_with fail;go_loopw[3,4,5] (λv i _ wr=>∃m:Nat,m<=l.length/\i=af ((l.length:Int)-1-(m:Int))/\wr.ownsRow w.heap.size 5 1 v (8*m) (cH (8*m) (bd (nv l)))/\Bw w wr) (λ_ i _ _=>(intOf i+1).toNat);case atStart=>exact⟨0,Nat.zero_le _,by go_num,World.ownsRow_nil _ _ _ _,Below.refl _ _⟩
 case round=>
  obtain⟨m,hm,rfl,hown,hb⟩:=hrel;obtain⟨nP,Hb⟩:=aI hown hb;clear hown hb;by_cases hlt:m<l.length
  . have hge:(m:Int)<=(l.length:Int)-1:=by omega
    have eZ:=rP l ((l.length:Int)-1-(m:Int)) (l.length-1-m) zo zo;have aeR:Hid (∀k,k<8->l[l.length-1-m].toNat/2^k%2=bd (nv l) (8*m+k)):=λk hk=>apg l m k hlt hk;have hC:=(l[l.length-1-m]'zo).toNat_lt;generalize hCe:l[l.length-1-m].toNat=C at*;clear hCe;go_wp2_with fail;go_loopw[3,5] (λv j wr=>∃k:Nat,k<=8/\j=af (k:Int)/\wr.ownsRow w.heap.size 5 1 v (8*m+k) (cH (8*m+k) (bd (nv l)))/\Bw w wr) (λ_ j _=>8-(intOf j).toNat);case atStart=>exact⟨0,Nat.zero_le _,rfl,nP.out,Hb.out⟩
    case round=>
     clear nP Hb;obtain⟨k,hk,rfl,hown,hb⟩:=hrel;obtain⟨nP,Hb⟩:=aI hown hb;have hs0:=hb.size;clear hown hb;by_cases xz:k<8
     . obtain ⟨Z,hZ⟩:=az (C/2^k%2);have hbk:=aeR.out k xz;rw[hZ]at hbk;have wA:=aj hbk;clear hbk;have hand:bits .and .u8 ((C:Int)/2^k) 1=(Z:Int):=by
        have e:(C:Int)/2^k=((C/2^k:Nat):Int):=by simp
        have:=Nat.div_le_self C (2^k);rw[e,MI _ zo,hZ]
       clear hZ;go_wp2_with (first| (at_builtin;refine wpList_append_own _ rfl _ _ 59 rfl w.heap.size 5 i0 (.int .u8 0) 1 1 Tryz.underlying59 hi hz0 hz1 hz2 rfl zd _ _ _ rfl (nP.out.alloc _) ⟨wr.heap.size,0,none⟩ 1 1 [.int .u8 (Z:Int)] rfl rfl (cell_one_new _ _ _) zy zx zo zi ?_;intro v' w1 ho hg _;obtain⟨Ho,Hg⟩:=aI ho hg;clear ho hg));go_roundw;case rel=>
        refine⟨k+1,by omega,?_,?_,?_⟩
        . go_num
        . rw[<-Nat.add_assoc,ac4,<-wA.out];exact Ho.out
        . exact(Hb.out.alloc hs0 _).grown Hg.out zi (λj e=>cZ nP.out j e)
       case measure=>exact bf
     . obtain rfl:k=8:=by omega
       go_wp2;go_roundw;case rel=>exact⟨m+1,by omega,by go_num,nP.out,Hb.out⟩
       case measure=>exact bf
  . obtain rfl:m=l.length:=by omega
    have KF:=aj (Bv.awS nP.out (pg l));clear hlt;go_wp2_with fail;refine(QY u3 (8*l.length) (nv l) wr zo KF.out).mono ?_;rintro e w2 ⟨⟨y,rfl,hy,_⟩,rfl⟩;have Hy:=aj hy;clear hy;go_wp2;go_ret;exact⟨⟨_,rfl,Hy.out⟩,Hb.out⟩
def Be (x:Value)(n v i:Nat)(w:World)(hx:Bv w x n v)(hi:i<=1099511627776)(hn:n<=1099511627776):
 Cl 290 #[x,af (i:Int)] w λe w'=>e=.returned (.int .u8 (bd v i:Int))/\w=w':=by
 obtain⟨hv,h⟩:=hx;by_cases hlt:i<n
 . rcases h with⟨rfl,h0⟩ |⟨b,o,cap,rfl,h1,hc⟩
   . omega
   . have hcell:=hc i hlt;have aQ:=tN n cap i (i:Int) (rfl:(some ⟨b,o,none⟩:Option Addr)=_) hlt rfl;rw[Nat.mul_one]at aQ;clear hc hv;go_enter Tryz.func290,Tryz.ntmps290;go_wp2;go_ret;exact⟨rfl,rfl⟩
 . have h0:bd v i=0:=aiD hv zo;have H0:=aj h0;clear h0 hv;rcases h with⟨rfl,h0⟩ |⟨b,o,cap,rfl,h1,hc⟩
   . subst h0;go_enter Tryz.func290,Tryz.ntmps290;go_wp2;go_ret;exact⟨by rw[H0.out];rfl,rfl⟩
   . clear hc;go_enter Tryz.func290,Tryz.ntmps290;go_wp2;go_ret;exact⟨by rw[H0.out];rfl,rfl⟩
def Bv.len {w:World}{x:Value}{n v:Nat}(h:Bv w x n v):∃a cap,x=.slice a n cap:=by
 rcases h.2 with⟨rfl,rfl⟩ |⟨b,o,cap,rfl,_⟩
 . exact⟨_,_,rfl⟩
 . exact⟨_,_,rfl⟩
def ab4 (x y:Value)(n m v u:Nat)(w:World)(hx:Bv w x n v)(hy:Bv w y m u)(hn:n<=1099511627776)(hm:m<=1099511627776):
 Cl 288 #[x,y] w λe w'=>e=.returned (af (cG v u))/\w=w':=by
 obtain⟨a,cap,mX⟩:=hx.len;obtain⟨a',cap',El⟩:=hy.len;have lO:=λi (hi:i<=1099511627776)=>Be x n v i w hx hi hn;have hby:=λi (hi:i<=1099511627776)=>Be y m u i w hy hi hm;have hv:=hx.1;have hu:=hy.1;subst mX;subst El;obtain⟨BD,su,Hv,Hu⟩:=bU lO hby hv hu;clear lO hby hv hu hx hy;obtain⟨M,hM⟩:=az (max n m);have hMI:max (n:Int) (m:Int)=(M:Int):=by omega
 have bE:Hid (v/2^M=u/2^M):=by
  show _=_
  rw[Nat.div_eq_of_lt (Nat.lt_of_lt_of_le Hv.out (Nat.pow_le_pow_right zd zo)),Nat.div_eq_of_lt (Nat.lt_of_lt_of_le Hu.out (Nat.pow_le_pow_right zd zo))]
 have CS:M<=1099511627776:=by omega
 clear hM;go_enter Tryz.func288,Tryz.ntmps288;go_wp2_with fail;go_loop [5] (λi=>∃k:Nat,k<=M/\v/2^k=u/2^k/\i=af ((k:Int)-1)) (λi=>(intOf i+1).toNat)
 case atStart=>exact⟨M,Nat.le_refl _,bE.out,rfl⟩
 case round=>
  obtain⟨k,hk,hvk,rfl⟩:=hrel;have mD:=aj hvk;clear hvk;by_cases h0:0<k
  . obtain⟨j,rfl⟩:∃j,k=j+1:=⟨k-1,by omega⟩;have lO:=BD.out j zo;have hby:=su.out j zo;obtain⟨yQ,Hgt,Fw⟩:=bM (λh=>Vd (v:=v) (u:=u) mD.out h) (λh=>Vd (v:=u) (u:=v) mD.out.symm h) (λh=>aiC (v:=v) (u:=u) mD.out h);have hp1:=ry v j;have hq1:=ry u j;generalize bd v j=p at*;generalize bd u j=q at*;obtain⟨H1,H2⟩:=aI lO hby;clear lO hby;have hj:((j+1:Nat):Int)-1=(j:Int):=by omega
    rw[hj];clear hj h0;go_wp2_with fail;refine H1.out.mono ?_;rintro e w' ⟨rfl,rfl⟩;go_wp2_with fail;refine H2.out.mono ?_;rintro e w' ⟨rfl,rfl⟩;by_cases hpq:p<q
    . have amU:(p:Int)<(q:Int):=by omega
      go_wp2;go_ret;have:=yQ.out hpq;exact⟨by unfold cG;rw[if_pos this];rfl,rfl⟩
    . have amU:¬(p:Int)<(q:Int):=by omega
      go_wp2_with fail;refine H1.out.mono ?_;rintro e w' ⟨rfl,rfl⟩;go_wp2_with fail;refine H2.out.mono ?_;rintro e w' ⟨rfl,rfl⟩;by_cases hqp:q<p
      . have amY:(q:Int)<(p:Int):=by omega
        go_wp2;go_ret;have:=Hgt.out hqp;exact⟨by unfold cG;rw[if_neg zo,if_pos this];rfl,rfl⟩
      . have amY:¬(q:Int)<(p:Int):=by omega
        go_wp2;refine⟨⟨j,by omega,Fw.out zo,by go_num⟩,by simp[intOf]⟩
  . obtain rfl:k=0:=by omega
    have he:v=u:=by simpa using mD.out
    go_wp2;go_ret;exact⟨by unfold cG;rw[if_neg zo,if_neg zo];rfl,rfl⟩
def ab8 (x y:Value)(n m v u:Nat)(w:World)(hx:Bv w x n v)(hy:Bv w y m u)(hn:n<=1099511627776)(hm:m<=1099511627776)(tK:u<=v):
 Cl 289 #[x,y] w λe w'=>(∃z,e=.returned z/\Bv w' z n (v-u)/\Cr z w.heap.size)/\Bw w w':=by
 obtain⟨a,cap,mX⟩:=hx.len;obtain⟨a',cap',El⟩:=hy.len;have lO:=λW (hW:Bw w W) i (hi:i<=1099511627776)=>Be x n v i W (hx.below hW) hi hn;have hby:=λW (hW:Bw w W) i (hi:i<=1099511627776)=>Be y m u i W (hy.below hW) hi hm;have sM:Hid (v-u<2^n):=by show _<_;have:=hx.1;omega
 subst mX;subst El;obtain⟨BD,su,Ci⟩:=bM lO hby tK;clear lO hby hx hy tK;have hmk:=tY (n:Int) n rfl zo;go_enter Tryz.func289,Tryz.ntmps289;go_wp2_with fail;go_loopw[6,7,8] (λb i _ wr=>∃k:Nat,k<=n/\i=af (k:Int)/\b=.int .u8 (bb v u k:Int)/\ar wr w.heap.size 5 (cH n (λj=>if j<k then bd (v-u) j else 0))/\Bw w wr) (λ_ i _ _=>n-(intOf i).toNat);case atStart=>
  refine⟨0,Nat.zero_le _,rfl,by rw[aiv];rfl,?_,zl⟩;have e:cH n (λj=>if j<0 then bd (v-u) j else 0)=cH n λ_=>0:=mz λj hj=>by rw[if_neg zo]
  rw[e];exact ar.new _ _ _
 case round=>
  obtain⟨k,hk,rfl,rfl,hB,hb⟩:=hrel;by_cases hlt:k<n
  . obtain⟨H1,H2⟩:=aI (BD.out wr hb k zo) (su.out wr hb k zo);have hs:=aiu v u k;have hd:=ait v u k Ci.out;have hp:=ry v k;have hq:=ry u k;have hr:=Va v u k;have hcell:wr.cell? ⟨w.heap.size,k,none⟩=some (.int .u8 0):=by rw[hB.cell,lv _ _ _ hlt,if_neg zo];rfl
    have hfree:wr.frozen? ⟨w.heap.size,k,none⟩=false:=hB.free _;have bL:=hB.set k (.int .u8 ((bd (v-u) k:Nat):Int))
    rw[Bh,mz (g:=λj=>if j<k+1 then bd (v-u) j else 0) λj hj=>by
     by_cases e:j=k
     . subst e;rw[if_pos rfl,if_pos zo]
     . rw[if_neg e];by_cases e2:j<k
       . rw[if_pos e2,if_pos zo]
       . rw[if_neg e2,if_neg zo]]at bL
    obtain⟨dQ,Hb⟩:=aI bL (hb.setCell (p:=⟨w.heap.size,k,none⟩) (Nat.le_refl _) (.int .u8 ((bd (v-u) k:Nat):Int)));clear hB bL hb;generalize bd v k=p at*;generalize bd u k=q at*;generalize bb v u k=r at*;generalize bd (v-u) k=z at*;have Hs:=aj hs;clear hs;obtain⟨S,hS⟩:=az (2+p-q-r);have hS3:S<=3:=by omega
    have hw1:IntKind.u8.wrap (2+(p:Int))=2+(p:Int):=by rw[IntKind.wrap_u8];omega
    have hw2:IntKind.u8.wrap (2+(p:Int)-(q:Int))=2+(p:Int)-(q:Int):=by rw[IntKind.wrap_u8];omega
    have hw3:IntKind.u8.wrap (2+(p:Int)-(q:Int)-(r:Int))=(S:Int):=by rw[IntKind.wrap_u8];omega
    have hand:bits .and .u8 (S:Int) 1=(z:Int):=by rw[MI S zo,<-hd];omega
    obtain⟨HS,Hd⟩:=aI hS hd;clear hS hd;go_wp2_with fail;refine H1.out.mono ?_;rintro e w' ⟨rfl,rfl⟩;go_wp2_with fail;refine H2.out.mono ?_;rintro e w' ⟨rfl,rfl⟩;go_wp2;go_roundw;case rel=>refine⟨k+1,by omega,by go_num,?_,dQ.out,Hb.out⟩;rw[Hs.out];have:=HS.out;congr 1;split<;>omega
    case measure=>exact bf
  . obtain rfl:k=n:=by omega
    rw[mz (g:=bd (v-u)) λj hj=>by rw[if_pos hj]]at hB;obtain⟨Hz,Hb⟩:=aI (Bv.awH hB sM.out) hb;clear hB hb;go_wp2;go_ret;exact⟨⟨_,rfl,Hz.out,λb o n' c e=>by cases e;exact Nat.le_refl _⟩,Hb.out⟩
end Go.Proofs.YtpfgffadgkkedaaGreatDoor
namespace Go.Proofs.YtpfgffadgkkedaaGreatDoor
def asJ {rows:List (List Raw)}{B:Nat}(h5:rows.length<=5)(hf:∀r∈rows,∀c∈r,Fit B c)(hv:kI rows≠0):∃m,m+1<=4/\Rw (m+1) B rows:=by obtain⟨c1,c2,c3,c4⟩:=RF rfl hv;obtain⟨m,hm⟩:∃m:Nat,kI rows=((m+1:Nat):Int):=⟨((kI rows)-1).toNat,by omega⟩;exact⟨m,by omega,by omega,λr hr=>by have:=c4 r hr;omega,hf⟩
def Ru {rows:List (List Raw)}{B:Nat}(h5:rows.length<=5)(hf:∀r∈rows,∀c∈r,Fit B c)(h:nu rows=0):∃m,m+1<=4/\Rw (m+1) B rows:=
 asJ h5 hf (λh0=>by unfold nu at h;rw[if_pos h0]at h;cases h)
def gK (m:List UInt8):List Trm->Nat
 |[]=>0
 |x::l=>if Op.bytesLess x.1 m then gK m l+1 else 0
def ahS (m:List UInt8)(l:List Trm):gK m l<=l.length:=by
 induction l with
 |nil=>exact Nat.le_refl _
 |cons x l ih=>unfold gK;split<;>simp<;>omega
def fZ (l:List Trm)(x:Trm):List Trm:=match l with
 |[]=>[(x.1,canon (dval x.2))]
 |y::l=>if Op.bytesLess y.1 x.1 then y::fZ l x else if y.1=x.1 then(x.1,canon (dval y.2+dval x.2))::l else(x.1,canon (dval x.2))::y::l
def abV (l:List Trm)(x:Trm):fZ l x=l.take (gK x.1 l)++(if(l.drop (gK x.1 l)).head?.map (·.1)=some x.1 then(x.1,canon (dval ((l.drop (gK x.1 l)).headD default).2+dval x.2))::l.drop (gK x.1 l+1)else(x.1,canon (dval x.2))::l.drop (gK x.1 l)):=by
 induction l with
 |nil=>simp[fZ,gK]
 | cons y l ih=>
   unfold fZ gK;by_cases h:Op.bytesLess y.1 x.1=true
   . rw[if_pos h,if_pos h,ih,show List.drop (gK x.1 l+1) (y::l)=List.drop (gK x.1 l) l from rfl,show List.drop (gK x.1 l+1+1) (y::l)=List.drop (gK x.1 l+1) l from rfl,List.take_succ_cons,List.cons_append]
   . rw[if_neg h,if_neg h];by_cases e:y.1=x.1
     . rw[if_pos e];simp[e]
     . rw[if_neg e];simp[e]
def ajG (l:List Trm)(x:Trm)(m:List UInt8):bN (fZ l x) m=bN l m+if x.1=m then dval x.2 else 0:=by
 induction l with
 |nil=>simp only[fZ,bN,bD];grind
 | cons y l ih=>
   unfold fZ;split
   . simp only[bN,ih];grind
   . split
     . rename_i h e
       simp only[bN,bD,e];split<;>grind
     . simp only[bN,bD];grind
def aqk (l:List Trm)(x:Trm):∀y∈fZ l x,y.1=x.1\/∃z∈l,z.1=y.1:=by
 induction l with
 |nil=>intro y hy;simp only[fZ,List.mem_singleton]at hy;rw[hy];exact .inl rfl
 | cons z l ih=>
   intro y hy;unfold fZ at hy;split at hy
   . rcases List.mem_cons.1 hy with rfl|hy
     . exact .inr ⟨y,by simp,rfl⟩
     . rcases ih y hy with h|⟨u,hu,e⟩
       . exact .inl h
       . exact .inr ⟨u,by simp[hu],e⟩
   . split at hy
     . rcases List.mem_cons.1 hy with rfl|hy
       . exact .inl rfl
       . exact .inr ⟨y,by simp[hy],rfl⟩
     . rcases List.mem_cons.1 hy with rfl|hy
       . exact .inl rfl
       . exact .inr ⟨y,hy,rfl⟩
def aqn (l:List Trm)(x:Trm)(h:Up l):Up (fZ l x):=by
 induction l with
 |nil=>exact List.pairwise_singleton _ _
 | cons y l ih=>
   obtain⟨h1,h2⟩:=List.pairwise_cons.1 h;unfold fZ;split
   . rename_i hy
     refine List.pairwise_cons.2 ⟨λz hz=>?_,ih h2⟩;rcases aqk l x z hz with e|⟨u,hu,e⟩
     . rw[e];exact hy
     . rw[<-e];exact h1 u hu
   . rename_i hy
     split
     . rename_i e
       refine List.pairwise_cons.2 ⟨λz hz=>?_,h2⟩;show Op.bytesLess x.1 z.1=true
       rw[<-e];exact h1 z hz
     . rename_i e
       have hlt:Op.bytesLess x.1 y.1=true:=by
        cases hc:Op.bytesLess x.1 y.1 with
        |true=>rfl
        |false=>exact absurd (zK (by simpa using hy) hc) e
       refine List.pairwise_cons.2 ⟨λz hz=>?_,h⟩;show Op.bytesLess x.1 z.1=true
       rcases List.mem_cons.1 hz with rfl|hz
       . exact hlt
       . exact Cy hlt (h1 z hz)
def aqj (l:List Trm)(x:Trm):(fZ l x).length<=l.length+1:=by
 induction l with
 |nil=>exact Nat.le_refl _
 | cons y l ih=>
   unfold fZ;split
   . simp only[List.length_cons];omega
   . split<;>simp
def gF (l:List Trm):List Trm:=l.foldl fZ []
def Bd (l:List Trm)(x:Trm):gF (l++[x])=fZ (gF l) x:=by unfold gF;rw[List.foldl_append];rfl
def EM {Q:List Trm->Prop}(h0:Q [])(h1:∀l x,Q l->Q (l++[x]))(l:List Trm):Q l:=by
 have h:∀r:List Trm,Q r.reverse:=by
  intro r;induction r with
  |nil=>exact h0
  |cons x r ih=>rw[List.reverse_cons];exact h1 _ _ ih
 have:=h l.reverse;rwa [List.reverse_reverse]at this
def aqs (l:List Trm):Up (gF l):=EM (Q:=λl=>Up (gF l)) List.Pairwise.nil (λl x ih=>by rw[Bd];exact aqn _ _ ih) l
def ajH (l:List Trm)(m:List UInt8):bN (gF l) m=bN l m:=EM (Q:=λl=>bN (gF l) m=bN l m) rfl (λl x ih=>by rw[Bd,ajG,ih,wW];simp only[bN];grind) l
def aqp (l:List Trm):(gF l).length<=l.length:=EM (Q:=λl=>(gF l).length<=l.length) (Nat.le_refl _) (λl x ih=>by rw[Bd];have:=aqj (gF l) x;simp;omega) l
def aqi (l:List Trm)(x:Trm)(h:∀t∈l,t.2=canon (dval t.2)):∀t∈fZ l x,t.2=canon (dval t.2):=by
 have hc:∀X:Dyadic,canon X=canon (dval (canon X)):=λX=>by rw[bD]
 induction l with
 |nil=>intro t ht;simp only[fZ,List.mem_singleton]at ht;rw[ht];exact hc _
 | cons y l ih=>
   intro t ht;unfold fZ at ht;split at ht
   . rcases List.mem_cons.1 ht with rfl|ht
     . exact h _ zm
     . exact ih (λt ht=>h t (by simp[ht])) t ht
   . split at ht
     . rcases List.mem_cons.1 ht with rfl|ht
       . exact hc _
       . exact h t (by simp[ht])
     . rcases List.mem_cons.1 ht with rfl|ht
       . exact hc _
       . exact h t ht
def abW (l:List Trm):∀t∈gF l,t.2=canon (dval t.2):=EM (Q:=λl=>∀t∈gF l,t.2=canon (dval t.2)) (λt ht=>by cases ht) (λl x ih=>by rw[Bd];exact aqi _ _ ih) l
def alB (l:List Trm):(gF l).filter fN=aS l:=by refine Nz ⟨List.Pairwise.filter _ (aqs l),λx hx=>?_⟩ (ji l) (λm=>by rw[Vz,ajH,oJ]);obtain⟨h1,h2⟩:=List.mem_filter.1 hx;refine⟨(uR _).1 ?_,abW l x h1⟩;unfold fN at h2;simpa using h2
end Go.Proofs.YtpfgffadgkkedaaGreatDoor
namespace Go.Proofs.YtpfgffadgkkedaaGreatDoor
open Go.RowKit
attribute [local go_sem ↓] Go.wp_at_zero Go.wp_at_succ
def qG (d:Int):List Value:=[af d]
def At.awO {w:World}{a:Option Addr}{ds:List Int}(h:At w a (ds.flatMap qG))(k:Nat)(hk:k<ds.length){d:Int}(hx:ds[k]=d):
 ∃b o,a=some ⟨b,o,none⟩/\aR w b (o+k) [af d]:=by
 obtain⟨b,o,hab,hcs⟩:=h.elem (f:=qG) (sz:=1) (λ_=>rfl) zd k hk;refine⟨b,o,hab,λj hj=>?_⟩;obtain rfl:j=0:=by simp at hj;omega
 have:=hcs 0 zd;rw[Nat.mul_one,hx]at this;rw[this];rfl
def At.axg {w:World}{a:Option Addr}{xs:List Raw}(h:At w a (xs.flatMap aY))(k:Nat)(hk:k<xs.length){s:Bool}{m:List UInt8}{e:Int}(hx:xs[k]=(s,m,e)):
 ∃b o,a=some ⟨b,o,none⟩/\aR w b (o+k*3) [ag s,ah m,af e]:=by
 obtain⟨b,o,hab,p0,p1,p2⟩:=h.num k hk hx;exact⟨b,o,hab,jA p0 p1 p2⟩
def ann (a:Option Addr)(n cap:Nat)(vals:List Int)(gf:Nat)(lb:Array Value)(p:Int->Bool)(w:World)(hn:vals.length=n)(hl:n<=1099511627776)(ha:At w a (vals.flatMap qG))
 (eg:∀args w,(callFunc gf args).run Tryz.prog w=.ok (.enter gf args) w)
 (hcl:∀x∈vals,∀W,Bw w W->Cl gf (#[af x]++lb) W λe w'=>e=.returned (ag (p x))/\Bw W w'):
 Cv 242 #[.slice a n cap,.func (.func gf) #[] lb] w (af (gM p vals 0)):=by
 obtain⟨Hn,Ha,eH,iD⟩:=bU hn ha hcl eg;clear hn ha hcl eg;have Hb:=hbz w;go_enter Tryz.func242,Tryz.ntmps242;go_wp2_with fail;go_loopw[5,8] (λ_ i wr=>∃k:Nat,k<=n/\i=af (k:Int)/\gM p vals 0=gM p (vals.drop k) k/\Bw w wr) (λ_ i _=>n-(intOf i).toNat);case atStart=>exact⟨0,Nat.zero_le _,rfl,rfl,Hb.out⟩
 case round=>
  clear Hb;obtain⟨k,hk,rfl,eZ,pb⟩:=hrel;obtain⟨iK,Hb⟩:=aI eZ pb;clear eZ pb;by_cases hlt:k<n
  . have bi:k<vals.length:=by rw[Hn.out];exact hlt
    obtain⟨d,hx⟩:=az (vals[k]);obtain⟨b,o,hab,bJ⟩:=(Ha.out.below Hb.out).awO k bi hx;have q0:=bJ.w1;have aQ:=qF n cap k (k:Int) hab hlt rfl;try simp only[Nat.mul_one]at aQ
    have hcall:=eH.out _ (List.getElem_mem bi) wr Hb.out;have hstep:=Jn p vals k k bi;rw[<-iK.out]at hstep;rw[hx]at hcall hstep;obtain⟨fS,jc⟩:=aI hstep hcall;have jE:=iD.out;clear bJ hab hx hstep hcall;go_wp2_with fail;refine jc.out.mono ?_;rintro e9 w1 ⟨rfl,hb1⟩;replace Hb:=aj (aC Hb.out hb1);clear hb1 q0 aQ jE;obtain⟨t,ht⟩:=az (p d);rw[ht]at fS⊢;clear ht;cases t with
    |true=>go_wp2;refine bodyPost_ret (results_tmp rfl _ _ _) rfl ⟨?_,Hb.out⟩;have h:=fS.out;rw[if_pos (by trivial)]at h;rw[h];rfl
    | false=>
      go_wp2;go_roundw;case rel=>exact⟨k+1,by omega,by go_num,by have h:=fS.out;rw[if_neg zd]at h;exact h,Hb.out⟩
      case measure=>exact bf
  . obtain rfl:k=n:=by omega
    go_wp2;refine bodyPost_ret (results_tmp rfl _ _ _) rfl ⟨?_,Hb.out⟩;have h:=iK.out;rw[List.drop_of_length_le (by rw[Hn.out];exact Nat.le_refl _)]at h;rw[h];rfl
def ajP (a:Option Addr)(n cap:Nat)(vals:List Int)(gf:Nat)(lb:Array Value)(p:Int->Bool)(w:World)(hn:vals.length=n)(hl:n<=1099511627776)(ha:At w a (vals.flatMap qG))
 (eg:∀args w,(callFunc gf args).run Tryz.prog w=.ok (.enter gf args) w)
 (hcl:∀x∈vals,∀W,Bw w W->Cl gf (#[af x]++lb) W λe w'=>e=.returned (ag (p x))/\Bw W w'):
 Cv 192 #[.slice a n cap,.func (.func gf) #[] lb] w (ag (vals.any p)):=by
 have h1:=ann a n cap vals gf lb p w hn hl ha eg hcl;rw[<-Jm p vals 0];generalize gM p vals 0=i at*;have H1:=aj h1;clear h1 hcl eg ha hn;have Hb:=hbz w;go_enter Tryz.func192,Tryz.ntmps192;go_wp2_with fail;refine aJ (Hb.an trivial) (H1.out) λw1 ae ai=>?_;have Hb:=ae.1;go_wp2;exact bodyPost_ret (v:=ag (decide (0<=i))) (by simp[results,Tryz.results192,go_sem,ai]) rfl ⟨rfl,cm⟩
def ani (a:Option Addr)(n cap:Nat)(vals:List Raw)(gf:Nat)(lb:Array Value)(p:Raw->Bool)(w:World)(hn:vals.length=n)(hl:n<=1099511627776)(ha:At w a (vals.flatMap aY))
 (eg:∀args w,(callFunc gf args).run Tryz.prog w=.ok (.enter gf args) w)
 (hcl:∀x∈vals,∀W,Bw w W->Cl gf (#[.agg #[ag x.1,ah x.2.1,af x.2.2]]++lb) W λe w'=>e=.returned (ag (p x))/\Bw W w'):
 Cv 243 #[.slice a n cap,.func (.func gf) #[] lb] w (af (gM p vals 0)):=by
 obtain⟨Hn,Ha,eH,iD⟩:=bU hn ha hcl eg;clear hn ha hcl eg;have Hb:=hbz w;go_enter Tryz.func243,Tryz.ntmps243;go_wp2_with fail;go_loopw[5,8] (λ_ i wr=>∃k:Nat,k<=n/\i=af (k:Int)/\gM p vals 0=gM p (vals.drop k) k/\Bw w wr) (λ_ i _=>n-(intOf i).toNat);case atStart=>exact⟨0,Nat.zero_le _,rfl,rfl,Hb.out⟩
 case round=>
  clear Hb;obtain⟨k,hk,rfl,eZ,pb⟩:=hrel;obtain⟨iK,Hb⟩:=aI eZ pb;clear eZ pb;by_cases hlt:k<n
  . have bi:k<vals.length:=by rw[Hn.out];exact hlt
    obtain⟨s,m,e,hx⟩:=pU (vals[k]);obtain⟨b,o,hab,bJ⟩:=(Ha.out.below Hb.out).axg k bi hx;obtain⟨q0,q1,q2⟩:=bJ.w3;have aQ:=ot n cap k (k:Int) hab hlt rfl;try simp only[Nat.mul_one]at aQ
    have hcall:=eH.out _ (List.getElem_mem bi) wr Hb.out;have hstep:=Jn p vals k k bi;rw[<-iK.out]at hstep;rw[hx]at hcall hstep;obtain⟨fS,jc⟩:=aI hstep hcall;have jE:=iD.out;clear bJ hab hx hstep hcall;go_wp2_with fail;refine jc.out.mono ?_;rintro e9 w1 ⟨rfl,hb1⟩;replace Hb:=aj (aC Hb.out hb1);clear hb1 q0 q1 q2 aQ jE;obtain⟨t,ht⟩:=az (p (s,m,e));rw[ht]at fS⊢;clear ht;cases t with
    |true=>go_wp2;refine bodyPost_ret (results_tmp rfl _ _ _) rfl ⟨?_,Hb.out⟩;have h:=fS.out;rw[if_pos (by trivial)]at h;rw[h];rfl
    | false=>
      go_wp2;go_roundw;case rel=>exact⟨k+1,by omega,by go_num,by have h:=fS.out;rw[if_neg zd]at h;exact h,Hb.out⟩
      case measure=>exact bf
  . obtain rfl:k=n:=by omega
    go_wp2;refine bodyPost_ret (results_tmp rfl _ _ _) rfl ⟨?_,Hb.out⟩;have h:=iK.out;rw[List.drop_of_length_le (by rw[Hn.out];exact Nat.le_refl _)]at h;rw[h];rfl
def ajL (a:Option Addr)(n cap:Nat)(vals:List Raw)(gf:Nat)(lb:Array Value)(p:Raw->Bool)(w:World)(hn:vals.length=n)(hl:n<=1099511627776)(ha:At w a (vals.flatMap aY))
 (eg:∀args w,(callFunc gf args).run Tryz.prog w=.ok (.enter gf args) w)
 (hcl:∀x∈vals,∀W,Bw w W->Cl gf (#[.agg #[ag x.1,ah x.2.1,af x.2.2]]++lb) W λe w'=>e=.returned (ag (p x))/\Bw W w'):
 Cv 195 #[.slice a n cap,.func (.func gf) #[] lb] w (ag (vals.any p)):=by
 have h1:=ani a n cap vals gf lb p w hn hl ha eg hcl;rw[<-Jm p vals 0];generalize gM p vals 0=i at*;have H1:=aj h1;clear h1 hcl eg ha hn;have Hb:=hbz w;go_enter Tryz.func195,Tryz.ntmps195;go_wp2_with fail;refine aJ (Hb.an trivial) (H1.out) λw1 ae ai=>?_;have Hb:=ae.1;go_wp2;exact bodyPost_ret (v:=ag (decide (0<=i))) (by simp[results,Tryz.results195,go_sem,ai]) rfl ⟨rfl,cm⟩
def oI :Int->List Int->Int
 |n,[]=>n
 |n,d::ds=>if d<0\/127<d\/4096<n* (d+1)then 0 else oI (n* (d+1)) ds
def aix (ds:List Int)(n:Int)(k:Nat)(h:k<ds.length):oI n (ds.drop k)=if ds[k]<0\/127<ds[k]\/4096<n* (ds[k]+1)then 0 else oI (n* (ds[k]+1)) (ds.drop (k+1)):=by rw[List.drop_eq_getElem_cons h,oI]
def aiB (ds:List Int)(n:Nat)(a:Option Addr)(cap:Nat)(w:World)(hn:ds.length=n)(hl:n<=1099511627776)(ha:At w a (ds.flatMap qG))(hd:∀d∈ds,-9223372036854775808<=d/\d<=9223372036854775807):
 Cv 194 #[.slice a n cap] w (af (oI 1 ds)):=by
 obtain⟨F,hF⟩:=az (oI 1 ds);rw[hF];have HF:Hid (F=oI 1 (ds.drop 0)):=hF.symm;clear hF;obtain⟨Ha,Hn,Hd⟩:=bM ha hn hd;clear ha hn hd;have Hb:=hbz w;go_enter Tryz.func194,Tryz.ntmps194;go_wp2_with fail;go_loopw[3,8] (λs3 x wr=>∃(k:Nat) (p:Int),k<=n/\x=af (k:Int)/\s3=af p/\1<=p/\p<=4096/\F=oI p (ds.drop k)/\Bw w wr) (λ_ x _=>n-(intOf x).toNat);case atStart=>exact⟨0,1,Nat.zero_le _,rfl,rfl,by decide,by decide,HF.out,Hb.out⟩
 case round=>
  clear Hb;obtain⟨k,p,hk,rfl,rfl,hp1,hp2,hbc,pb⟩:=hrel;obtain⟨nJ,Hb⟩:=aI hbc pb;clear hbc pb;by_cases hlt:k<n
  . have hk2:k<ds.length:=by rw[Hn.out];exact hlt
    obtain⟨d,hx⟩:=az (ds[k]);obtain⟨b,o,hab,hw⟩:=(Ha.out.below Hb.out).awO k hk2 hx;have aQ:=qF n cap k (k:Int) hab hlt rfl;rw[Nat.mul_one]at aQ;have hst:=aix ds p k hk2;rw[<-nJ.out,hx]at hst;have vp:=Hd.out _ (List.getElem_mem hk2);rw[hx]at vp;have bE:=aj hst;have Hy:Hid (aR wr b (o+k) [af d]):=hw;clear hst hab hw hx;by_cases g1:d<0
    . have hr:F=0:=by rw[bE.out,if_pos (.inl g1)]
      subst hr;obtain⟨ae,ai⟩:=qZ (Hy.an trivial);go_wp2;refine bodyPost_ret (results_tmp rfl _ _ _) rfl ⟨rfl,Hb.out⟩
    by_cases g2:127<d
    . have hr:F=0:=by rw[bE.out,if_pos (.inr (.inl g2))]
      subst hr;obtain⟨ae,ai⟩:=qZ (Hy.an trivial);go_wp2;refine bodyPost_ret (results_tmp rfl _ _ _) rfl ⟨rfl,Hb.out⟩
    have hw1:IntKind.i64.wrap (d+1)=d+1:=by rw[IntKind.wrap_i64];omega
    have lS:1<=p* (d+1):=by have:=Int.mul_le_mul hp1 (show 1<=d+1 by omega) zd zo;simpa using this
    have hm2:p* (d+1)<=4096*128:=Int.mul_le_mul hp2 zo zo zd;obtain⟨q,hq⟩:=az (p* (d+1));have nQ:=aj (by have:=bE.out;rw[hq]at this;exact this);rw[hq]at lS hm2;have hw2:IntKind.i64.wrap (p* (d+1))=q:=by rw[hq,IntKind.wrap_i64];omega
    clear hq bE;by_cases g3:4096<q
    . have hr:F=0:=by rw[nQ.out,if_pos (.inr (.inr g3))]
      subst hr;obtain⟨ae,ai⟩:=qZ (Hy.an trivial);go_wp2;refine bodyPost_ret (results_tmp rfl _ _ _) rfl ⟨rfl,Hb.out⟩
    . have hr:F=oI q (ds.drop (k+1)):=by rw[nQ.out,if_neg zo]
      have Hr:=aj hr;clear hr;obtain⟨ae,ai⟩:=qZ (Hy.an trivial);go_wp2;go_roundw;case rel=>exact⟨k+1,q,by omega,by go_num,rfl,lS,by omega,Hr.out,Hb.out⟩
      case measure=>exact bf
  . obtain rfl:k=n:=by omega
    have hr:F=p:=by rw[nJ.out,List.drop_of_length_le (by rw[Hn.out];exact Nat.le_refl _)];rfl
    subst hr;go_wp2;refine bodyPost_ret (results_tmp rfl _ _ _) rfl ⟨rfl,Hb.out⟩
def rq (d:Int):Bool:=decide (d<0\/127<d)
def zI (x:Raw):Bool:=!(canon (dval x)==x)
def aiz (d:Int)(w:World):Cv 193 #[af d] w (ag (rq d)):=by
 have Hb:=hbz w;by_cases g1:d<0
 . have hr:rq d=true:=by unfold rq;simp[g1]
   rw[hr];clear hr;go_enter Tryz.func193,Tryz.ntmps193;go_wp2;refine bodyPost_ret (results_tmp rfl _ _ _) rfl ⟨rfl,Hb.out⟩
 by_cases g2:127<d
 . have hr:rq d=true:=by unfold rq;simp[g2]
   rw[hr];clear hr;go_enter Tryz.func193,Tryz.ntmps193;go_wp2;refine bodyPost_ret (results_tmp rfl _ _ _) rfl ⟨rfl,Hb.out⟩
 have hr:rq d=false:=by unfold rq;simp;omega
 rw[hr];clear hr;go_enter Tryz.func193,Tryz.ntmps193;go_wp2;refine bodyPost_ret (results_tmp rfl _ _ _) rfl ⟨rfl,Hb.out⟩
def aiA (s:Bool)(m:List UInt8)(e:Int)(w:World)(hx:Ok (s,m,e))(hT:aB w):Cl 196 #[.agg #[ag s,ah m,af e]] w λe' w'=>e'=.returned (ag (zI (s,m,e)))/\Bw w w':=by obtain⟨X,hX⟩:=az (dval (s,m,e));obtain⟨b,hb⟩:=az (zI (s,m,e));have hne:=Qy X s m e b (by rw[<-hb];unfold zI;rw[hX];simp);rw[hb];have Hf:=aj λW (hW:aB W)=>nU s m e X hX W hx hW;have HT:=aj hT;clear hX hb hx hT;have Hb:=hbz w;go_enter Tryz.func196,Tryz.ntmps196;go_wp2_with fail;refine bP w (Hb.an trivial) 45 [ag s,ah m,af e] λW aG ae ai=>?_;have HU:Hid (aB W):=HT.out.below ae.2.1.out;go_wp2_with fail;have ae:=HU.an ae;refine cQ 999 ae (cM 5 0x907020501) ?_;refine bC ?_;refine bO ae (Hf.out _ (qU ae.1.out)) λw2 ae=>?_;refine bC ?_;refine cP ae λai=>?_;go_wp2;refine bodyPost_ret (results_tmp rfl _ _ _) rfl ⟨rfl,ae.2.2.1.out⟩
def uN (ds:List Int)(xs:List Raw):Int:=if 12<ds.length\/ds.any rq=true then 1 else if oI 1 ds=0 then 3 else if(xs.length:Int)≠oI 1 ds\/xs.any zI=true then 1 else 0
def aiy (ds:List Int)(n:Nat)(a:Option Addr)(cap:Nat)(xs:List Raw)(m:Nat)(a':Option Addr)(cap':Nat)(w:World)(hn:ds.length=n)(hl:n<=1099511627776)(ha:At w a (ds.flatMap qG))(hd:∀d∈ds,-9223372036854775808<=d/\d<=9223372036854775807)(hm:xs.length=m)(hl':m<=1099511627776)(ha':At w a' (xs.flatMap aY))(hx:∀x∈xs,Ok x)(hT:aB w):
 Cv 114 #[.agg #[.slice a n cap,.slice a' m cap']] w (af (uN ds xs)):=by
 have zR:∀args w,(callFunc 193 args).run Tryz.prog w=.ok (.enter 193 args) w:=enters_of Tryz.func193 zk rfl;have xd:∀args w,(callFunc 196 args).run Tryz.prog w=.ok (.enter 196 args) w:=enters_of Tryz.func196 zk rfl;have hc1:=λW (hW:Bw w W)=>ajP a n cap ds 193 #[] rq W hn hl (ha.below hW) zR (λx _ W2 _=>by simpa using aiz x W2);have hc2:=λW (hW:Bw w W)=>ajL a' m cap' xs 196 #[] zI W hm hl' (ha'.below hW) xd (λx hx2 W2 hW2=>by simpa using aiA x.1 x.2.1 x.2.2 W2 (hx x hx2) (hT.below (aC hW hW2)));have hct:=λW (hW:Bw w W)=>aiB ds n a cap W hn hl (ha.below hW) hd;obtain⟨R,hR⟩:=az (uN ds xs);unfold uN at hR;rw[hn,hm]at hR;rw[show uN ds xs=R by unfold uN;rw[hn,hm];exact hR];generalize ds.any rq=t1 at*;generalize xs.any zI=t2 at*;generalize oI 1 ds=p at*;obtain⟨Hc1,yJ,uv,HR⟩:=bU hc1 hc2 hct hR;clear hc1 hc2 hct zR xd ha hd ha' hx hT hR hn hm;have Hb:=hbz w;by_cases g1:12<n
 . have hr:=HR.out;rw[if_pos (.inl g1)]at hr;subst hr;clear HR;have g2:(12:Int)<(n:Int):=by omega
   obtain⟨W,bX,ae,ai⟩:=fy w 31 [.slice a n cap,.slice a' m cap'];go_enter Tryz.func114,Tryz.ntmps114;go_wp2;refine bodyPost_ret (results_tmp rfl _ _ _) rfl ⟨rfl,ae.1.out⟩
 have g2:¬(12:Int)<(n:Int):=by omega
 go_enter Tryz.func114,Tryz.ntmps114;go_wp2_with fail;refine bP w (Hb.an trivial) 31 [.slice a n cap,.slice a' m cap'] λW aG ae ai=>?_;go_wp2_with fail;refine aJ ae (Hc1.out _ ae.2.1.out) λw1 ae ai=>?_;cases t1 with
 |true=>have hr:=HR.out;rw[if_pos (.inr rfl)]at hr;subst hr;clear HR;go_wp2;refine bodyPost_ret (results_tmp rfl _ _ _) rfl ⟨rfl,ae.2.1.out⟩
 | false=>
   go_wp2_with fail;refine aJ ae (uv.out _ ae.2.1.out) λw2 ae ai=>?_;by_cases g3:p=0
   . have hr:=HR.out;rw[if_neg zi,if_pos g3]at hr;subst hr g3;clear HR;go_wp2;refine bodyPost_ret (results_tmp rfl _ _ _) rfl ⟨rfl,ae.2.1.out⟩
   have g3b:(p==0)=false:=by simpa using g3
   go_wp2_with fail;refine cQ 999 ae (cM 8 0xf0d0a0907050301) ?_;refine bC ?_;refine bO ae (uv.out _ (qU ae.2.1.out)) λw3 ae=>?_;refine bC ?_;refine cP ae λai=>?_;by_cases g4:(m:Int)=p
   rotate_left
   . have hr:=HR.out;rw[if_neg zi,if_neg g3,if_pos (.inl g4)]at hr;subst hr;have g4b:((m:Int) !=p)=true:=by simpa using g4
     have g4c:((m:Int)==p)=false:=by simpa using g4
     clear HR;go_wp2;refine bodyPost_ret (results_tmp rfl _ _ _) rfl ⟨rfl,ae.2.1.out⟩
   subst g4;go_wp2_with fail;refine aJ ae (yJ.out _ ae.2.1.out) λw4 ae ai=>?_;cases t2 with
   |true=>have hr:=HR.out;rw[if_neg zi,if_neg g3,if_pos (.inr rfl)]at hr;subst hr;clear HR;go_wp2;refine bodyPost_ret (results_tmp rfl _ _ _) rfl ⟨rfl,ae.2.1.out⟩
   |false=>have hr:=HR.out;rw[if_neg zi,if_neg g3,if_neg zm]at hr;subst hr;clear HR;go_wp2;refine bodyPost_ret (results_tmp rfl _ _ _) rfl ⟨rfl,ae.2.1.out⟩
def aaL (s:Bool)(l:List UInt8)(k:Nat):(nt (iv s l^k).natAbs).length<=l.length*k+1:=by refine iY (Nat.lt_of_le_of_lt (m:=256^(l.length*k)) ?_ (Nat.pow_lt_pow_right zd (Nat.lt_succ_self _)));rw[Int.natAbs_pow,ov,Nat.pow_mul];exact Nat.pow_le_pow_left (Nat.le_of_lt (fY l)) k
def asU (s:Bool)(l:List UInt8)(n:Nat)(Z:Int)(hZ:iv s l^n=Z)(w:World)(hl:l.length*n<=1000000000)(hl':l.length<=1000000000)(hn:n<=1000000):
 Cv 207 #[.agg #[ag s,ah l],af (n:Int)] w (cw Z):=by
 have HZ:=aj hZ;clear hZ;have un:Hid (∀k,k<=n->(nt (iv s l^k).natAbs).length<=1000000001):=λk hk=>by have:=aaL s l k;have:=Nat.mul_le_mul_left l.length hk;omega
 clear hl;obtain⟨one,hone⟩:∃one:Int,1=one:=⟨_,rfl⟩;have uz:=aj hone;clear hone;obtain⟨W,bX,ae,ai⟩:=jR w 43 [ag s,ah l] 43 [ag false,.string ⟨#[]⟩];go_enter Tryz.func207,Tryz.ntmps207;go_wp2_with fail;refine aJ ae (Ke 1 one uz.out _ zo zo) λw1 ae ai=>?_;go_wp2_with fail;refine aJ ae (Bj (nt one.natAbs) (au one) _) λw2 ae ai=>?_;have ana:w.heap.size+1<w2.heap.size:=ae.2.2.1.out.lt;have hmx:max (n:Int) 0=n:=by omega
 have aG:=qL ae;go_wp2_with fail;refine bP w2 ae 224 [ah (nt one.natAbs),ag (au one)] λW2 aG ae ai=>?_
 go_loopw[10] (λi wr=>∃(k:Nat) (t:Bool),k<=n/\i=af k/\iv t (nt (iv s l^k).natAbs)=iv s l^k/\ar wr w.heap.size 43 [ag s,ah l]/\ar wr (w.heap.size+1) 43 [ag false,.string ⟨#[]⟩]/\
  ar wr w2.heap.size 224 [ah (nt (iv s l^k).natAbs),ag t]/\Bw w wr) (λi _=>n-(intOf i).toNat)
 case atStart=>
  have e:iv s l^0=one:=by rw[Int.pow_zero];exact uz.out
  refine⟨0,au one,Nat.zero_le _,rfl,?_,ae.2.2.1.out,ae.2.2.2.1.out,?_,ae.2.1.out⟩
  . rw[e];exact dX one
  . rw[e];exact ae.1.out
 case round=>
  obtain⟨k,t,hk,rfl,iI,qa,qr,qo,hb⟩:=hrel;obtain⟨Ha,Hr,Ho,Hb,gJ⟩:=eV qa qr qo hb iI;clear qa qr qo hb iI;by_cases hlt:k<n
  . have bE:Hid (iv s l^(k+1)=iv s l^k*iv s l):=Int.pow_succ ..;have gH:=aj (un.out k hk);generalize hS:iv s l^k=S at*;have HS:=aj hS;clear hS;obtain⟨ae,ai⟩:=qZ (Ha.an<|Hr.an<|Ho.an trivial);go_wp2_with fail;have ae:=Hb.an ae;refine cQ 4 ae (cM 5 0x806040301) ?_;refine bC ?_;refine bO ae (Bj l s _) λw3 ae=>?_;refine bO ae (acR (nt S.natAbs) l t s _ (by have:=gH.out;omega) zo) λw4 ae=>?_;have ai:=qC ae;refine qOp λK hK=>?_;go_simp;refine hK _ _ (λh=>absurd h zd) ?_;try simp only[UU]
    refine bY (aN w4 (w2.heap.size) 0 [ah (nt (nv (nt S.natAbs) *nv l)),ag (!(t==s))]) aU ?_;intro W5 hs0;have ae:=bG hs0 ae;simp only[bA,List.set]at ae;have ai:=qC ae;refine cP ae λai=>?_;have hq:=aaM t (nt S.natAbs) s l;rw[gJ.out,<-bE.out]at hq;have hq2:nv (nt S.natAbs) *nv l=(iv s l^(k+1)).natAbs:=by rw[bE.out,Int.natAbs_mul,ov,ib]
    have Ho:=ae.2.2.2.1;rw[hq2]at hq Ho;have Hq:=aj hq;clear hq hq2;skip
    go_wp2;go_roundw;case rel=>exact⟨k+1,_,by omega,by go_num,Hq.out,ae.2.1.out,ae.2.2.1.out,Ho.out,ae.1.out⟩
    case measure=>exact bf
  . obtain rfl:k=n:=by omega
    have gH:=un.out k hk;rw[HZ.out]at Ho gJ gH;obtain⟨ae,ai⟩:=qZ (Ha.an<|Hr.an<|Ho.an trivial);go_wp2_with fail;refine aJ (Hb.an ae) (tT (nt Z.natAbs) t _ zo) λw3 ae ai=>?_;rw[gJ.out];have Hb:=ae.1;have r0:w3.cell? ⟨w.heap.size+1,0,none⟩=some (ag false):=ae.2.2.1.out.cell 0;have r1:w3.cell? ⟨w.heap.size+1,1,none⟩=some (.string ⟨#[]⟩):=ae.2.2.1.out.cell 1;go_wp2;exact bodyPost_ret (v:=cw Z) (by simp[results,Tryz.results207,go_sem,r0,r1,ai]) rfl ⟨rfl,cm⟩
def aqw (D:Dyadic)(n:Nat):dval (au (dN D^n),nt (dN D^n).natAbs,dE D* (n:Int))=dF D n:=by
 rw[uS];induction n with
 |zero=>rw[Int.pow_zero,Int.natCast_zero,Int.mul_zero];show Dyadic.ofIntWithPrec 1 (-0)=1;decide+kernel
 |succ n ih=>rw[dF,<-ih];have h:=qI D;rw[show Dyadic.ofIntWithPrec (dN D^n) (-(dE D*n)) *D=Dyadic.ofIntWithPrec (dN D^n) (-(dE D*n)) *Dyadic.ofIntWithPrec (dN D) (-(dE D))by rw[<-h],uf,Int.pow_succ];congr 1;rw[Int.natCast_add,Int.mul_add];omega
def aj6 (s:Bool)(l:List UInt8)(e:Int)(n:Nat)(D D':Dyadic)(B:Nat)(hD:dval (s,l,e)=D)(hD':dF D n=D')(w:World)(hx:Fit B (s,l,e))(hB:B<=100000)(hn:n<=1000)(hT:aB w):
 Cv 122 #[.agg #[ag s,ah l,af e],af (n:Int)] w (bK D'):=by
 have hsm:=hx.2;rw[hD]at hsm;obtain⟨p1,p2,p3⟩:=hsm.parts;have hlen:(nt (dN D).natAbs).length<=B:=ju p1 zo;have Dp:dval (au (dN D^n),nt (dN D^n).natAbs,dE D* (n:Int))=D':=by rw[aqw,hD']
 have ak:B*n<=100000*1000:=Nat.mul_le_mul hB hn;obtain⟨Z,hZ⟩:=az (dN D^n);have Ix:(nt Z.natAbs).length<=1000000001:=by have:=aaL (au (dN D)) (nt (dN D).natAbs) n;rw[dX,hZ]at this;have:=Nat.mul_le_mul_right n hlen;omega
 have he: -1099511627776<=dE D* (n:Int)/\dE D* (n:Int)<=1099511627776:=by
  have h1:(dE D* (n:Int)).natAbs<=100000*1000:=by rw[Int.natAbs_mul];exact Nat.mul_le_mul zo zo
  omega
 rw[hZ]at Dp;obtain⟨E,hE⟩:=az (dE D* (n:Int));rw[hE]at Dp he;have hpw:=λW=>asU (au (dN D)) (nt (dN D).natAbs) n Z (by rw[dX];exact hZ) W (by have:=Nat.mul_le_mul_right n hlen;omega) zo zo;have wK:=aj hpw;have jF:Hid (∀W,aB W->Cv 124 #[.agg #[ag (au Z),ah (nt Z.natAbs)],af E] W (bK D')):=λW hW=>tV (au Z) (nt Z.natAbs) E D' Dp W zo he hW;obtain⟨HD,Hx⟩:=aI hD hx.1;have hwr:IntKind.i64.wrap (dE D*max (n:Int) 0)=E:=by rw[show max (n:Int) 0=n by omega,hE,IntKind.wrap_i64];omega
 have hmx:max (n:Int) 0=n:=by omega
 have avp:IntKind.i64.wrap (dE D* (n:Int))=E:=by rw[hE,IntKind.wrap_i64];omega
 clear hpw Dp Ix he hE hlen p1 p2 p3 hsm hx hD hD' ak hZ;obtain⟨W,bX,ae,ai⟩:=jR w 45 [ag s,ah l,af e] 45 [ag false,.string ⟨#[]⟩,af 0];go_enter Tryz.func122,Tryz.ntmps122;go_wp2_with fail;refine aJ ae (nU s l e D HD.out _ Hx.out (qU (hT.below ae.1.out))) λw1 ae ai=>?_;go_wp2_with fail;first|refine eu (aN w1 (w.heap.size) 0 (bo D)) aU ?_|refine dS (aN w1 (w.heap.size) 0 (bo D)) aU ?_
 intro W1 hs0;have ae:=bG hs0 ae;simp only[bA,List.set]at ae;have ai:=qC ae;refine cQ 10 ae (cM 11 0x141206110f0d0b09050301) ?_;refine bC ?_;refine bO ae (wK.out _) λw2 ae=>?_;refine bO ae (jF.out _ (qU (hT.below ae.1.out))) λw3 ae=>?_;have ai:=qC ae;refine qOp λK hK=>?_;go_simp;refine hK _ _ (λh=>absurd h zd) ?_;try simp only[UU]
 refine bY (aN w3 (w.heap.size+1) 0 [ag (au (dN D')),ah (nt (dN D').natAbs),af (dE D')]) aU ?_;intro W4 hs0;have ae:=bG hs0 ae;simp only[bA,List.set]at ae;have ai:=qC ae;refine cP ae λai=>?_;have Hb:=ae.1;have r0:W4.cell? ⟨w.heap.size+1,0,none⟩=some (ag (au (dN D'))):=ae.2.2.1.out.cell 0;have r1:W4.cell? ⟨w.heap.size+1,1,none⟩=some (ah (nt (dN D').natAbs)):=ae.2.2.1.out.cell 1;have r2:W4.cell? ⟨w.heap.size+1,2,none⟩=some (af (dE D')):=ae.2.2.1.out.cell 2;go_wp2;exact bodyPost_ret (v:=bK D') (by simp[results,Tryz.results122,go_sem,r0,r1,r2,ai]) rfl ⟨rfl,cm⟩
end Go.Proofs.YtpfgffadgkkedaaGreatDoor
