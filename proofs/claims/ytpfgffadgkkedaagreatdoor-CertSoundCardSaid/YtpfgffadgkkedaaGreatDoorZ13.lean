/- Package tri: Size,Check,up to three variables. -/
import Derived.Test.YtpfgffadgkkedaaGreatDoorZ7
import Derived.Test.YtpfgffadgkkedaaGreatDoorZ12
import Derived.Test.YtpfgffadgkkedaaGreatDoorZ11
import Derived.Test.YtpfgffadgkkedaaGreatDoorZ9
import Derived.Test.YtpfgffadgkkedaaGreatDoorZ5
set_option linter.all false
set_option maxRecDepth 100000
set_option maxHeartbeats 16000000
namespace Go.Proofs.YtpfgffadgkkedaaGreatDoor
open Go.RowKit
attribute [local go_sem ↓] Go.wp_at_zero Go.wp_at_succ
def dA (rows:List (List Raw)):Nat->Nat->Dyadic:=λa b=>cu (rows.map λr=>r.map dval) a b
def anU (o p:List Raw)(k:Nat)(h:k<p.length)(h':k<o.length):(jY o p).getD k 0=dval p[k]-dval o[k]:=by unfold jY;rw[List.getD_eq_getElem?_getD,List.getElem?_zipWith];simp[h,h']
def yX (rows:List (List Raw))(a b:Nat)(ha:a<rows.length)(hb:b<rows[a].length):dA rows a b=dval rows[a][b]:=by simp[dA,cu,List.getD_eq_getElem?_getD,ha,hb]
def af0 (n:Nat)(rows:List (List Raw))(hL:rows.length=n+1)(hrow:∀r∈rows,r.length=n)(i j:Nat)(hi:i<n)(hj:j<n):
 cu ((rows.drop 1).map λp=>jY (rows.getD 0 []) p) i j=dA rows (i+1) j-dA rows 0 j:=by
 have h0:0<rows.length:=by omega
 have h1:i+1<rows.length:=by omega
 have l0:=hrow _ (List.getElem_mem h0);have l1:=hrow _ (List.getElem_mem h1);rw[yX rows (i+1) j h1 zo,yX rows 0 j h0 zo];have e0:rows.getD 0 []=rows[0]:=by simp[h0]
 have e1:((rows.drop 1).map λp=>jY (rows.getD 0 []) p).getD i []=jY rows[0] rows[i+1]:=by rw[e0,List.getD_eq_getElem?_getD,List.getElem?_map,List.getElem?_drop];rw[show 1+i=i+1 by omega,List.getElem?_eq_getElem h1];rfl
 unfold cu;rw[e1,anU _ _ _ zo zo]
def FY (n:Nat)(aZ:n<=4){e f:Nat->Nat->Dyadic}(h:∀i j,i<n->j<n->e i j=f i j):dK n e=dK n f:=by
 have hc:n=0\/n=1\/n=2\/n=3\/n=4:=by omega
 rcases hc with rfl|rfl|rfl|rfl|rfl
 . rfl
 . exact h 0 0 zo zo
 . unfold dK;simp only;rw[h 0 0 zo zo,h 0 1 zo zo,h 1 0 zo zo,h 1 1 zo zo]
 . unfold dK;simp only;rw[h 0 0 zo zo,h 0 1 zo zo,h 0 2 zo zo,h 1 0 zo zo,h 1 1 zo zo,h 1 2 zo zo,h 2 0 zo zo,h 2 1 zo zo,h 2 2 zo zo]
 . unfold dK;simp only;rw[h 0 0 zo zo,h 0 1 zo zo,h 0 2 zo zo,h 0 3 zo zo,h 1 0 zo zo,h 1 1 zo zo,h 1 2 zo zo,h 1 3 zo zo,h 2 0 zo zo,h 2 1 zo zo,h 2 2 zo zo,h 2 3 zo zo,h 3 0 zo zo,h 3 1 zo zo,h 3 2 zo zo,h 3 3 zo zo]
def ZH {B n:Nat}{e:Nat->Nat->Dyadic}(hn:1<=n)(aZ:n<=4)(h:∀i j,i<n->j<n->Sm B (e i j)):Sm (4*B+6) (dK n e):=by
 have m2:∀a b c d:Dyadic,Sm B a->Sm B b->Sm B c->Sm B d->Sm (2*B+1) (a*b-c*d):=λa b c d ha hb hc hd=>(Sm.sub (Sm.mul ha hb) (Sm.mul hc hd)).mono zo;have m3:∀x y:Dyadic,Sm B x->Sm (2*B+1) y->Sm (3*B+1) (x*y):=λx y hx hy=>(Sm.mul hx hy).mono zo;have m4:∀x y z:Dyadic,Sm (3*B+1) x->Sm (3*B+1) y->Sm (3*B+1) z->Sm (3*B+3) (x-y+z):=λx y z hx hy hz=>(Sm.add (Sm.sub hx hy) (hz.mono zo)).mono zo;have m5:∀x y:Dyadic,Sm B x->Sm (3*B+3) y->Sm (4*B+3) (x*y):=λx y hx hy=>(Sm.mul hx hy).mono zo;have hc:n=1\/n=2\/n=3\/n=4:=by omega
 rcases hc with rfl|rfl|rfl|rfl
 . exact(h 0 0 zo zo).mono zo
 . exact(Sm.sub (Sm.mul (h 0 0 zo zo) (h 1 1 zo zo)) (Sm.mul (h 0 1 zo zo) (h 1 0 zo zo))).mono zo
 . unfold dK;refine(m4 _ _ _ (m3 _ _ ?_ (m2 _ _ _ _ ?_ ?_ ?_ ?_)) (m3 _ _ ?_ (m2 _ _ _ _ ?_ ?_ ?_ ?_)) (m3 _ _ ?_ (m2 _ _ _ _ ?_ ?_ ?_ ?_))).mono zo<;>exact h _ _ zo zo
 . unfold dK;have m6:∀x y z u:Dyadic,Sm (4*B+3) x->Sm (4*B+3) y->Sm (4*B+3) z->Sm (4*B+3) u->Sm (4*B+6) (x-y+z-u):=λx y z u hx hy hz hu=>(Sm.sub (Sm.add (Sm.sub hx hy) (hz.mono zo)) (hu.mono zo)).mono zo;refine m6 _ _ _ _ (m5 _ _ ?_ (m4 _ _ _ (m3 _ _ ?_ (m2 _ _ _ _ ?_ ?_ ?_ ?_)) (m3 _ _ ?_ (m2 _ _ _ _ ?_ ?_ ?_ ?_)) (m3 _ _ ?_ (m2 _ _ _ _ ?_ ?_ ?_ ?_)))) (m5 _ _ ?_ (m4 _ _ _ (m3 _ _ ?_ (m2 _ _ _ _ ?_ ?_ ?_ ?_)) (m3 _ _ ?_ (m2 _ _ _ _ ?_ ?_ ?_ ?_)) (m3 _ _ ?_ (m2 _ _ _ _ ?_ ?_ ?_ ?_)))) (m5 _ _ ?_ (m4 _ _ _ (m3 _ _ ?_ (m2 _ _ _ _ ?_ ?_ ?_ ?_)) (m3 _ _ ?_ (m2 _ _ _ _ ?_ ?_ ?_ ?_)) (m3 _ _ ?_ (m2 _ _ _ _ ?_ ?_ ?_ ?_)))) (m5 _ _ ?_ (m4 _ _ _ (m3 _ _ ?_ (m2 _ _ _ _ ?_ ?_ ?_ ?_)) (m3 _ _ ?_ (m2 _ _ _ _ ?_ ?_ ?_ ?_)) (m3 _ _ ?_ (m2 _ _ _ _ ?_ ?_ ?_ ?_))))<;>exact h _ _ zo zo
def ZR (X:Dyadic):bi X=0↔X=0:=by
 constructor
 . intro h;have h1:dN X=0:=by
    unfold bi eo at h;by_cases h1:dN X<0
    . rw[if_pos h1]at h;cases h
    . rw[if_neg h1]at h;by_cases h2:dN X=0
      . exact h2
      . rw[if_neg h2]at h;cases h
   have h2:=vg X;rw[h1,xf]at h2;exact h2
 . rintro rfl;rfl
noncomputable def jA (rows:List (List Raw)):Int:=if kE rows=0 then 1 else if bM (kE rows).toNat (dA rows)=0 then 5 else 0
def av0 (a:Option Addr)(cap n:Nat)(rows:List (List Raw))(B:Nat)(X:Dyadic)(w:World)(hn:1<=n)(aZ:n<=4)(hL:rows.length=n+1)(hrow:∀r∈rows,r.length=n)(hcap:n+1<=cap)(ha:Tbl w a rows)
 (hfit:∀r∈rows,∀c∈r,Fit B c) (hB:B<=900000) (hT:aB w) (hX:bM n (dA rows)=X):
 Cv 49 #[.slice a (n+1) cap] w (.tuple #[bN X,af 0]):=by
 obtain⟨b,o,rfl⟩:∃b o,a=some ⟨b,o,none⟩:=by
  obtain⟨vals,hvl,hat,_⟩:=ha;rcases hat with h|⟨b,o,h,_⟩
  . rw[h]at hvl;simp at hvl;omega
  . exact⟨b,o,h⟩
 have hv:=NI hL hrow hn zo;obtain⟨S,hS⟩:=az ((rows.drop 1).map λp=>jY (rows.getD 0 []) p);have qj:S.length=n:=by rw[<-hS];simp[hL]
 have uO:∀r∈S,r.length=n:=by
  intro r hr;rw[<-hS]at hr;obtain⟨p,hp,rfl⟩:=List.mem_map.1 hr;have h0:0<rows.length:=by omega
  have e0:rows.getD 0 []=rows[0]:=by simp[h0]
  rw[Li (by rw[e0,hrow _ (List.mem_of_mem_drop hp),hrow _ (List.getElem_mem h0)]),hrow _ (List.mem_of_mem_drop hp)]
 have uP:∀r∈S,∀d∈r,Sm (B+1) d:=by
  intro r hr d hd;rw[<-hS]at hr;obtain⟨p,hp,rfl⟩:=List.mem_map.1 hr;unfold jY at hd;obtain⟨i,hi,rfl⟩:=List.mem_iff_getElem.1 hd;rw[List.getElem_zipWith];have h0:0<rows.length:=by omega
  have e0:rows.getD 0 []=rows[0]:=by simp[h0]
  refine Sm.sub (hfit p (List.mem_of_mem_drop hp) _ (List.getElem_mem _)).2 (hfit (rows.getD 0 []) ?_ _ (List.getElem_mem _)).2;rw[e0];exact List.getElem_mem h0
 have hent:dK n (cu S)=X:=by rw[<-hX,CX];refine FY n aZ (λi j hi hj=>?_);rw[<-hS];exact af0 n rows hL hrow i j hi hj
 have hvar:=λW=>λ(h:Tbl W (some ⟨b,o,none⟩) rows)=>VH (some ⟨b,o,none⟩) (n+1) cap rows W hL zo h;rw[hv]at hvar;have hrows:=λW=>λ(h:Tbl W (some ⟨b,o,none⟩) rows) (hT:aB W)=>afK b o cap n n rows B W hL zo hcap hn hn zo hrow h hfit zo hT;rw[hS]at hrows;have ot:((S.map λr=>r.map canon).map λr=>r.map dval)=S:=by
  rw[List.map_map];have:((λr:List Raw=>r.map dval)∘λr:List Dyadic=>r.map canon)=id:=by
   funext r
   show(r.map canon).map dval=r
   rw[List.map_map];have:(dval∘canon)=id:=funext bA;rw[this];simp
  rw[this];simp
 have pk:=λW a' c'=>λ(h:Tbl W a' (S.map λr=>r.map canon)) (hT:aB W)=>QR a' c' n (S.map λr=>r.map canon) (B+1) S X W hn aZ (by simpa using qj) (by
  intro r hr;obtain⟨x,hx,rfl⟩:=List.mem_map.1 hr
  simpa using uO x hx) h (by
  intro r hr c hc;obtain⟨x,hx,rfl⟩:=List.mem_map.1 hr;obtain⟨y,hy,rfl⟩:=List.mem_map.1 hc
  exact(uP x hx y hy).fit zo) zo zo hT ot hent
 obtain⟨PQ,akq,ES,Ha,HT⟩:=dY hvar hrows pk ha hT;clear hvar hrows pk ha hT ot hent uP uO qj hS hv hX hfit hrow hL;have hn0:¬(n:Int)=0:=by omega
 have Hb:=hbz w;go_enter Tryz.func49,Tryz.ntmps49;go_wp2_with fail;refine cX w (Hb.an trivial) 45 [ag false,.string ⟨#[]⟩,af 0] λW aG ae ai=>?_;have HA:Hid (Tbl W (some ⟨b,o,none⟩) rows):=Ha.out.below ae.2.1.out;have HU:Hid (aB W):=HT.out.below ae.2.1.out;go_wp2_with fail;refine aK (HA.an<|HU.an ae) (PQ.out _ HA.out) λw1 ae ai=>?_;go_wp2_with fail;refine(akq.out _ ae.1.out ae.2.1.out).mono ?_;rintro e w2 ⟨a',c',rfl,hcc,pz,ak⟩;obtain⟨ae,ai⟩:=qX ak ae;have xt:=aj pz;clear pz;go_wp2_with fail;refine aK ae (ES.out _ a' c' xt.out ae.2.1.out) λw3 ae ai=>?_;go_wp2;refine dG (aO w3 (w.heap.size) 0 (bu X)) aR ?_;intro w9 hs0;have ae:=bD hs0 ae;simp only[bz,List.set]at ae;have ai:=qC ae;refine bodyPost_ret (v:=.tuple #[bN X,af 0]) (by simp[results,Tryz.results49,go_sem,ai]) rfl ⟨rfl,ae.2.2.2.1.out⟩
def agk (a:Option Addr)(L cap:Nat)(rows:List (List Raw))(B:Nat)(w:World)(hL:rows.length=L)(hL5:L<=5)(hcap:L<=cap)(ha:Tbl w a rows)
 (hfit:∀r∈rows,∀c∈r,Fit B c) (hB:B<=900000) (hT:aB w):
 Cv 111 #[.slice a L cap] w (af (jA rows)):=by
 obtain⟨R,hR⟩:=az (jA rows);rw[hR];unfold jA at hR;by_cases hv:kE rows=0
 . rw[if_pos hv]at hR;subst hR;have hvar:=λW=>λ(h:Tbl W a rows)=>VH a L cap rows W hL zo h;rw[hv]at hvar;obtain⟨PQ,Ha⟩:=aI hvar ha;have hsz:∀W,Bw w W->Cv 49 #[.slice a L cap] W (.tuple #[.agg #[ag false,.string ⟨#[]⟩,af 0],af 1]):=by intro w0 hw0;have uu:=aj (Ha.out.below hw0);clear ha hfit hL hT hv hvar Ha hw0 w;obtain⟨w,TQ⟩:∃w,w=w0:=⟨_,rfl⟩;subst TQ;have Hb:=hbz w;go_enter Tryz.func49,Tryz.ntmps49;go_wp2_with fail;refine cX w (Hb.an trivial) 45 [ag false,.string ⟨#[]⟩,af 0] λW aG ae ai=>?_;go_wp2_with fail;refine aK ae (PQ.out _ (uu.out.below ae.2.1.out)) λw1 ae ai=>?_;go_wp2;refine dG (aO w1 (w.heap.size) 0 [ag false,.string ⟨#[]⟩,af 0]) aR ?_;intro w9 hs0;have ae:=bD hs0 ae;simp only[bz,List.set]at ae;have ai:=qC ae;refine bodyPost_ret (v:=.tuple #[.agg #[ag false,.string ⟨#[]⟩,af 0],af 1]) (by simp[results,Tryz.results49,go_sem,ai]) rfl ⟨rfl,ae.2.1.out⟩
   have sJ:=aj hsz;clear hsz hvar ha hfit hL hT hv;have Hb:=hbz w;go_enter Tryz.func111,Tryz.ntmps111;go_wp2_with fail;refine aK (Hb.an trivial) (sJ.out _ Hb.out) λw1 ae ai=>?_;have hsz:=ae.1.out.size;obtain⟨W2,ng,aG,ae,ai⟩:=bO w1 ae 45 [ag false,.string ⟨#[]⟩,af 0];go_wp2;refine bodyPost_ret (results_tmp rfl _ _ _) rfl ⟨rfl,?_⟩;exact((ae.2.1.out.setCell zp _).setCell zp _).setCell zp _
 . obtain⟨n,hn⟩:∃n:Nat,kE rows=n:=⟨(kE rows).toNat,by have:=Jo rfl hv;omega⟩;rw[if_neg hv,hn,Int.toNat_natCast]at hR;obtain⟨c1,c2,c3,c4⟩:=Jo hn zo;obtain rfl:L=n+1:=by omega
   obtain⟨X,hX⟩:=az (bM n (dA rows));rw[hX]at hR;have hsz:=λW=>λ(h:Tbl W a rows) (hT:aB W)=>av0 a cap n rows B X W zo zo zo (λr hr=>by have:=c4 r hr;omega) hcap h hfit hB hT hX;have hXm:Sm (4* (B+1)+6) X:=by
    rw[<-hX,CX];refine ZH zo zo (λi j hi hj=>?_);have h0:0<rows.length:=by omega
    have h1:i+1<rows.length:=by omega
    have l0:=c4 _ (List.getElem_mem h0);have l1:=c4 _ (List.getElem_mem h1);rw[yX rows (i+1) j h1 zo,yX rows 0 j h0 zo];exact Sm.sub (hfit _ (List.getElem_mem h1) _ (List.getElem_mem _)).2 (hfit _ (List.getElem_mem h0) _ (List.getElem_mem _)).2
   have dR:∀W,Cv 27 #[.agg #[ag (au (dN X)),ah (nt (dN X).natAbs),af (dE X)]] W (af (bi X)):=λW=>oc _ _ _ (bi X) (by show bi (dval (canon X))=_;rw[bA]) W (hXm.ok zo);obtain⟨g,hg⟩:=az (bi X);have hgz:R=if g=0 then 5 else 0:=by
    rw[<-hR,<-hg];by_cases h:X=0
    . rw[if_pos h,if_pos ((ZR X).2 h)]
    . rw[if_neg h,if_neg (λh2=>h ((ZR X).1 h2))]
   rw[hg]at dR;obtain⟨sJ,jE,Ha,HT,Xy⟩:=dY hsz dR ha hT hgz;clear hsz dR ha hT hgz hg hX hR hfit c4 hL;have Hb:=hbz w;go_enter Tryz.func111,Tryz.ntmps111;go_wp2_with fail;refine aK (Hb.an trivial) (sJ.out _ (Ha.out.below Hb.out) (HT.out.below Hb.out)) λw1 ae ai=>?_;obtain⟨W2,ng,aG,ae,ai⟩:=bO w1 ae 45 (bu X);go_wp2_with fail;refine aK ae (jE.out _) λw3 ae ai=>?_;by_cases hg0:g=0
   . have hr:=Xy.out;rw[if_pos hg0]at hr;subst hr hg0;go_wp2;refine bodyPost_ret (results_tmp rfl _ _ _) rfl ⟨rfl,ae.2.1.out⟩
   . have hr:=Xy.out;rw[if_neg hg0]at hr;subst hr;go_wp2;refine bodyPost_ret (results_tmp rfl _ _ _) rfl ⟨rfl,ae.2.1.out⟩
def xh (a b:List UInt8):Int:=if Op.bytesLess a b then-1 else if Op.bytesLess b a then 1 else 0
def avY (l:List UInt8)(s:Bool)(m:List UInt8)(e:Int)(l':List UInt8)(s':Bool)(m':List UInt8)(e':Int)(w:World):
 Cv 231 #[.agg #[ah l,ag s,ah m,af e],.agg #[ah l',ag s',ah m',af e']] w (af (xh l l')):=by
 obtain⟨R,hR⟩:=az (xh l l');unfold xh at hR;rw[show xh l l'=R from hR];obtain⟨W,bX,ae,ai⟩:=jz w 111 [ah l,ag s,ah m,af e] 111 [ah l',ag s',ah m',af e'];cases h1:Op.bytesLess l l' with
 | true=>
   rw[h1]at hR;simp only[if_true]at hR;subst hR;have h2:Op.bytesLess (bs l).toList (bs l').toList=true:=by rw[fY,fY];exact h1
   clear h1;go_enter Tryz.func231,Tryz.ntmps231;go_wp2;go_ret;exact⟨rfl,ae.1.out⟩
 | false=>
   rw[h1]at hR;simp only[Bool.false_eq_true,if_false]at hR;have h2:Op.bytesLess (bs l).toList (bs l').toList=false:=by rw[fY,fY];exact h1
   cases h3:Op.bytesLess l' l with
   | true=>
     rw[h3]at hR;simp only[if_true]at hR;subst hR;have hne:¬l=l':=by rintro rfl;rw[CN]at h3;cases h3
     have h4:((bs l).toList==(bs l').toList)=false:=by rw[fY,fY];simpa using hne
     have h5:¬(bs l).toList=(bs l').toList:=by rw[fY,fY];exact hne
     clear h1 h3 hne;go_enter Tryz.func231,Tryz.ntmps231;go_wp2;go_ret;exact⟨rfl,ae.1.out⟩
   |false=>rw[h3]at hR;simp only[Bool.false_eq_true,if_false]at hR;subst hR;obtain rfl:=CO h1 h3;clear h1 h3;go_enter Tryz.func231,Tryz.ntmps231;go_wp2;go_ret;exact⟨rfl,ae.1.out⟩
def awq (l:List UInt8)(s:Bool)(m:List UInt8)(e:Int)(l':List UInt8)(s':Bool)(m':List UInt8)(e':Int)(S:Dyadic)(B:Nat)(hS:dval (s,m,e)+dval (s',m',e')=S)(w:World)(hx:Fit B (s,m,e))(hy:Fit B (s',m',e'))(hB:B+2<=268435456)(hT:aB w):
 Cv 232 #[.agg #[ah l,ag s,ah m,af e],.agg #[ah l',ag s',ah m',af e']] w (.agg #[ah l,ag (au (dN S)),ah (nt (dN S).natAbs),af (dE S)]):=by
 obtain⟨iU,pO,HS,HT⟩:=cE hx hy hS hT;clear hx hy hS hT;obtain⟨W,bX,ae,ai⟩:=yY w 111 [ah l,ag s,ah m,af e] 111 [ah l',ag s',ah m',af e'] 111 [.string ⟨#[]⟩,ag false,.string ⟨#[]⟩,af 0];go_enter Tryz.func232,Tryz.ntmps232;go_wp2_with fail;refine df 9 ae (cQ 10 0x12110e0c0b0907050301) ?_;refine bC ?_;refine nM 45 [ag s,ah m,af e,ag s',ah m',af e'] ae λW3 aG ae=>?_;refine bP ae (xQ s m e s' m' e' S B HS.out W.heap.size _ 45 _ iU.out pO.out hB ae.1.out ((HT.out.below ae.2.1.out))) λw4 ae=>?_;refine bC ?_;have ai:=qC ae;refine qOp λK hK=>?_;go_simp;refine hK _ _ (λh=>absurd h zd) ?_
 refine cg (aO w4 (w.heap.size+1+1) 0 [ah l,ag (au (dN S)),ah (nt (dN S).natAbs),af (dE S)]) aR ?_;intro w5 hs0;have ae:=bD hs0 ae;simp only[bz,List.set]at ae;have ai:=qC ae;refine cZ ae λai=>?_;have Hb:=ae.2.1;have r0:w5.cell? ⟨w.heap.size+1+1,0,none⟩=some (ah l):=ae.2.2.2.2.1.out.cell 0;have r1:w5.cell? ⟨w.heap.size+1+1,1,none⟩=some (ag (au (dN S))):=ae.2.2.2.2.1.out.cell 1;have r2:w5.cell? ⟨w.heap.size+1+1,2,none⟩=some (ah (nt (dN S).natAbs)):=ae.2.2.2.2.1.out.cell 2;have r3:w5.cell? ⟨w.heap.size+1+1,3,none⟩=some (af (dE S)):=ae.2.2.2.2.1.out.cell 3;go_wp2;exact bodyPost_ret (v:=.agg #[ah l,ag (au (dN S)),ah (nt (dN S).natAbs),af (dE S)]) (by simp[results,Tryz.results232,go_sem,r0,r1,r2,r3,ai]) rfl ⟨rfl,cM⟩
def amX (l:List UInt8)(s:Bool)(m:List UInt8)(e:Int)(w:World)(hx:Ok (s,m,e)):
 Cv 254 #[.agg #[ah l,ag s,ah m,af e]] w (ag (!gw (l,s,m,e))):=by
 obtain⟨g,hg⟩:=az (bi (dval (s,m,e)));have hs:=λW=>oc s m e g hg W hx;have hz:(!gw (l,s,m,e))=decide (g=0):=by unfold gw;rw[hg];by_cases h:g=0<;>simp[h]
 rw[hz];have Hs:=aj hs;clear hs hz hg hx;obtain⟨W,bX,ae,ai⟩:=fK w 111 [ah l,ag s,ah m,af e];go_enter Tryz.func254,Tryz.ntmps254;go_wp2_with fail;refine aK ae (Hs.out _) λw1 ae ai=>?_;go_wp2;refine bodyPost_ret (results_tmp rfl _ _ _) rfl ⟨?_,ae.1.out⟩;by_cases h:g=0<;>simp[h]
def asT (l:List UInt8)(s:Bool)(m:List UInt8)(e:Int)(V:Int)(bv:Nat)(w:World)(hv:w.cell? ⟨bv,0,none⟩=some (af V))(hl:l.length<=9223372036854775807):
 Cv 204 #[.agg #[ah l,ag s,ah m,af e],.pointer (some ⟨bv,0,none⟩)] w (ag (!cJ l V)):=by
 have hm:=λW=>Ei l V W hl;obtain⟨t,ht⟩:=az (cJ l V);rw[ht]at hm⊢;obtain⟨Hm,Hv⟩:=aI hm hv;clear hm ht hv;obtain⟨W,bX,ae,ai⟩:=fK w 111 [ah l,ag s,ah m,af e];have hv2:=cell_later ae.1.out Hv.out;go_enter Tryz.func204,Tryz.ntmps204;go_wp2_with fail;refine aK ae (Hm.out _) λw1 ae ai=>?_;clear hv2;go_wp2;refine bodyPost_ret (results_tmp rfl _ _ _) rfl ⟨rfl,ae.1.out⟩
def nD {α:Type}(p:α->Bool):List α->Nat->Int
 |[],_=>-1
 |v::l,k=>if p v then(k:Int)else nD p l (k+1)
def aeg {α:Type}(p:α->Bool)(l:List α)(k n:Nat)(h:n<l.length):nD p (l.drop n) k=if p l[n]then(k:Int)else nD p (l.drop (n+1)) (k+1):=by rw[List.drop_eq_getElem_cons h];rfl
def aef {α:Type}(p:α->Bool)(l:List α)(k:Nat):decide (0<=nD p l k)=l.any p:=by
 induction l generalizing k with
 |nil=>rfl
 | cons v l ih=>
   unfold nD;rw[List.any_cons];by_cases h:p v=true
   . rw[if_pos h,h,Bool.true_or];simp
   . rw[if_neg h,ih];simp[h]
def aeh {α:Type}(p:α->Bool)(l:List α)(k:Nat):(nD p l k= -1/\∀x∈l,p x=false)\/∃i,∃h:i<l.length,nD p l k=((k+i:Nat):Int)/\p l[i]=true/\∀j (hj:j<i),p (l[j]'zo)=false:=by
 induction l generalizing k with
 |nil=>exact .inl ⟨rfl,λx hx=>by cases hx⟩
 | cons v l ih=>
   unfold nD;by_cases h:p v=true
   . rw[if_pos h];exact .inr ⟨0,by simp,rfl,h,λj hj=>by omega⟩
   . rw[if_neg h];rcases ih (k+1)with⟨h1,h2⟩ |⟨i,h1,h2,h3,h4⟩
     . exact .inl ⟨h1,λx hx=>by rcases List.mem_cons.1 hx with rfl|hx;simpa using h;exact h2 x hx⟩
     . refine .inr ⟨i+1,by simpa using h1,by rw[h2];congr 1;omega,by simpa using h3,λj hj=>?_⟩;cases j with
       |zero=>simpa using h
       |succ j=>simpa using h4 j zo
structure Pv where
 V:Int
 a:Option Addr
 n:Nat
 c:Nat
def ic (p:Pv):List Value:=[af p.V,.slice p.a p.n p.c]
def At.aBd {w:World}{a:Option Addr}{ps:List Pv}(h:At w a (ps.flatMap ic))(k:Nat)(hk:k<ps.length){V:Int}{a':Option Addr}{n c:Nat}(hx:ps[k]=⟨V,a',n,c⟩):
 ∃b o,a=some ⟨b,o,none⟩/\aQ w b (o+k*2) [af V,.slice a' n c]:=by
 obtain⟨b,o,hab,hcs⟩:=h.elem (f:=ic) (sz:=2) (λ_=>rfl) zd k hk;refine⟨b,o,hab,λj hj=>?_⟩;have:=hcs j hj;rw[hx]at this;rw[this];unfold ic;rw[List.getElem?_eq_getElem (by simpa using hj)]
def Ub (a:Option Addr)(n cap:Nat)(vals:List Trm)(gf:Nat)(lb:Array Value)(p:Trm->Bool)(w:World)(hn:vals.length=n)(hl:n<=1099511627776)(ha:At w a (vals.flatMap aH))
 (eg:∀args w,(callFunc gf args).run Tryz.prog w=.ok (.enter gf args) w)
 (hcl:∀x∈vals,∀W,Bw w W->Cl gf (#[.agg #[ah x.1,ag x.2.1,ah x.2.2.1,af x.2.2.2]]++lb) W λe w'=>e=.returned (ag (p x))/\Bw W w'):
 Cv 251 #[.slice a n cap,.func (.func gf) #[] lb] w (af (nD p vals 0)):=by
 obtain⟨Hn,Ha,fV,lN⟩:=cE hn ha hcl eg;clear hn ha hcl eg;have Hb:=hbz w;go_enter Tryz.func251,Tryz.ntmps251;go_wp2_with fail;go_loopw[5,8] (λ_ i wr=>∃k:Nat,k<=n/\i=af (k:Int)/\nD p vals 0=nD p (vals.drop k) k/\Bw w wr) (λ_ i _=>n-(intOf i).toNat);case atStart=>exact⟨0,Nat.zero_le _,rfl,rfl,Hb.out⟩
 case round=>
  clear Hb;obtain⟨k,hk,rfl,gY,pb⟩:=hrel;obtain⟨oL,Hb⟩:=aI gY pb;clear gY pb;by_cases hlt:k<n
  . have bB:k<vals.length:=by rw[Hn.out];exact hlt
    obtain⟨l,s,m,e,hx⟩:∃l s m e,vals[k]=(l,s,m,e):=⟨_,_,_,_,rfl⟩;obtain⟨b,o,hab,bW⟩:=(Ha.out.below Hb.out).term k bB hx;obtain⟨q0,q1,q2,q3⟩:=bW.w4;have aU:=gK n cap k (k:Int) hab hlt rfl;have hcall:=fV.out _ (List.getElem_mem bB) wr Hb.out;have hstep:=aeg p vals k k bB;rw[<-oL.out]at hstep;rw[hx]at hcall hstep;obtain⟨iA,kJ⟩:=aI hstep hcall;have pN:=lN.out;clear bW hab hx hstep hcall;go_wp2_with fail;refine kJ.out.mono ?_;rintro e9 w1 ⟨rfl,hb1⟩;replace Hb:=aj (aC Hb.out hb1);clear hb1 q0 q1 q2 q3 aU pN;obtain⟨t,ht⟩:=az (p (l,s,m,e));rw[ht]at iA⊢;clear ht;cases t with
    |true=>go_wp2;refine bodyPost_ret (results_tmp rfl _ _ _) rfl ⟨?_,Hb.out⟩;have h:=iA.out;rw[if_pos (by trivial)]at h;rw[h];rfl
    | false=>
      go_wp2;go_roundw;case rel=>exact⟨k+1,by omega,by go_num,by have h:=iA.out;rw[if_neg zd]at h;exact h,Hb.out⟩
      case measure=>exact bf
  . obtain rfl:k=n:=by omega
    go_wp2;refine bodyPost_ret (results_tmp rfl _ _ _) rfl ⟨?_,Hb.out⟩;have h:=oL.out;rw[List.drop_of_length_le (by rw[Hn.out];exact Nat.le_refl _)]at h;rw[h];rfl
def anf (a:Option Addr)(n cap:Nat)(vals:List Trm)(gf:Nat)(lb:Array Value)(p:Trm->Bool)(w:World)(hn:vals.length=n)(hl:n<=1099511627776)(ha:At w a (vals.flatMap aH))
 (eg:∀args w,(callFunc gf args).run Tryz.prog w=.ok (.enter gf args) w)
 (hcl:∀x∈vals,∀W,Bw w W->Cl gf (#[.agg #[ah x.1,ag x.2.1,ah x.2.2.1,af x.2.2.2]]++lb) W λe w'=>e=.returned (ag (p x))/\Bw W w'):
 Cv 203 #[.slice a n cap,.func (.func gf) #[] lb] w (ag (vals.any p)):=by
 have h1:=Ub a n cap vals gf lb p w hn hl ha eg hcl;rw[<-aef p vals 0];generalize nD p vals 0=i at*;have H1:=aj h1;clear h1 hcl eg ha hn;have Hb:=hbz w;go_enter Tryz.func203,Tryz.ntmps203;go_wp2_with fail;refine aK (Hb.an trivial) (H1.out) λw1 ae ai=>?_;have Hb:=ae.1;go_wp2;exact bodyPost_ret (v:=ag (decide (0<=i))) (by simp[results,Tryz.results203,go_sem,ai]) rfl ⟨rfl,cM⟩
def ary (a:Option Addr)(n cap:Nat)(vals:List Pv)(gf:Nat)(lb:Array Value)(p:Pv->Bool)(w:World)(hn:vals.length=n)(hl:n<=1099511627776)(ha:At w a (vals.flatMap ic))
 (eg:∀args w,(callFunc gf args).run Tryz.prog w=.ok (.enter gf args) w)
 (hcl:∀x∈vals,∀W,Bw w W->Cl gf (#[.agg #[af x.V,.slice x.a x.n x.c]]++lb) W λe w'=>e=.returned (ag (p x))/\Bw W w'):
 Cv 224 #[.slice a n cap,.func (.func gf) #[] lb] w (af (nD p vals 0)):=by
 obtain⟨Hn,Ha,fV,lN⟩:=cE hn ha hcl eg;clear hn ha hcl eg;have Hb:=hbz w;go_enter Tryz.func224,Tryz.ntmps224;go_wp2_with fail;go_loopw[5,8] (λ_ i wr=>∃k:Nat,k<=n/\i=af (k:Int)/\nD p vals 0=nD p (vals.drop k) k/\Bw w wr) (λ_ i _=>n-(intOf i).toNat);case atStart=>exact⟨0,Nat.zero_le _,rfl,rfl,Hb.out⟩
 case round=>
  clear Hb;obtain⟨k,hk,rfl,gY,pb⟩:=hrel;obtain⟨oL,Hb⟩:=aI gY pb;clear gY pb;by_cases hlt:k<n
  . have bB:k<vals.length:=by rw[Hn.out];exact hlt
    obtain⟨V,a1,n1,c1,hx⟩:∃V a1 n1 c1,vals[k]=⟨V,a1,n1,c1⟩:=⟨_,_,_,_,rfl⟩;obtain⟨b,o,hab,bW⟩:=(Ha.out.below Hb.out).aBd k bB hx;obtain⟨q0,q1⟩:=bW.w2;have aU:=ue n cap k (k:Int) hab hlt rfl;have hcall:=fV.out _ (List.getElem_mem bB) wr Hb.out;have hstep:=aeg p vals k k bB;rw[<-oL.out]at hstep;rw[hx]at hcall hstep;obtain⟨iA,kJ⟩:=aI hstep hcall;have pN:=lN.out;clear bW hab hx hstep hcall;go_wp2_with fail;refine kJ.out.mono ?_;rintro e9 w1 ⟨rfl,hb1⟩;replace Hb:=aj (aC Hb.out hb1);clear hb1 q0 q1 aU pN;obtain⟨t,ht⟩:=az (p ⟨V,a1,n1,c1⟩);rw[ht]at iA⊢;clear ht;cases t with
    |true=>go_wp2;refine bodyPost_ret (results_tmp rfl _ _ _) rfl ⟨?_,Hb.out⟩;have h:=iA.out;rw[if_pos (by trivial)]at h;rw[h];rfl
    | false=>
      go_wp2;go_roundw;case rel=>exact⟨k+1,by omega,by go_num,by have h:=iA.out;rw[if_neg zd]at h;exact h,Hb.out⟩
      case measure=>exact bf
  . obtain rfl:k=n:=by omega
    go_wp2;refine bodyPost_ret (results_tmp rfl _ _ _) rfl ⟨?_,Hb.out⟩;have h:=oL.out;rw[List.drop_of_length_le (by rw[Hn.out];exact Nat.le_refl _)]at h;rw[h];rfl
def Zr (a:Option Addr)(n cap:Nat)(vals:List Pv)(gf:Nat)(lb:Array Value)(p:Pv->Bool)(w:World)(hn:vals.length=n)(hl:n<=1099511627776)(ha:At w a (vals.flatMap ic))
 (eg:∀args w,(callFunc gf args).run Tryz.prog w=.ok (.enter gf args) w)
 (hcl:∀x∈vals,∀W,Bw w W->Cl gf (#[.agg #[af x.V,.slice x.a x.n x.c]]++lb) W λe w'=>e=.returned (ag (p x))/\Bw W w'):
 Cv 147 #[.slice a n cap,.func (.func gf) #[] lb] w (ag (vals.any p)):=by
 have h1:=ary a n cap vals gf lb p w hn hl ha eg hcl;rw[<-aef p vals 0];generalize nD p vals 0=i at*;have H1:=aj h1;clear h1 hcl eg ha hn;have Hb:=hbz w;go_enter Tryz.func147,Tryz.ntmps147;go_wp2_with fail;refine aK (Hb.an trivial) (H1.out) λw1 ae ai=>?_;have Hb:=ae.1;go_wp2;exact bodyPost_ret (v:=ag (decide (0<=i))) (by simp[results,Tryz.results147,go_sem,ai]) rfl ⟨rfl,cM⟩
def aff (X:Dyadic)(s:Bool)(m:List UInt8)(e:Int)(b:Bool)(h:(canon X==(s,m,e))= !b)(w':World):
 (if au (dN X)=s then if(bs (nt (dN X).natAbs)).toList=(bs m).toList then if dE X=e then Result.ok (Next.value (Value.bool false)) w' else Result.ok (Next.value (Value.bool true)) w' else Result.ok (Next.value (Value.bool true)) w' else Result.ok (Next.value (Value.bool true)) w')=Result.ok (Next.value (Value.bool b)) w':=by
 have ht:∀x y:List UInt8,(bs x).toList=(bs y).toList↔x=y:=λx y=>by rw[fY,fY]
 have hc:(canon X==(s,m,e))=decide (au (dN X)=s/\nt (dN X).natAbs=m/\dE X=e):=by rw[Bool.eq_iff_iff];simp[canon]
 rw[hc]at h;simp only[ht];cases b with
 | false=>
   have h2:au (dN X)=s/\nt (dN X).natAbs=m/\dE X=e:=by simpa using h
   rw[if_pos h2.1,if_pos h2.2.1,if_pos h2.2.2]
 | true=>
   have h2:¬(au (dN X)=s/\nt (dN X).natAbs=m/\dE X=e):=by intro h3;rw[decide_eq_true h3]at h;cases h
   by_cases h3:au (dN X)=s
   . rw[if_pos h3];by_cases h4:nt (dN X).natAbs=m
     . rw[if_pos h4,if_neg (λh5=>h2 ⟨h3,h4,h5⟩)]
     . rw[if_neg h4]
   . rw[if_neg h3]
def BK (V:Int)(a:Option Addr)(cap N:Nat)(ts:List Trm)(w:World)(hN:ts.length=N)(hn:N<=1048576)(ha:At w a (ts.flatMap aH))(hl:∀t∈ts,t.1.length<=9223372036854775807/\Ok t.2)(hT:aB w):
 Cv 79 #[.agg #[af V,.slice a N cap]] w (af (gj V ts)):=by
 obtain⟨Ha,Hl,HN,jB⟩:=cE ha hl hN hT;obtain⟨R,hR⟩:=az (gj V ts);unfold gj at hR;rw[hN]at hR;rw[show gj V ts=R by unfold gj;rw[hN];exact hR];have HR:=aj hR;clear ha hl hN hR hT;obtain⟨W,bX,ae,ai⟩:=fK w 41 [af V,.slice a N cap];go_enter Tryz.func79,Tryz.ntmps79;go_wp2_with fail;refine aK ae (Lv V _) λw1 ae ai=>?_;by_cases h1:0<=V/\V<=12
 . by_cases h2:4096<N
   . have h3:(4096:Int)<(N:Int):=by omega
     have hR:=HR.out;rw[if_neg (λh=>h h1),if_pos h2]at hR;clear HR;subst hR;have Hb:=ae.1;go_wp2;exact bodyPost_ret (v:=af 3) (by simp[results,Tryz.results79,go_sem,ai]) rfl ⟨rfl,cM⟩
   . have h3:¬(4096:Int)<(N:Int):=by omega
     have h3d:decide ((4096:Int)<(N:Int))=false:=by simp;omega
     have hR:Hid ((if(List.range N).all (mZ V ts)then(0:Int)else 1)=R):=by
      show _=_
      have hR:=HR.out;rw[if_neg (λh=>h h1),if_neg h2]at hR;exact hR
     clear HR;obtain⟨bJ,sB⟩:=aI ae.1.out ae.2.1.out;skip
     have p0:w1.cell? ⟨w.heap.size,0,none⟩=some (af V):=sB.out.cell 0;have p1:w1.cell? ⟨w.heap.size,1,none⟩=some (.slice a N cap):=sB.out.cell 1;go_wp2_with fail;go_loopw[16] (λx wr=>∃k:Nat,k<=N/\x=af (k:Int)/\(List.range k).all (mZ V ts)=true/\ar wr w.heap.size 41 [af V,.slice a N cap]/\Bw w wr) (λx _=>N-(intOf x).toNat);case atStart=>exact⟨0,Nat.zero_le _,rfl,rfl,sB.out,bJ.out⟩
     case round=>
      clear bJ sB p0 p1;obtain⟨k,hk,rfl,mD,mI,pb⟩:=hrel;by_cases hlt:k<N
      . have hk2:k<ts.length:=by rw[HN.out];exact hlt
        obtain⟨l,s,m,e,hx⟩:∃l s m e,ts[k]=(l,s,m,e):=⟨_,_,_,_,rfl⟩;obtain⟨b,o,hab,bW⟩:=(Ha.out.below pb).term k hk2 hx;have hl2:l.length<=9223372036854775807/\Ok (s,m,e):=by have:=Hl.out _ (List.getElem_mem hk2);rw[hx]at this;exact this
        have ZY:ts.getD k default=(l,s,m,e):=by simp[hk2,hx]
        have hgn:(List.range (k+1)).all (mZ V ts)=mZ V ts k:=by rw[List.range_succ,List.all_append,mD];simp
        have hbad:mZ V ts k=false->R=1:=by intro h;rw[<-hR.out,if_neg];intro h5;rw[List.all_eq_true]at h5;have:=h5 k (List.mem_range.2 hlt);rw[h]at this;cases this
        have qo:mZ V ts k=(xW V l (s,m,e)&&(k==0||Op.bytesLess (bs (ts.getD (k-1) default).1).toList (bs l).toList)):=by unfold mZ;rw[ZY]
        have aU:=gK N cap k (k:Int) hab hlt rfl;obtain⟨X,hX⟩:=az (dval (s,m,e));obtain⟨sg,lv⟩:=az (bi X);have hgt:xW V l (s,m,e)=(cJ l V&& !(sg==0)&&(canon X==(s,m,e))):=by unfold xW;rw[hX,lv]
        rw[hgt]at qo;obtain⟨Kw,su,aP,sk,Xx,JL,HX⟩:=jx bW hl2 pb qo hgn hbad hX;have jE:Hid (bi (dval (s,m,e))=sg):=by show _=_;rw[hX];exact lv
        have Hp:=aj mI;have HU:Hid (aB wr):=jB.out.below pb;clear bW hl2 qo hgn hbad hX lv hgt ZY mI hx;have kH:=aj hab;clear hab;have Hb:=hbz wr;have sz:=pb.size;have PN:Hid (aQ wr b (o+k*4) [ah l,ag s,ah m,af e]):=Kw.out;obtain⟨ae,ai⟩:=qZ (Hp.an<|PN.an trivial);have HU:Hid (aB wr):=HU.out;have tr0:wr.cell? ⟨b,o+k*4,none⟩=some (ah l):=ae.2.1.out.cell 0 zm;have tr1:wr.cell? ⟨b,o+k*4+1,none⟩=some (ag s):=ae.2.1.out.cell 1 zm;have tr2:wr.cell? ⟨b,o+k*4+2,none⟩=some (ah m):=ae.2.1.out.cell 2 zm;have tr3:wr.cell? ⟨b,o+k*4+3,none⟩=some (af e):=ae.2.1.out.cell 3 zm;have P0:=tr0;have P1:=tr1;have P2:=tr2;have P3:=tr3;obtain⟨W4,ke,aG,ae,ai⟩:=bO wr (Hb.an<|HU.an ae) 111 [ah l,ag s,ah m,af e];clear Kw;cases hmv:cJ l V with
        |false=>have hr:=JL.out (by rw[sk.out,hmv];rfl);subst hr;have tQ:=λW=>Ei l V W (by have:=su.out.1;omega);rw[hmv]at tQ;have vJ:=aj tQ;clear tQ;go_wp2_with fail;refine df 999 ae (cQ 36 0x474543413f3d3b39373533312f2d2b2927251e23211d1b19171512110f0d0b0807050301) ?_;refine bC ?_;refine bP ae (vJ.out _) λw5 ae=>?_;refine bC ?_;refine cZ ae λai=>?_;go_wp2;refine bodyPost_ret (results_tmp rfl _ _ _) rfl ⟨rfl,aC aP.out ae.2.1.out⟩
        | true=>
          have tQ:=λW=>Ei l V W (by have:=su.out.1;omega);rw[hmv]at tQ;have vJ:=aj tQ;clear tQ;by_cases hs0:sg=0
          . have hr:=JL.out (by rw[sk.out,hmv,hs0];rfl);subst hr hs0;go_wp2_with fail;refine df 999 ae (cQ 36 0x474543413f3d3b39373533312f2d2b2927251e23211d1b19171512110f0d0b0807050301) ?_;refine bC ?_;refine bP ae (vJ.out _) λw5 ae=>?_;refine bC ?_;refine bP ae (oc s m e 0 jE.out _ su.out.2) λw6 ae=>?_;refine bC ?_;refine cZ ae λai=>?_;go_wp2;refine bodyPost_ret (results_tmp rfl _ _ _) rfl ⟨rfl,aC aP.out ae.2.1.out⟩
          . have hs1:(sg==0)=false:=by simpa using hs0
            by_cases hc:canon X=(s,m,e)
            . have hcb:(canon X==(s,m,e))=true:=by simpa using hc
              have hne:=aff X s m e false hcb;clear hc;by_cases fG:k=0
              . have hg:=sk.out;rw[hmv,hs1,hcb,fG]at hg;have OV:Hid ((List.range (k+1)).all (mZ V ts)=true):=by show _=_;rw[Xx.out,fG,hg];rfl
                have hk1:decide (0<k)=false:=by simp;omega
                clear hg hcb fG;go_wp2_with fail;refine df 999 ae (cQ 36 0x474543413f3d3b39373533312f2d2b2927251e23211d1b19171512110f0d0b0807050301) ?_;refine bC ?_;refine bP ae (vJ.out _) λw5 ae=>?_;refine bC ?_;refine bP ae (oc s m e sg jE.out _ su.out.2) λw6 ae=>?_;refine bC ?_;refine bP ae (rB s m e X HX.out _ su.out.2 (qU ae.2.2.1.out)) λw7 ae=>?_;refine bC ?_;refine cZ ae λai=>?_;go_wp2;go_roundw;case rel=>exact⟨k+1,by omega,by go_num,OV.out,ae.2.2.2.1.out,aC aP.out ae.2.1.out⟩
                case measure=>exact bf
              . have AR:k-1<ts.length:=by omega
                obtain⟨l',s',m',e',hx'⟩:∃l s m e,ts[k-1]=(l,s,m,e):=⟨_,_,_,_,rfl⟩;obtain⟨b',o',rD,wM⟩:=(Ha.out.below (aC aP.out ae.2.1.out)).term (k-1) AR hx';have hab:=kH.out;rw[hab]at rD;simp only[Option.some.injEq,Addr.mk.injEq,and_true]at rD;obtain⟨rfl,rfl⟩:=rD;have ZZ:ts.getD (k-1) default=(l',s',m',e'):=by simp[AR,hx']
                have hg:=sk.out;rw[ZZ,hmv,hs1,hcb]at hg;have acK:(k==0)=false:=by simpa using fG
                rw[acK]at hg;have hk1:decide (0<k)=true:=by simp;omega
                have yo:IntKind.i64.wrap ((k:Int)-1)=((k-1:Nat):Int):=by rw[IntKind.wrap_i64];omega
                have aqG:=gK N cap (k-1) ((k-1:Nat):Int) hab zo rfl;obtain⟨kp,SP⟩:=az (k-1);rw[SP]at aqG yo wM;have azC:kp<N:=by omega
                have ik:Hid (aQ W4 b (o+kp*4) [ah l',ag s',ah m',af e']):=wM;have aye:=aj SP;clear wM fG acK hcb ZZ hx' SP hab;cases GU:Op.bytesLess (bs l').toList (bs l).toList with
                | true=>
                  have OV:Hid ((List.range (k+1)).all (mZ V ts)=true):=by show _=_;rw[Xx.out,hg];simpa using GU
                  clear hg;go_wp2_with fail;have Hp:=ae.2.2.2.1;have Ht:=ae.1;have Hb:=ae.2.1;have HU:=ae.2.2.1;obtain⟨ae,ai⟩:=qZ (Hp.an<|Ht.an<|ik.an trivial);have HU:Hid (aB W4):=HU.out;have ae:=Hb.an<|HU.an ae
                  refine df 999 ae (cQ 36 0x474543413f3d3b39373533312f2d2b2927251e23211d1b19171512110f0d0b0807050301) ?_;refine bC ?_;refine bP ae (vJ.out _) λw5 ae=>?_;refine bC ?_;refine bP ae (oc s m e sg jE.out _ su.out.2) λw6 ae=>?_;refine bC ?_;refine bP ae (rB s m e X HX.out _ su.out.2 (qU ae.2.1.out)) λw7 ae=>?_;refine bC ?_;refine cZ ae λai=>?_;go_wp2;go_roundw;case rel=>exact⟨k+1,by omega,by go_num,OV.out,ae.2.2.1.out,aC aP.out ae.1.out⟩
                  case measure=>exact bf
                | false=>
                  have hr:=JL.out (by rw[hg];simpa using GU);subst hr;clear hg;go_wp2_with fail;have Hp:=ae.2.2.2.1;have Ht:=ae.1;have Hb:=ae.2.1;have HU:=ae.2.2.1;obtain⟨ae,ai⟩:=qZ (Hp.an<|Ht.an<|ik.an trivial);have HU:Hid (aB W4):=HU.out;have ae:=Hb.an<|HU.an ae
                  refine df 999 ae (cQ 36 0x474543413f3d3b39373533312f2d2b2927251e23211d1b19171512110f0d0b0807050301) ?_;refine bC ?_;refine bP ae (vJ.out _) λw5 ae=>?_;refine bC ?_;refine bP ae (oc s m e sg jE.out _ su.out.2) λw6 ae=>?_;refine bC ?_;refine bP ae (rB s m e X HX.out _ su.out.2 (qU ae.2.1.out)) λw7 ae=>?_;refine bC ?_;refine cZ ae λai=>?_;go_wp2;refine bodyPost_ret (results_tmp rfl _ _ _) rfl ⟨rfl,aC aP.out ae.1.out⟩
            . have hr:=JL.out (by
               rw[sk.out,hmv,hs1];have:(canon X==(s,m,e))=false:=by simpa using hc
               rw[this];rfl)
              subst hr;have hne:=aff X s m e true (by simpa using hc);clear hc;go_wp2_with fail;refine df 999 ae (cQ 36 0x474543413f3d3b39373533312f2d2b2927251e23211d1b19171512110f0d0b0807050301) ?_;refine bC ?_;refine bP ae (vJ.out _) λw5 ae=>?_;refine bC ?_;refine bP ae (oc s m e sg jE.out _ su.out.2) λw6 ae=>?_;refine bC ?_;refine bP ae (rB s m e X HX.out _ su.out.2 (qU ae.2.2.1.out)) λw7 ae=>?_;refine bC ?_;refine cZ ae λai=>?_;go_wp2;refine bodyPost_ret (results_tmp rfl _ _ _) rfl ⟨rfl,aC aP.out ae.2.1.out⟩
      . obtain rfl:k=N:=by omega
        have hr:R=0:=by rw[<-hR.out,if_pos mD]
        subst hr;go_wp2;refine bodyPost_ret (results_tmp rfl _ _ _) rfl ⟨rfl,pb⟩
 . have hR:=HR.out;rw[if_pos h1]at hR;clear HR;subst hR;have Hb:=ae.1;go_wp2;exact bodyPost_ret (v:=af 1) (by simp[results,Tryz.results79,go_sem,ai]) rfl ⟨rfl,cM⟩
end Go.Proofs.YtpfgffadgkkedaaGreatDoor
namespace Go.Proofs.YtpfgffadgkkedaaGreatDoor
def CY (p:Nat->Nat->Dyadic):Nat->Nat->Dyadic:=λa b=>p (a+1) b-p 0 b
def mf (n:Nat)(e:Nat->Nat->Dyadic)(k i:Nat):Dyadic:=if(k+i)%2=1 then-dK (n-1) (mM e i k)else dK (n-1) (mM e i k)
def jH (n:Nat)(p:Nat->Nat->Dyadic)(k i:Nat):Dyadic:=mf n (CY p) k i*mS (bM n p)
def wS (n:Nat)(p:Nat->Nat->Dyadic)(x:Nat->Dyadic)(i:Nat):Nat->Dyadic
 |0=>0
 |k+1=>wS n p x i k+(x k-p 0 k) *jH n p k i
def axn (n:Nat)(p:Nat->Nat->Dyadic)(x:Nat->Dyadic)(i k:Nat):wS n p x i k=mS (bM n p) *Ef n (CY p) (λk=>x k-p 0 k) i k:=by
 induction k with
 |zero=>simp[wS,Ef]
 |succ k ih=>unfold wS Ef;rw[ih];unfold jH mf;generalize (if(k+i)%2=1 then-dK (n-1) (mM (CY p) i k)else dK (n-1) (mM (CY p) i k))=z;grind
def Jp (n:Nat)(hn:1<=n)(aZ:n<=4)(p:Nat->Nat->Dyadic)(x:Nat->Dyadic)(i:Nat)(hi:i<n):wS n p x i n=ig n p x (i+1):=by rw[axn,ar1 n hn aZ _ _ i hi];unfold ig;rw[aop];rfl
def wZ (n:Nat)(p:Nat->Nat->Dyadic)(x:Nat->Dyadic):Nat->Dyadic
 |0=>mS (bM n p) *bM n p
 |k+1=>wZ n p x k-ig n p x (k+1)
def axs (n:Nat)(p:Nat->Nat->Dyadic)(x:Nat->Dyadic)(k:Nat):wZ n p x k=mS (bM n p) *bM n p-dI (λi=>ig n p x (i+1)) k:=by
 induction k with
 |zero=>simp[wZ,dI];grind
 |succ k ih=>unfold wZ dI;rw[ih];grind
def axt (n:Nat)(hn:1<=n)(aZ:n<=4)(p:Nat->Nat->Dyadic)(x:Nat->Dyadic):wZ n p x n=ig n p x 0:=by rw[axs];unfold ig;rw[awp,axP n hn aZ p x];grind
def afY (X:Dyadic):mS X*X=if X<0 then-X else X:=by
 rw[Nt];split
 . grind
 . split<;>grind
def Lf {B n:Nat}{e:Nat->Nat->Dyadic}(aZ:n<=4)(h:∀i j,i<n->j<n->Sm B (e i j)):Sm (4*B+6) (dK n e):=by
 by_cases h0:n=0
 . subst h0;exact Sm.one.mono zo
 . exact ZH zo aZ h
def Vo (X:Dyadic):Sm 1 (mS X):=by
 rw[Nt];split
 . exact Sm.neg Sm.one
 . split
   . exact Sm.zero _
   . exact Sm.one
def Lq {B n:Nat}{p:Nat->Nat->Dyadic}(h:∀a b,a<=n->b<n->Sm B (p a b))(a b:Nat)(ha:a<n)(hb:b<n):Sm (B+1) (CY p a b):=Sm.sub (h (a+1) b zo hb) (h 0 b zo hb)
def YL {B n:Nat}{e:Nat->Nat->Dyadic}(hn:1<=n)(aZ:n<=4)(h:∀i j,i<n->j<n->Sm B (e i j))(k i:Nat):Sm (4*B+6) (mf n e k i):=by
 have h2:Sm (4*B+6) (dK (n-1) (mM e i k)):=Lf zo (λa b ha hb=>h _ _ (by split<;>omega) (by split<;>omega));unfold mf;split
 . exact h2.neg
 . exact h2
def KO {B n:Nat}{p:Nat->Nat->Dyadic}(hn:1<=n)(aZ:n<=4)(h:∀a b,a<=n->b<n->Sm B (p a b))(k i:Nat):Sm (4*B+11) (jH n p k i):=
 (Sm.mul (YL (B:=B+1) hn aZ (λa b ha hb=>Lq h a b ha hb) k i) (Vo _)).mono zo
def af1 {B n:Nat}{p:Nat->Nat->Dyadic}(aZ:n<=4)(h:∀a b,a<=n->b<n->Sm B (p a b)):Sm (4*B+11) (mS (bM n p) *bM n p):=by rw[CX];exact(Sm.mul (Vo _) (Lf (B:=B+1) aZ (λa b ha hb=>Lq h a b ha hb))).mono zo
def VM {B n:Nat}{p:Nat->Nat->Dyadic}{x:Nat->Dyadic}(hn:1<=n)(aZ:n<=4)(h:∀a b,a<=n->b<n->Sm B (p a b))(hx:∀b,b<n->Sm B (x b))(i k:Nat)(hk:k<=n):Sm (5*B+12+k) (wS n p x i k):=by
 induction k with
 |zero=>exact Sm.zero _
 |succ k ih=>have h1:=ih zo;have h2:Sm (5*B+12) ((x k-p 0 k) *jH n p k i):=(Sm.mul (Sm.sub (hx k zo) (h 0 k zo zo)) (KO hn aZ h k i)).mono zo;exact(h1.add (h2.mono zo)).mono zo
def axN {B n:Nat}{p:Nat->Nat->Dyadic}{x:Nat->Dyadic}(hn:1<=n)(aZ:n<=4)(h:∀a b,a<=n->b<n->Sm B (p a b))(hx:∀b,b<n->Sm B (x b))(i:Nat)(hi:i<n):Sm (5*B+16) (ig n p x (i+1)):=by rw[<-Jp n hn aZ p x i hi];exact(VM hn aZ h hx i n (Nat.le_refl _)).mono zo
def axr {B n:Nat}{p:Nat->Nat->Dyadic}{x:Nat->Dyadic}(hn:1<=n)(aZ:n<=4)(h:∀a b,a<=n->b<n->Sm B (p a b))(hx:∀b,b<n->Sm B (x b))(k:Nat)(hk:k<=n):Sm (5*B+16+k) (wZ n p x k):=by
 induction k with
 |zero=>exact(af1 aZ h).mono zo
 |succ k ih=>exact(Sm.sub (ih zo) ((axN hn aZ h hx k zo).mono zo)).mono zo
def wC (n:Nat)(p:Nat->Nat->Dyadic)(i:Nat):Dyadic:=wS n p (λ_=>0) i n
def lZ (n:Nat)(p:Nat->Nat->Dyadic)(b:Nat):Nat->Dyadic
 |0=>0
 |k+1=>lZ n p b k-jH n p b k
def agM (n:Nat)(p:Nat->Nat->Dyadic)(x:Nat->Dyadic)(i k:Nat):wS n p x i k=wS n p (λ_=>0) i k+dI (λb=>jH n p b i*x b) k:=by
 induction k with
 |zero=>simp[wS,dI]
 |succ k ih=>unfold wS dI;rw[ih];grind
def axq (n:Nat)(hn:1<=n)(aZ:n<=4)(p:Nat->Nat->Dyadic)(x:Nat->Dyadic)(k:Nat)(hk:k<=n):wZ n p x k=wZ n p (λ_=>0) k+dI (λb=>lZ n p b k*x b) n:=by
 induction k with
 | zero=>
   have:dI (λb=>lZ n p b 0*x b) n=0:=by rw[agc (g:=λ_=>(0:Dyadic) *0) n (λb _=>by simp[lZ]),agd];grind
   rw[this];unfold wZ;grind
 | succ k ih=>
   unfold wZ;rw[ih zo,<-Jp n hn aZ p x k zo,<-Jp n hn aZ p (λ_=>0) k zo,agM n p x k n];have:dI (λb=>lZ n p b (k+1) *x b) n=dI (λb=>lZ n p b k*x b) n+dI (λb=>jH n p b k*x b) n* (-1):=by rw[<-agd,<-awn];exact agc n (λb _=>by simp only[lZ];grind)
   rw[this];grind
def lD (R:List (List Dyadic))(r c:Nat):List (List Dyadic):=(R.eraseIdx r).map λx=>x.eraseIdx c
def aeX (R:List (List Dyadic))(r c m:Nat)(hL:R.length=m+1)(hr:r<=m):(lD R r c).length=m:=by unfold lD;rw[List.length_map,List.length_eraseIdx_of_lt zo];omega
def aeY (R:List (List Dyadic))(r c m:Nat)(hrow:∀x∈R,x.length=m+1)(hc:c<=m):∀x∈lD R r c,x.length=m:=by intro x hx;unfold lD at hx;obtain⟨y,hy,rfl⟩:=List.mem_map.1 hx;have:=hrow y (List.mem_of_mem_eraseIdx hy);rw[List.length_eraseIdx_of_lt zo];omega
def aeW (R:List (List Dyadic))(r c m:Nat)(hL:R.length=m+1)(hr:r<=m)(j:Nat)(hj:j<m):(lD R r c).getD j []=(R.getD (if j<r then j else j+1) []).eraseIdx c:=by
 unfold lD;have h1:j<(R.eraseIdx r).length:=by rw[List.length_eraseIdx_of_lt zo];omega
 rw[List.getD_eq_getElem?_getD,List.getElem?_map,List.getElem?_eq_getElem h1,Option.map_some,Option.getD_some,List.getElem_eraseIdx];split
 . rename_i h;rw[List.getD_eq_getElem?_getD,List.getElem?_eq_getElem zo];rfl
 . rename_i h;rw[List.getD_eq_getElem?_getD,List.getElem?_eq_getElem zo];rfl
def apm (l:List Dyadic)(c j:Nat)(h:j+1<l.length)(hc:c<l.length):(l.eraseIdx c).getD j 0=l.getD (if j<c then j else j+1) 0:=by
 have h1:j<(l.eraseIdx c).length:=by rw[List.length_eraseIdx_of_lt hc];omega
 rw[List.getD_eq_getElem?_getD,List.getElem?_eq_getElem h1,Option.getD_some,List.getElem_eraseIdx];split
 . rw[List.getD_eq_getElem?_getD,List.getElem?_eq_getElem zo];rfl
 . rw[List.getD_eq_getElem?_getD,List.getElem?_eq_getElem zo];rfl
def as2 (R:List (List Dyadic))(r c m:Nat)(hL:R.length=m+1)(hrow:∀x∈R,x.length=m+1)(hr:r<=m)(hc:c<=m)(i j:Nat)(hi:i<m)(hj:j<m):cu (lD R r c) i j=mM (cu R) r c i j:=by
 show((lD R r c).getD i []).getD j 0=(R.getD (if i<r then i else i+1) []).getD (if j<c then j else j+1) 0
 rw[aeW R r c m hL hr i hi];have hk:(if i<r then i else i+1)<R.length:=by split<;>omega
 have e:R.getD (if i<r then i else i+1) []=R[if i<r then i else i+1]'hk:=by rw[List.getD_eq_getElem?_getD,List.getElem?_eq_getElem hk];rfl
 have hl:=hrow _ (List.getElem_mem hk);rw[e];exact apm _ c j (by rw[hl];omega) (by rw[hl];omega)
def sM (n:Nat)(e:Nat->Nat->Dyadic):List (List Dyadic):=(List.range n).map λa=>(List.range n).map λb=>mf n e a b
def YN (n:Nat)(e:Nat->Nat->Dyadic)(a:Nat)(ha:a<n):(sM n e).getD a []=(List.range n).map λb=>mf n e a b:=by unfold sM;simp[List.getD_eq_getElem?_getD,ha]
def alm (n:Nat)(e:Nat->Nat->Dyadic)(a b:Nat)(ha:a<n)(hb:b<n):cu (sM n e) a b=mf n e a b:=by unfold cu;rw[YN n e a ha];simp[List.getD_eq_getElem?_getD,hb]
def aln (n:Nat)(e:Nat->Nat->Dyadic):(sM n e).length=n:=by simp[sM]
def alo (n:Nat)(e:Nat->Nat->Dyadic):∀r∈sM n e,r.length=n:=by intro r hr;unfold sM at hr;obtain⟨x,_,rfl⟩:=List.mem_map.1 hr;simp
def as1 (R:List (List Dyadic))(r c m:Nat)(hL:R.length=m+1)(hrow:∀x∈R,x.length=m+1)(hr:r<=m)(hc:c<=m)(hm:m<=4):dK m (cu (lD R r c))=dK m (mM (cu R) r c):=
 FY m hm (λi j hi hj=>as2 R r c m hL hrow hr hc i j hi hj)
def as3 {B:Nat}{R:List (List Dyadic)}(h:∀x∈R,∀d∈x,Sm B d)(r c:Nat):∀x∈lD R r c,∀d∈x,Sm B d:=by intro x hx d hd;unfold lD at hx;obtain⟨y,hy,rfl⟩:=List.mem_map.1 hx;exact h y (List.mem_of_mem_eraseIdx hy) d (List.mem_of_mem_eraseIdx hd)
end Go.Proofs.YtpfgffadgkkedaaGreatDoor
namespace Go.Proofs.YtpfgffadgkkedaaGreatDoor
open Go.RowKit
def fW (w:World)(base n:Nat)(R:List (List Dyadic))(k:Nat)(v:Value):Prop:=
 ∃vals:List Value,vals.length=k/\w.ownsRow base 29 1 v k vals/\(∀i (h:i<vals.length),w.ownsRow base 45 3 vals[i] n (dC (R.getD i [])))/\
  ∀i j (hi:i<vals.length) (hj:j<vals.length) g,vals[i].ownBlock=some g->vals[j].ownBlock=some g->i=j
def fW.nil (w:World)(base n:Nat)(R:List (List Dyadic)):fW w base n R 0 (.slice none 0 0):=
 ⟨[],rfl,World.ownsRow_nil _ _ _ _,λ_ h=>absurd h (Nat.not_lt_zero _),λ_ _ h=>absurd h (Nat.not_lt_zero _)⟩
def fW.below {w w':World}{base n k:Nat}{R:List (List Dyadic)}{v:Value}(h:fW w base n R k v)(hb:Bw w w'):fW w' base n R k v:=by obtain⟨vals,hl,ho,hi,hd⟩:=h;exact⟨vals,hl,ownsRow_below ho hb,λi h=>ownsRow_below (hi i h) hb,hd⟩
def fW.push {w w':World}{base n k:Nat}{R:List (List Dyadic)}{v v' x:Value}{vals:List Value}(hl:vals.length=k)(hov:w.ownsRow base 29 1 v k vals)(hi:∀i (h:i<vals.length),w.ownsRow base 45 3 vals[i] n (dC (R.getD i [])))
 (hd:∀i j (hi:i<vals.length) (hj:j<vals.length) g,vals[i].ownBlock=some g->vals[j].ownBlock=some g->i=j)
 (hx:w.ownsRow base 45 3 x n (dC (R.getD k []))) (iF:∀g,x.ownBlock=some g->∀i (h:i<vals.length),vals[i].ownBlock≠some g)
 (ho:w'.ownsRow base 29 1 v' (k+1) (vals++[x])) (hg:w.grownBy w' v.ownBlock):fW w' base n R (k+1) v':=by
 refine⟨_,by simp[hl],ho,λi h=>?_,λi j h1 h2 g e1 e2=>?_⟩
 . by_cases hk:i<vals.length
   . rw[List.getElem_append_left hk];exact(hi i hk).kept hg (BP (hi i hk) hov zd)
   . have hik:i=k:=by simp at h;omega
     subst hik;rw[List.getElem_append_right zo];simp only[hl,Nat.sub_self,List.getElem_cons_zero];exact hx.kept hg (BP hx hov zd)
 . by_cases k1:i<vals.length
   . rw[List.getElem_append_left k1]at e1;by_cases k2:j<vals.length
     . rw[List.getElem_append_left k2]at e2;exact hd i j k1 k2 g e1 e2
     . have hjk:j=k:=by simp at h2;omega
       subst hjk;rw[List.getElem_append_right zo]at e2;simp only[hl,Nat.sub_self,List.getElem_cons_zero]at e2;exact absurd e1 (iF g e2 i k1)
   . have hik:i=k:=by simp at h1;omega
     subst hik;rw[List.getElem_append_right zo]at e1;simp only[hl,Nat.sub_self,List.getElem_cons_zero]at e1;by_cases k2:j<vals.length
     . rw[List.getElem_append_left k2]at e2;exact absurd e2 (iF g e1 j k2)
     . simp at h2;omega
def fW.tbl {w:World}{base n k:Nat}{R:List (List Dyadic)}{v:Value}(h:fW w base n R k v)(hk:R.length=k)(hn:∀r∈R,r.length=n):∃a c,v=.slice a k c/\k<=c/\Tbl w a (R.map λr=>r.map canon):=by
 obtain⟨vals,hl,ho,hi,hd⟩:=h;obtain⟨a,c,hv,hat,_⟩:=cz ho;subst hv;refine⟨a,c,rfl,BH ho,vals,by simp[hl,hk],hat,λi h1 h2=>?_⟩;obtain⟨a1,c1,e1,e2,_⟩:=cz (hi i h2);have hi1:i<R.length:=by simpa using h1
 have eg:R.getD i []=R[i]:=by simp[hi1]
 rw[eg]at e2;refine⟨a1,c1,?_,?_⟩
 . rw[e1];simp[hn _ (List.getElem_mem hi1)]
 . rw[List.getElem_map,<-Am];exact e2
def anw (ds:List Dyadic)(j:Nat)(hj:j<ds.length):(dC ds)[j*3]?=some (ag (au (dN ds[j])))/\(dC ds)[j*3+1]?=some (ah (nt (dN ds[j]).natAbs))/\(dC ds)[j*3+2]?=some (af (dE ds[j])):=by have h:=λi (hi:i<3)=>flat_get (λd=>aV (canon d)) 3 (λ_=>rfl) ds j i hj hi;unfold dC;exact⟨(h 0 zd),(h 1 zd),(h 2 zd)⟩
def fW.num {w:World}{base n L:Nat}{R:List (List Dyadic)}{v:Value}(h:fW w base n R L v)(i j:Nat)(hi:i<L)(hj:j<n)(hR:R.length=L)(hr:(R.getD i []).length=n):
 ∃go cap g c,v=.slice (some ⟨go,0,none⟩) L cap/\base<=go/\base<=g/\g≠go/\w.cell? ⟨go,i,none⟩=some (.slice (some ⟨g,0,none⟩) n c)/\
  aQ w g (j*3) [ag (au (dN ((R.getD i []).getD j 0))),ah (nt (dN ((R.getD i []).getD j 0)).natAbs),af (dE ((R.getD i []).getD j 0))]/\(∀o,w.frozen? ⟨g,o,none⟩=false)/\
  ∀y:Dyadic,fW (((w.setCell ⟨g,j*3,none⟩ (ag (au (dN y)))).setCell ⟨g,j*3+1,none⟩ (ah (nt (dN y).natAbs))).setCell ⟨g,j*3+2,none⟩ (af (dE y))) base n (R.set i ((R.getD i []).set j y)) L v:=by
 obtain⟨vals,hl,ho,hv,hd⟩:=h;have hi2:i<vals.length:=by omega
 have hrow:=hv i hi2;have hxl:(dC (R.getD i [])).length=n*3:=by rw[anx,hr]
 obtain⟨a0,cap,rfl,_,_⟩:=cz ho;obtain⟨a1,c,e1,_,hab⟩:=cz hrow;rw[e1]at hrow;rcases ho.2 with⟨h1,_⟩ |⟨go,cap',cur,h1,fS,hgo,_⟩
 . simp at h1;omega
 simp only[Value.slice.injEq,true_and]at h1;obtain⟨rfl,rfl⟩:=h1;have hrow2:=hrow;rcases hrow.2 with⟨h1,_⟩ |⟨g,c',cur',h1,hbg,hgg,_⟩
 . simp at h1;omega
 simp only[Value.slice.injEq,true_and]at h1;obtain⟨rfl,rfl⟩:=h1;have hne:g≠go:=by rintro rfl;rw[hgo]at hgg;simp at hgg
 have hat:=anw (R.getD i []) j zo;have hg0:(R.getD i []).getD j 0=(R.getD i [])[j]'zo:=by rw[List.getD_eq_getElem?_getD,List.getElem?_eq_getElem zo];rfl
 have hc0:=mO hrow (j*3) zo;have hc1:=mO hrow (j*3+1) zo;have hc2:=mO hrow (j*3+2) zo;rw[<-List.getElem?_eq_getElem]at hc0 hc1 hc2;rw[hat.1]at hc0;rw[hat.2.1]at hc1;rw[hat.2.2]at hc2;refine⟨go,cap,g,c,rfl,fS,hbg,hne,?_,by rw[hg0];exact jm hc0 hc1 hc2,λo=>?_,λy=>?_⟩
 . rw[mO ho i zo,e1]
 . have h4:ar w g 45 cur'.toList:=by unfold ar;simpa using hgg
   exact h4.free o
 . refine⟨vals,hl,?_,λm hm=>?_,hd⟩
   . have hn:∀(o:Nat) (u:Value) (W:World),W.ownsRow base 29 1 (.slice (some ⟨go,0,none⟩) L cap) L vals->(W.setCell ⟨g,o,none⟩ u).ownsRow base 29 1 (.slice (some ⟨go,0,none⟩) L cap) L vals:=λo u W h=>ownsRow_setCell_other h (by simpa[Value.ownBlock]using hne.symm) _;exact hn _ _ _ (hn _ _ _ (hn _ _ _ ho))
   . by_cases wE:m=i
     . subst wE;have hs:(R.set m ((R.getD m []).set j y)).getD m []=(R.getD m []).set j y:=by rw[List.getD_eq_getElem?_getD,List.getElem?_set_self zo];rfl
       rw[hs,e1,<-anz];exact jS (jS (jS hrow _ _) _ _) _ _
     . have hs:(R.set i ((R.getD i []).set j y)).getD m []=R.getD m []:=by rw[List.getD_eq_getElem?_getD,List.getElem?_set_ne (λe=>wE e.symm),<-List.getD_eq_getElem?_getD]
       rw[hs];have hno:vals[m].ownBlock≠some g:=λe=>wE (hd m i hm hi2 g e (by rw[e1];rfl));exact ownsRow_setCell_other (ownsRow_setCell_other (ownsRow_setCell_other (hv m hm) hno _) hno _) hno _
end Go.Proofs.YtpfgffadgkkedaaGreatDoor
namespace Go.Proofs.YtpfgffadgkkedaaGreatDoor
end Go.Proofs.YtpfgffadgkkedaaGreatDoor
namespace Go.Proofs.YtpfgffadgkkedaaGreatDoor
open Go.RowKit
def tG (rows:List (List Raw))(i j v:Nat):List (List Raw):=(rows.set v (pJ (rows.getD i []) (rows.getD j []))).map rA
def ao8 (r:List Raw):(rA r).map dval=r.map dval:=by unfold rA;rw[List.map_map];refine List.map_congr_left (λx _=>?_);exact bA _
def QX (n:Nat)(aZ:n<=4){p q:Nat->Nat->Dyadic}(h:∀a b,a<=n->b<n->p a b=q a b):bM n p=bM n q:=by rw[CX,CX];exact FY n aZ (λi j hi hj=>by rw[h (i+1) j zo hj,h 0 j zo hj])
def Sp (V i j v B:Nat)(rows:List (List Raw))(hL:rows.length=V+1)(hrow:∀r∈rows,r.length=V)(hij:i<j)(hj:j<=V)(hfit:∀r∈rows,∀c∈r,Fit B c)(hB:B<=10000000):
 (tG rows i j v).length=V+1/\(∀r∈tG rows i j v,r.length=V)/\(∀r∈tG rows i j v,∀c∈r,Fit (B+3) c)/\
  ((tG rows i j v).map λr=>r.map dval)=(rows.map λr=>r.map dval).set v (midD (rows.getD i []) (rows.getD j []))/\
  ∀k,k<V->(midD (rows.getD i []) (rows.getD j [])).getD k 0=(((rows.map λr=>r.map dval).getD i []).getD k 0+((rows.map λr=>r.map dval).getD j []).getD k 0) *hp 1:=by
 have hi1:i<rows.length:=by omega
 have ov:j<rows.length:=by omega
 have ei:rows.getD i []=rows[i]:=by simp[List.getD_eq_getElem?_getD,hi1]
 have ej:rows.getD j []=rows[j]:=by simp[List.getD_eq_getElem?_getD,ov]
 have li:=hrow _ (List.getElem_mem hi1);have lj:=hrow _ (List.getElem_mem ov);rw[show tG rows i j v=(rows.set v (pJ rows[i] rows[j])).map rA by unfold tG;rw[ei,ej],ei,ej];have mG:(pJ rows[i] rows[j]).length=V:=by rw[aeV zo,li]
 refine⟨by simp[hL],λr hr=>?_,λr hr c hc=>?_,?_,λk hk=>?_⟩
 . obtain⟨x,hx,rfl⟩:=List.mem_map.1 hr;rw[Lx];rcases List.mem_or_eq_of_mem_set hx with h|h
   . exact hrow x h
   . rw[h];exact mG
 . obtain ⟨x,hx,rfl⟩:=List.mem_map.1 hr;unfold rA at hc;obtain⟨y,hy,rfl⟩:=List.mem_map.1 hc;have hys:Sm (B+3) (dval y):=by
    rcases List.mem_or_eq_of_mem_set hx with h|h
    . exact(hfit x h y hy).2.mono zo
    . rw[h]at hy;exact(aeU (hfit _ (List.getElem_mem hi1)) (hfit _ (List.getElem_mem ov)) hB y hy).2
   exact hys.fit zo
 . rw[List.map_map];have e:((λr:List Raw=>r.map dval)∘rA)=λr=>r.map dval:=funext ao8;rw[e,List.map_set];congr 1;unfold pJ;rw[List.map_map];have:(dval∘canon)=id:=funext bA;rw[this];simp
 . have h1:((rows.map λr=>r.map dval).getD i []).getD k 0=dval (rows[i][k]'zo):=by simp[List.getD_eq_getElem?_getD,hi1,show k<rows[i].length by omega]
   have h2:((rows.map λr=>r.map dval).getD j []).getD k 0=dval (rows[j][k]'zo):=by simp[List.getD_eq_getElem?_getD,ov,show k<rows[j].length by omega]
   rw[h1,h2];unfold midD;rw[List.getD_eq_getElem?_getD,List.getElem?_zipWith,List.getElem?_eq_getElem zo,List.getElem?_eq_getElem zo];rfl
def abF (V i j v B:Nat)(rows:List (List Raw))(hL:rows.length=V+1)(hrow:∀r∈rows,r.length=V)(hij:i<j)(hj:j<=V)(hv:v<=V)(hfit:∀r∈rows,∀c∈r,Fit B c)(hB:B<=10000000)(a b:Nat)(ha:a<=V)(hb:b<V):
 dA (tG rows i j v) a b=yP (dA rows) (hp 1) i j v a b:=by
 obtain⟨q1,q2,_,q4,q5⟩:=Sp V i j v B rows hL hrow hij hj hfit hB;unfold dA cu yP;rw[q4];have hlen:(rows.map λr=>r.map dval).length=V+1:=by simp[hL]
 by_cases e:a=v
 . subst e;rw[if_pos rfl];have:((rows.map λr=>r.map dval).set a (midD (rows.getD i []) (rows.getD j []))).getD a []=midD (rows.getD i []) (rows.getD j []):=by rw[List.getD_eq_getElem?_getD,List.getElem?_set_self zo];rfl
   rw[this];exact q5 b hb
 . rw[if_neg e];have:((rows.map λr=>r.map dval).set v (midD (rows.getD i []) (rows.getD j []))).getD a []=(rows.map λr=>r.map dval).getD a []:=by rw[List.getD_eq_getElem?_getD,List.getElem?_set_ne (λh=>e h.symm),<-List.getD_eq_getElem?_getD]
   rw[this]
def aqb (V i j v B:Nat)(rows:List (List Raw))(hV1:1<=V)(tC:V<=4)(hL:rows.length=V+1)(hrow:∀r∈rows,r.length=V)(hij:i<j)(hj:j<=V)(hv:v=i\/v=j)(hfit:∀r∈rows,∀c∈r,Fit B c)(hB:B<=10000000):
 bM V (dA (tG rows i j v))=bM V (dA rows) *hp 1:=by
 rw[<-aqd V hV1 tC (dA rows) (hp 1) Il i j v hij hj hv];exact QX V tC (λa b ha hb=>abF V i j v B rows hL hrow hij hj zo hfit hB a b ha hb)
def aqc {x:Dyadic}(h:x*hp 1=0):x=0:=by
 have h2:x*hp 1+x*hp 1=x:=by
  have h3:=Il;have:x*hp 1+x*hp 1=x* (hp 1+hp 1):=by grind
  rw[this,h3];grind
 rw[h]at h2;grind
def aqa (V i j v B:Nat)(rows:List (List Raw))(hV1:1<=V)(tC:V<=4)(hL:rows.length=V+1)(hrow:∀r∈rows,r.length=V)(hij:i<j)(hj:j<=V)(hv:v=i\/v=j)(hfit:∀r∈rows,∀c∈r,Fit B c)(hB:B<=10000000)(h0:jA rows=0):
 jA (tG rows i j v)=0:=by
 obtain⟨q1,q2,_,_,_⟩:=Sp V i j v B rows hL hrow hij hj hfit hB;have hv1:=NI hL hrow hV1 zo;have hv2:=NI q1 q2 hV1 zo;unfold jA at h0⊢;rw[hv1,if_neg zo,Int.toNat_natCast]at h0;rw[hv2,if_neg zo,Int.toNat_natCast];have hne:bM V (dA rows)≠0:=by intro h;rw[if_pos h]at h0;cases h0
 rw[aqb V i j v B rows hV1 tC hL hrow hij hj hv hfit hB,if_neg (λh=>hne (aqc h))]
def oZ (n:Nat)(second:Bool)(rows:List (List Raw)):List (List Raw):=
 tG rows (ia (gy rows n) (n+1)).1 (ia (gy rows n) (n+1)).2.1 (if second then(ia (gy rows n) (n+1)).1 else(ia (gy rows n) (n+1)).2.1)
def Rw (n B:Nat)(rows:List (List Raw)):Prop:=rows.length=n+1/\(∀r∈rows,r.length=n)/\∀r∈rows,∀c∈r,Fit B c
def ap9 {n B:Nat}{rows:List (List Raw)}(h:Rw n B rows)(hn:1<=n)(hB:B<=10000000)(s:Bool):Rw n (B+3) (oZ n s rows):=by obtain⟨h1,h2,h3⟩:=h;have hF:=MZ (gy rows n) (n+1) zo;obtain⟨q1,q2,q3,_,_⟩:=Sp n (ia (gy rows n) (n+1)).1 (ia (gy rows n) (n+1)).2.1 (if s then(ia (gy rows n) (n+1)).1 else(ia (gy rows n) (n+1)).2.1) B rows h1 h2 hF.1 zo h3 hB;exact⟨q1,q2,q3⟩
end Go.Proofs.YtpfgffadgkkedaaGreatDoor
namespace Go.Proofs.YtpfgffadgkkedaaGreatDoor
def fc (x:Dyadic):Nat->Dyadic
 |0=>1
 |n+1=>fc x n*x
def av3 :Sm 1 (1:Dyadic):=by
 have e:(1:Dyadic)=Dyadic.ofIntWithPrec 1 0:=by decide+kernel
 rw[e];exact⟨1*2^1,(qK 1 1 0).symm,by decide⟩
def UV {B:Nat}{x:Dyadic}(h:Sm B x)(n:Nat):Sm (B*n+1) (fc x n):=by
 induction n with
 |zero=>exact av3
 |succ n ih=>exact(Sm.mul ih h).mono (by rw[Nat.mul_succ];omega)
def fU (X:Nat->Dyadic)(c:Dyadic)(l:List UInt8):Nat->Dyadic
 |0=>c
 |k+1=>fU X c l k*fc (X k) (l.getD k 0).toNat
def zT :Trm:=([],false,[],0)
def ml (X:Nat->Dyadic)(n:Nat)(ts:List Trm):Nat->Dyadic
 |0=>0
 |k+1=>ml X n ts k+fU X (dval (ts.getD k zT).2) (ts.getD k zT).1 n
def aeZ {X:Nat->Dyadic}{c:Dyadic}{l:List UInt8}{B C:Nat}(hc:Sm C c)(hl:∀x∈l,x.toNat<=127)(k:Nat)(hX:∀j,j<k->Sm B (X j)):Sm (C+k* (127*B+1)) (fU X c l k):=by
 induction k with
 |zero=>exact hc.mono zo
 | succ k ih=>
   have h1:=ih (λj hj=>hX j zo);have h2:(l.getD k 0).toNat<=127:=by
    rw[List.getD_eq_getElem?_getD];by_cases hk:k<l.length
    . rw[List.getElem?_eq_getElem hk];exact hl _ (List.getElem_mem hk)
    . rw[List.getElem?_eq_none zo];decide
   have h3:=UV (hX k zo) (l.getD k 0).toNat;have h4:B* (l.getD k 0).toNat<=B*127:=Nat.mul_le_mul_left _ h2;refine(Sm.mul h1 h3).mono ?_;rw[Nat.add_mul,Nat.one_mul];omega
def aab {X:Nat->Dyadic}{n:Nat}{ts:List Trm}{D:Nat}(h:∀k,k<ts.length->Sm D (fU X (dval (ts.getD k zT).2) (ts.getD k zT).1 n))(k:Nat)(hk:k<=ts.length):Sm (D+k) (ml X n ts k):=by
 induction k with
 |zero=>exact Sm.zero _
 |succ k ih=>exact Sm.add (ih zo) ((h k zo).mono (Nat.le_add_right _ _))
def bG (f:List UInt8->Dyadic):List Trm->Dyadic
 |[]=>0
 |x::l=>dval x.2*f x.1+bG f l
def Ar (f:List UInt8->Dyadic)(a b:List Trm):bG f (a++b)=bG f a+bG f b:=by
 induction a with
 |nil=>simp[bG]
 |cons x a ih=>simp only[List.cons_append,bG,ih];grind
def aoE (f:List UInt8->Dyadic)(a b:List Trm):bG f (gv a b)=bG f a+bG f b:=by
 obtain⟨n,hn⟩:=az (a.length+b.length);induction n using Nat.strongRecOn generalizing a b with
 | _ n ih=>
   cases a with
   |nil=>rw[Bt];simp[bG]
   | cons x a=>cases b with
     |nil=>rw[Bu];simp[bG]
     | cons y b=>
       rw[wY];simp only[List.length_cons]at hn;split
       . have:=ih _ (by simp only[List.length_cons];omega) a (y::b) rfl;simp only[bG]at this⊢;rw[this];grind
       . split
         . have:=ih _ (by simp only[List.length_cons];omega) (x::a) b rfl;simp only[bG]at this⊢;rw[this];grind
         . rename_i h1 h2
           have:=ih _ zo a b rfl;have e:x.1=y.1:=CO (by simpa using h1) (by simpa using h2);simp only[bG,Nz,bA]at this⊢;rw[this,e];grind
def aoH (f:List UInt8->Dyadic)(l:List Trm):bG f (gz l)=bG f l:=
 Jg (Q:=λl r=>bG f r=bG f l) (λ_ _=>rfl) (λa b c d h1 h2=>by rw[aoE,Ar,h1,h2]) l
def xU (f:List UInt8->Dyadic)(l:List Trm):bG f (aS l)=bG f l:=by
 have h1:∀l,bG f (l.map λx=>(x.1,canon (dval x.2)))=bG f l:=λl=>by
  induction l with
  |nil=>rfl
  |cons x l ih=>simp only[List.map_cons,bG,ih,bA]
 have h2:∀l,bG f (l.filter gw)=bG f l:=λl=>by
  induction l with
  |nil=>rfl
  | cons x l ih=>
    rw[List.filter_cons];split
    . simp only[bG,ih]
    . rename_i h
      have h0:dval x.2=0:=Classical.byContradiction λhc=>h (by unfold gw;rw[(xS _).2 hc];rfl);simp only[bG,ih,h0];grind
 unfold aS;rw[h1,h2,aoH]
def fp (X:Nat->Dyadic)(n:Nat)(l:List UInt8):Dyadic:=fU X 1 l n
def as8 (X:Nat->Dyadic)(c:Dyadic)(l:List UInt8)(n:Nat):fU X c l n=c*fU X 1 l n:=by
 induction n with
 |zero=>show c=c*1;grind
 |succ n ih=>rw[fU,fU,ih];grind
def Lu (X:Nat->Dyadic)(n:Nat)(ts:List Trm)(k:Nat)(hk:k<=ts.length):ml X n ts k=bG (fp X n) (ts.take k):=by
 induction k with
 |zero=>rfl
 | succ k ih=>
   have hk':k<ts.length:=by omega
   have e:ts.getD k zT=ts[k]:=by simp[List.getD_eq_getElem?_getD,hk']
   rw[ml,ih zo,List.take_succ_eq_append_getElem hk',Ar,e,as8];simp only[bG,fp];grind
def as9 (X:Nat->Dyadic)(n k:Nat):fU X 1 (lJ n) k=1:=by
 induction k with
 |zero=>rfl
 | succ k ih=>
   have e:(lJ n).getD k 0=0:=by unfold lJ;rw[List.getD_eq_getElem?_getD,List.getElem?_replicate];split<;>rfl
   rw[fU,ih,e];show 1*fc (X k) 0=1;show(1:Dyadic) *1=1;grind
def ae0 (X:Nat->Dyadic)(n j k:Nat)(hk:k<=n)(hj:j<n):fU X 1 (cF n j) k=if j<k then X j else 1:=by
 induction k with
 |zero=>rfl
 | succ k ih=>
   have e:((cF n j).getD k 0).toNat=if k=j then 1 else 0:=by
    unfold cF;rw[List.getD_eq_getElem?_getD,List.getElem?_set];by_cases h:j=k
    . subst h;rw[if_pos rfl,if_pos (by simpa using hj),if_pos rfl];rfl
    . rw[if_neg h,List.getElem?_replicate,if_pos zo,if_neg (λh2=>h h2.symm)];rfl
   rw[fU,ih zo,e];by_cases h:k=j
   . subst h;rw[if_neg zo,if_pos rfl,if_pos zo];show 1* (1*X k)=X k;grind
   . rw[if_neg h];by_cases h2:j<k
     . rw[if_pos h2,if_pos zo];show X j*1=X j;grind
     . rw[if_neg h2,if_neg zo];show(1:Dyadic) *1=1;grind
def fX (a b:List UInt8):List UInt8:=List.zipWith (λx y=>UInt8.ofNat (x.toNat+y.toNat)) a b
def CJ (a b:List UInt8)(n:Nat)(ha:a.length=n)(hb:b.length=n):(fX a b).length=n:=by simp[fX,ha,hb]
def Qu (a b:List UInt8)(i:Nat)(h:i<(fX a b).length)(hs:(a.getD i 0).toNat+(b.getD i 0).toNat<=255):((fX a b)[i]).toNat=(a.getD i 0).toNat+(b.getD i 0).toNat:=by
 have h1:i<a.length:=by simp[fX]at h;omega
 have h2:i<b.length:=by simp[fX]at h;omega
 simp only[fX,List.getElem_zipWith];simp only[List.getD_eq_getElem?_getD,List.getElem?_eq_getElem h1,List.getElem?_eq_getElem h2,Option.getD_some]at hs⊢;simp;omega
def YJ (a b:List UInt8)(n:Nat)(ha:a.length=n)(hb:b.length=n)(hs:∀i,i<n->(a.getD i 0).toNat+(b.getD i 0).toNat<=127):∀c∈fX a b,c.toNat<=127:=λc hc=>by
 obtain⟨i,hi,rfl⟩:=List.mem_iff_getElem.1 hc;have hi':i<n:=by rw[CJ a b n ha hb]at hi;exact hi
 rw[Qu a b i hi (by have:=hs i hi';omega)];exact hs i hi'
abbrev gA (l:List UInt8):Nat:=(l.map UInt8.toNat).sum
def zn (l:List UInt8)(i:Nat):(l.getD i 0).toNat<=gA l:=by
 induction l generalizing i with
 |nil=>simp
 | cons c l ih=>
   unfold gA;rw[List.map_cons,List.sum_cons];cases i with
   |zero=>simp
   |succ i=>have:=ih i;unfold gA at this;simp only[List.getD_cons_succ];omega
def alj (a b:List UInt8)(n:Nat)(ha:a.length=n)(hb:b.length=n)(h:gA a+gA b<=127):gA (fX a b)=gA a+gA b:=by
 induction a generalizing b n with
 | nil=>
   obtain rfl:n=0:=by simpa using ha.symm
   obtain rfl:b=[]:=List.eq_nil_of_length_eq_zero hb;rfl
 | cons x a ih=>cases b with
   |nil=>simp at ha hb;omega
   | cons y b=>
     simp only[gA,List.map_cons,List.sum_cons]at h;have h1:=ih b a.length rfl (by simp at ha hb;omega) (by unfold gA;omega);unfold gA at h1⊢;have e:fX (x::a) (y::b)=UInt8.ofNat (x.toNat+y.toNat)::fX a b:=rfl;have e2:(UInt8.ofNat (x.toNat+y.toNat)).toNat=x.toNat+y.toNat:=by simp;omega
     rw[e,List.map_cons,List.sum_cons,h1,e2,List.map_cons,List.sum_cons,List.map_cons,List.sum_cons];omega
def fQ (ta tb:List Trm):List Trm:=ta.flatMap λx=>tb.map λy=>(fX x.1 y.1,canon (dval x.2*dval y.2))
def Nc (ta tb:List Trm):(fQ ta tb).length=ta.length*tb.length:=by
 unfold fQ;rw[List.length_flatMap];induction ta with
 |nil=>simp
 |cons x ta ih=>rw[List.map_cons,List.sum_cons,ih,List.length_map,List.length_cons,Nat.succ_mul];omega
def Ut {ta tb:List Trm}{t:Trm}(h:t∈fQ ta tb):∃x∈ta,∃y∈tb,t=(fX x.1 y.1,canon (dval x.2*dval y.2)):=by unfold fQ at h;obtain⟨x,hx,h⟩:=List.mem_flatMap.1 h;obtain⟨y,hy,e⟩:=List.mem_map.1 h;exact⟨x,hx,y,hy,e.symm⟩
def Uu {A B:Nat}{ta tb:List Trm}(ha:∀t∈ta,Sm A (dval t.2))(hb:∀t∈tb,Sm B (dval t.2)):∀t∈fQ ta tb,Sm (A+B) (dval t.2):=λt ht=>by obtain⟨x,hx,y,hy,rfl⟩:=Ut ht;rw[bA];exact Sm.mul (ha x hx) (hb y hy)
def wU {l:List UInt8}{V:Nat}(h:cJ l (V:Int)=true):l.length=V/\∀c∈l,c.toNat<=127:=by unfold cJ at h;simp only[Bool.and_eq_true,List.all_eq_true,decide_eq_true_eq]at h;exact⟨by have:=h.2;omega,h.1⟩
def asW {l:List UInt8}{V:Nat}(h1:l.length=V)(h2:∀c∈l,c.toNat<=127):cJ l (V:Int)=true:=by unfold cJ;simp only[Bool.and_eq_true,List.all_eq_true,decide_eq_true_eq];exact⟨h2,by omega⟩
def DegT (V d:Nat)(ts:List Trm):Prop:=∀t∈ts,cJ t.1 (V:Int)=true/\gA t.1<=d
def DegT.mul {V d e:Nat}{ta tb:List Trm}(ha:DegT V d ta)(hb:DegT V e tb)(h:d+e<=127):DegT V (d+e) (fQ ta tb):=λt ht=>by
 obtain⟨x,hx,y,hy,rfl⟩:=Ut ht;obtain⟨h1,h2⟩:=ha x hx;obtain⟨h3,h4⟩:=hb y hy;have l1:=(wU h1).1;have l2:=(wU h3).1;refine⟨asW (CJ _ _ V l1 l2) (YJ _ _ V l1 l2 (λi _=>?_)),?_⟩
 . have:=zn x.1 i;have:=zn y.1 i;omega
 . have:=alj x.1 y.1 V l1 l2 zo;show gA (fX x.1 y.1)<=_;omega
def DegT.clean {V d:Nat}{ts:List Trm}(h:DegT V d ts):DegT V d (aS ts):=λt ht=>by obtain⟨y,hy,e⟩:=Zj _ t ht;rw[<-e];exact h y hy
def DegT.append {V d:Nat}{a b:List Trm}(ha:DegT V d a)(hb:DegT V d b):DegT V d (a++b):=λt ht=>by
 rcases List.mem_append.1 ht with h|h
 . exact ha t h
 . exact hb t h
def DegT.mono {V d e:Nat}{a:List Trm}(ha:DegT V d a)(h:d<=e):DegT V e a:=λt ht=>⟨(ha t ht).1,Nat.le_trans (ha t ht).2 h⟩
def au0 (x:Dyadic)(a b:Nat):fc x (a+b)=fc x a*fc x b:=by
 induction b with
 |zero=>show fc x a=fc x a*1;grind
 |succ b ih=>rw[<-Nat.add_assoc,fc,ih,fc];grind
def as7 (X:Nat->Dyadic)(n:Nat)(a b:List UInt8)(ha:a.length=n)(hb:b.length=n)(h:gA a+gA b<=127)(k:Nat):fU X 1 (fX a b) k=fU X 1 a k*fU X 1 b k:=by
 induction k with
 |zero=>show(1:Dyadic)=1*1;grind
 | succ k ih=>
   have h1:=zn a k;have h2:=zn b k;have e:((fX a b).getD k 0).toNat=(a.getD k 0).toNat+(b.getD k 0).toNat:=by
    by_cases hk:k<n
    . have hk2:k<(fX a b).length:=by rw[CJ a b n ha hb];exact hk
      rw[<-Qu a b k hk2 zo];simp[hk2]
    . rw[List.getD_eq_getElem?_getD,List.getElem?_eq_none (by rw[CJ a b n ha hb];omega),List.getD_eq_getElem?_getD,List.getElem?_eq_none zo,List.getD_eq_getElem?_getD,List.getElem?_eq_none zo];rfl
   rw[fU,fU,fU,ih,e,au0];grind
def aoF (X:Nat->Dyadic)(V d e:Nat)(ta tb:List Trm)(ha:DegT V d ta)(hb:DegT V e tb)(h:d+e<=127):bG (fp X V) (fQ ta tb)=bG (fp X V) ta*bG (fp X V) tb:=by
 induction ta with
 |nil=>show(0:Dyadic)=0*_;grind
 | cons x ta ih=>
   have h1:=ha x zm;have l1:=(wU h1.1).1;have hx:bG (fp X V) (tb.map λy=>(fX x.1 y.1,canon (dval x.2*dval y.2)))=dval x.2*fp X V x.1*bG (fp X V) tb:=by
    clear ih;induction tb with
    |nil=>show(0:Dyadic)=_*0;grind
    | cons y tb ih2=>
      have h2:=hb y zm;have l2:=(wU h2.1).1;rw[List.map_cons,bG,bG,ih2 (λt ht=>hb t (by simp[ht])),bA];show _*fU X 1 (fX x.1 y.1) V+_=_
      rw[as7 X V x.1 y.1 l1 l2 (by have:=h1.2;have:=h2.2;omega)];unfold fp;grind
   have ec:fQ (x::ta) tb=(tb.map λy=>(fX x.1 y.1,canon (dval x.2*dval y.2)))++fQ ta tb:=rfl;rw[ec,Ar,hx,ih (λt ht=>ha t (by simp[ht])),bG];grind
end Go.Proofs.YtpfgffadgkkedaaGreatDoor
namespace Go.Proofs.YtpfgffadgkkedaaGreatDoor
open Go.RowKit
attribute [local go_sem ↓] Go.wp_at_zero Go.wp_at_succ
def Bv (w:World)(x:Value)(n v:Nat):Prop:=v<2^n/\((x=.slice none 0 0/\n=0)\/∃b o cap,x=.slice (some ⟨b,o,none⟩) n cap/\n<=cap/\∀j,j<n->w.cell? ⟨b,o+j,none⟩=some (.int .u8 (bd v j:Int)))
def Bv.below {w w':World}{x:Value}{n v:Nat}(h:Bv w x n v)(hb:Bw w w'):Bv w' x n v:=by
 refine⟨h.1,?_⟩;rcases h.2 with h|⟨b,o,cap,e,h1,hc⟩
 . exact .inl h
 . exact .inr ⟨b,o,cap,e,h1,λj hj=>cell_later hb (hc j hj)⟩
def Bv.aBc {w:World}{base:Nat}{e:TypeId}{x:Value}{n v:Nat}(h:w.ownsRow base e 1 x n (dt n (bd v)))(hx:v<2^n):Bv w x n v:=by
 refine⟨hx,?_⟩;rcases h.2 with⟨rfl,rfl⟩ |⟨g,cap,cur,rfl,hb,hg,h2,h3,h4,h5⟩
 . exact .inl ⟨rfl,rfl⟩
 . refine .inr ⟨g,0,cap,rfl,h2,λj hj=>?_⟩;have:=h.cells (g:=g) rfl j _ (nQ n (bd v) j hj);have e2:((⟨g,0,none⟩:Addr).add j)=⟨g,j,none⟩:=by simp[Addr.add];omega
   rw[Nat.zero_add,<-e2];exact this
def Bv.aBa {w:World}{b:Nat}{t:TypeId}{n v:Nat}(h:ar w b t (dt n (bd v)))(hv:v<2^n):Bv w (.slice (some ⟨b,0,none⟩) n n) n v:=
 ⟨hv,.inr ⟨b,0,n,rfl,Nat.le_refl _,λj hj=>by rw[Nat.zero_add,h.cell,nQ _ _ _ hj]⟩⟩
def afD (b o n cap v:Nat)(w:World)(hm:n<=1099511627776)(hcap:n<=cap)(hc:∀j,j<n->w.cell? ⟨b,o+j,none⟩=some (.int .u8 (bd v j:Int)))(hv:v<2^n):
 Cl 287 #[.slice (some ⟨b,o,none⟩) n cap] w λe w'=>e=.returned (.slice (some ⟨b,o,none⟩) (bF v) cap)/\w=w':=by
 have Hc:=aj hc;clear hc;have Hv:=aj hv;clear hv;go_enter Tryz.func287,Tryz.ntmps287;go_wp2_with fail;go_loop [3] (λx=>∃k:Nat,k<=n/\v<2^k/\x=af (k:Int)) (λx=>(intOf x).toNat)
 case atStart=>exact⟨n,Nat.le_refl _,Hv.out,rfl⟩
 case round=>
  obtain⟨k,hk,hvk,rfl⟩:=hrel;have oO:=aj hvk;clear hvk;by_cases h0:0<k
  . have hcell:w.cell? ⟨b,o+(k-1),none⟩=some (.int .u8 (bd v (k-1):Int)):=Hc.out _ zo;have aU:=yJ n cap (k-1) ((k:Int)-1) (rfl:(some ⟨b,o,none⟩:Option Addr)=_) zo zo;rw[Nat.mul_one]at aU;by_cases hd:bd v (k-1)=0
    . have hd':((bd v (k-1):Int)==0)=true:=by simp[hd]
      have Hd:=aj hd;clear hd;go_wp2;refine⟨⟨k-1,by omega,?_,by go_num⟩,by simp[intOf];omega⟩;refine amm ?_ Hd.out;rw[show k-1+1=k by omega];exact oO.out
    . have hd':((bd v (k-1):Int)==0)=false:=by simp[hd]
      have Hd:=aj hd;clear hd;go_wp2;go_ret;have e:bF v=k:=by have:=al2 (v:=v) (k:=k-1) (by rw[show k-1+1=k by omega];exact oO.out) (aml Hd.out);omega
      rw[e];exact⟨rfl,rfl⟩
  . obtain rfl:k=0:=by omega
    go_wp2;go_ret;have e:bF v=0:=by have:=oO.out;simp at this;subst this;rfl
    rw[e];exact⟨rfl,rfl⟩
def afE (w:World):
 Cl 287 #[.slice none 0 0] w λe w'=>e=.returned (.slice none 0 0)/\w=w':=by
 go_enter Tryz.func287,Tryz.ntmps287;go_wp2_with fail;refine wp_loop_rounds 1 ?_;rw[rounds_succ];go_wp2;go_ret;exact⟨rfl,rfl⟩
def FI (x:Value)(lo:Nat):Prop:=∀b o n c,x=.slice (some ⟨b,o,none⟩) n c->lo<=b
def Vd (x:Value)(n v:Nat)(w:World)(hm:n<=1099511627776)(hx:Bv w x n v):
 Cl 287 #[x] w λe w'=>(∃y,e=.returned y/\Bv w y (bF v) v/\∀lo,FI x lo->FI y lo)/\w=w':=by
 have hl:=im hx.1;rcases hx.2 with⟨rfl,rfl⟩ |⟨b,o,cap,rfl,h1,hc⟩
 . refine(afE w).mono ?_;rintro e w' ⟨rfl,rfl⟩;exact⟨⟨_,rfl,⟨sQ v,.inl ⟨rfl,by omega⟩⟩,λ_ h=>h⟩,rfl⟩
 . refine(afD b o n cap v w hm h1 hc hx.1).mono ?_;rintro e w' ⟨rfl,rfl⟩;exact⟨⟨_,rfl,⟨sQ v,.inr ⟨b,o,cap,rfl,by omega,λj hj=>hc j zo⟩⟩,λlo h b' o' n' c' e=>by cases e;exact h _ _ _ _ rfl⟩,rfl⟩
def avF (b o n cap v:Nat)(w:World)(hm:n<=1099511627776)(hcap:n<=cap)(hc:∀j,j<n->w.cell? ⟨b,o+j,none⟩=some (.int .u8 (bd v j:Int)))(hv:v<2^n):
 Cv 263 #[.slice (some ⟨b,o,none⟩) n cap] w (ah (nt v)):=by
 have hle:=im hv;have hcut:=afD b o n cap v w hm hcap hc hv;have hvl:=sQ v;have nV:Hid ((List.range ((bF v+7)/8)).map (λj=>UInt8.ofNat (v/256^((bF v+7)/8-1-j)%256))=nt v):=Uz _ _ (FQ v).1 (FQ v).2;generalize hL:bF v=L at*;obtain⟨nb,hnb⟩:=az ((L+7)/8);have hmk:=wW (((L:Int)+7)/8) nb zo zo;have Tb:((L:Int)+7)/8=(nb:Int):=by omega
 rw[Tb]at hmk;rw[hnb]at nV;obtain⟨aiv,Hc,Hv,sK,HL⟩:=dY hcut hc hv hvl hL;clear hcut hc hv hvl hL;go_enter Tryz.func263,Tryz.ntmps263;go_wp2_with fail;refine aiv.out.mono ?_;rintro e w' ⟨rfl,rfl⟩;go_wp2_with fail;go_loopw[4] (λi wr=>∃k:Nat,k<=L/\i=af (k:Int)/\ar wr w.heap.size 5 (dt nb (λj=>v%2^k/256^(nb-1-j)%256))/\Bw w wr) (λi _=>L-(intOf i).toNat);case atStart=>
  refine⟨0,Nat.zero_le _,rfl,?_,zl⟩;have e:dt nb (λj=>v%2^0/256^(nb-1-j)%256)=dt nb λ_=>0:=oH λj hj=>by simp[Nat.mod_one]
  rw[e];exact ar.new _ _ _
 case round=>
  obtain⟨k,hk,rfl,hB,hb⟩:=hrel;by_cases hlt:k<L
  . have hq:k/8<nb:=by omega
    obtain⟨Z,hZ⟩:=az (bd v k);have hZ1:Z<=1:=by rw[<-hZ];exact uE v k
    have kZ:wr.cell? ⟨b,o+k,none⟩=some (.int .u8 (Z:Int)):=by rw[<-hZ];exact cell_later hb (Hc.out _ zo)
    obtain⟨A,hA⟩:=az (v%2^k/256^(k/8)%256);have hcell:wr.cell? ⟨w.heap.size,nb-1-k/8,none⟩=some (.int .u8 (A:Int)):=by rw[hB.cell,nQ _ _ _ zo,show nb-1-(nb-1-k/8)=k/8 by omega,hA]
    have hfree:wr.frozen? ⟨w.heap.size,nb-1-k/8,none⟩=false:=hB.free _;obtain⟨hb1,hb2⟩:=amr v k;rw[hA,hZ]at hb1 hb2;have bQ:=hB.set (nb-1-k/8) (.int .u8 ((A+Z*2^(k%8):Nat):Int));have hb3:=hb.setCell (p:=⟨w.heap.size,nb-1-k/8,none⟩) (Nat.le_refl _) (.int .u8 ((A+Z*2^(k%8):Nat):Int))
    rw[Ex,oH (g:=λj=>v%2^(k+1)/256^(nb-1-j)%256) λj hj=>by
     by_cases ov:j=nb-1-k/8
     . subst ov;rw[if_pos rfl,show nb-1-(nb-1-k/8)=k/8 by omega,hb1]
     . rw[if_neg ov,ams v k _ zo]]at bQ
    obtain⟨eD,Hb⟩:=aI bQ hb3;clear hB hb bQ hb3 hb1 hA hZ;have He:Hid ((((A:Int)+(Z:Int) *2^(k%8))%256)=((A+Z*2^(k%8):Nat):Int)):=by
     show _=_
     have:((Z:Int) *2^(k%8))=((Z*2^(k%8):Nat):Int):=by simp
     rw[this];omega
    clear hb2;go_wp2;go_region
    go_wp2;go_roundw;case rel=>rw[He.out];exact⟨k+1,by omega,by go_num,eD.out,Hb.out.drew⟩
    case measure=>exact bf
  . obtain rfl:k=L:=by omega
    rw[Nat.mod_eq_of_lt sK.out]at hB;have rF:=Ew hB nb;rw[nV.out]at rF;have Hb:=aj hb;clear hb hB;go_wp2;go_ret;exact⟨rfl,Hb.out⟩
def avG (w:World):
 Cv 263 #[.slice none 0 0] w (.string (bs [])):=by
 have hmk:=wW 0 0 rfl zo;have rF:=Ew (ar.new w 5 (dt 0 λ_=>0)) 0;go_enter Tryz.func263,Tryz.ntmps263;go_wp2_with fail;refine(afE w).mono ?_;rintro e w' ⟨rfl,rfl⟩;go_wp2_with fail;refine wp_loop_rounds 1 ?_;rw[rounds_succ];go_wp2;go_ret;exact⟨rfl,zl⟩
def yZ (x:Value)(n v:Nat)(w:World)(hm:n<=1099511627776)(hx:Bv w x n v):
 Cv 263 #[x] w (ah (nt v)):=by
 rcases hx.2 with⟨rfl,rfl⟩ |⟨b,o,cap,rfl,h1,hc⟩
 . have h0:=hx.1;obtain rfl:v=0:=by simpa using h0
   exact avG w
 . exact avF b o n cap v w hm h1 hc hx.1
def agz (n:Nat)(f:Nat->Nat):dt (n+1) f=dt n f++[.int .u8 (f n:Int)]:=by unfold dt;rw[List.range_succ,List.map_append];rfl
def afI (N:Nat)(w:World)(hN:N<WW):
 Cv 218 #[.int .u64 (N:Int)] w (ah (nt N)):=by
 obtain⟨i0,hi,hz0,hz1,hz2⟩:=info_parts Tryz.aBg;have hNb:bF N<=64:=im (by rw[lW]at hN;exact hN);have hW:=jq;go_enter Tryz.func218,Tryz.ntmps218;go_wp2_with fail;go_loopw[0,3] (λu v wr=>∃k:Nat,k<=bF N/\u=.int .u64 ((N/2^k:Nat):Int)/\wr.ownsRow w.heap.size 5 1 v k (dt k (bd N))/\Bw w wr) (λu _ _=>(intOf u).toNat);case atStart=>exact⟨0,Nat.zero_le _,by simp,World.ownsRow_nil _ _ _ _,Below.refl _ _⟩
 case round=>
  obtain⟨k,hk,rfl,hown,hb⟩:=hrel;obtain⟨M,hM⟩:=az (N/2^k);have Gp:M<18446744073709551616:=by have:=Nat.div_le_self N (2^k);omega
  have HM:=aj hM;rw[hM];have Dg:N/2^(k+1)=M/2:=by rw[Nat.pow_succ,<-Nat.div_div_eq_div_mul,hM]
  have iM:bd N k=M%2:=by unfold bd;rw[hM]
  obtain⟨zE,kI⟩:=aI Dg iM;clear hM Dg iM hW hN;by_cases h0:0<M
  . have h01:(0:Int)<(M:Int):=by omega
    have hkl:k<bF N:=by
     rcases Nat.lt_or_ge k (bF N)with h|h
     . exact h
     . have h1:N<2^k:=Nat.lt_of_lt_of_le (sQ N) (Nat.pow_le_pow_right zd h);have:=HM.out;rw[Nat.div_eq_of_lt h1]at this;omega
    have hs0:=hb.size;have pU:=aj hown;clear hown;go_wp2_with (first| (at_builtin;refine wpList_append_own _ rfl _ _ 59 rfl w.heap.size 5 i0 (.int .u8 0) 1 1 Tryz.underlying59 hi hz0 hz1 hz2 rfl zd _ _ _ rfl (pU.out.alloc _) ⟨wr.heap.size,0,none⟩ 1 1 [.int .u8 ((M:Int)%2)] rfl rfl (cell_one_new _ _ _) zy zx zo zi ?_;intro v' w1 ho hg _;obtain⟨Ho,Hg⟩:=aI ho hg;clear ho hg));go_roundw;case rel=>
     refine⟨k+1,by omega,?_,?_,?_⟩
     . rw[zE.out];go_num
     . rw[agz,kI.out];have e:((M%2:Nat):Int)=(M:Int)%2:=by omega
       rw[e];exact Ho.out
     . exact(hb.alloc hs0 _).grown Hg.out zi (λj e=>cK pU.out j e)
    case measure=>exact bf
  . obtain rfl:M=0:=by omega
    have hkN:N<2^k:=by have:=HM.out;exact(Nat.div_eq_zero_iff_lt (Nat.pow_pos zd)).1 this
    obtain⟨Oi,Hb⟩:=aI (Bv.aBc hown hkN) hb;clear hown hkN hb;go_wp2_with fail;refine(yZ u3 k N wr zo Oi.out).mono ?_;rintro e w2 ⟨rfl,hb2⟩;have bY:=aj hb2;clear hb2;go_wp2;go_ret;exact⟨rfl,aC Hb.out bY.out⟩
def Qx (a:Nat)(ha:a<256):bits .and .u8 (a:Int) 1=((a%2:Nat):Int):=by
 have h1:(BitVec.ofInt 8 (a:Int)).toNat=a:=by rw[BitVec.ofInt_natCast,BitVec.toNat_ofNat];exact Nat.mod_eq_of_lt zo
 show IntKind.u8.wrap ((BitVec.ofInt 8 (a:Int)&&&BitVec.ofInt 8 1).toNat:Int)=_
 rw[BitVec.toNat_and,h1,show(BitVec.ofInt 8 1).toNat=1 from rfl,Nat.and_one_is_mod,IntKind.wrap_u8];omega
def uk (l:List UInt8)(w:World)(hl:l.length<=68719476736):
 Cl 264 #[ah l] w λe w'=>(∃y,e=.returned y/\Bv w' y (bF (nv l)) (nv l))/\Bw w w':=by
 obtain⟨i0,hi,hz0,hz1,hz2⟩:=info_parts Tryz.aBg;have hsz:(bs l).size=l.length:=kP l;go_enter Tryz.func264,Tryz.ntmps264;go_wp2_with fail;go_loopw[3,4,5] (λv i _ wr=>∃m:Nat,m<=l.length/\i=af ((l.length:Int)-1-(m:Int))/\wr.ownsRow w.heap.size 5 1 v (8*m) (dt (8*m) (bd (nv l)))/\Bw w wr) (λ_ i _ _=>(intOf i+1).toNat);case atStart=>exact⟨0,Nat.zero_le _,by go_num,World.ownsRow_nil _ _ _ _,Below.refl _ _⟩
 case round=>
  obtain⟨m,hm,rfl,hown,hb⟩:=hrel;obtain⟨pU,Hb⟩:=aI hown hb;clear hown hb;by_cases hlt:m<l.length
  . have hge:(m:Int)<=(l.length:Int)-1:=by omega
    have gY:=uV l ((l.length:Int)-1-(m:Int)) (l.length-1-m) zo zo;have aij:Hid (∀k,k<8->l[l.length-1-m].toNat/2^k%2=bd (nv l) (8*m+k)):=λk hk=>atM l m k hlt hk;have hC:=(l[l.length-1-m]'zo).toNat_lt;generalize hCe:l[l.length-1-m].toNat=C at*;clear hCe;go_wp2_with fail;go_loopw[3,5] (λv j wr=>∃k:Nat,k<=8/\j=af (k:Int)/\wr.ownsRow w.heap.size 5 1 v (8*m+k) (dt (8*m+k) (bd (nv l)))/\Bw w wr) (λ_ j _=>8-(intOf j).toNat);case atStart=>exact⟨0,Nat.zero_le _,rfl,pU.out,Hb.out⟩
    case round=>
     clear pU Hb;obtain⟨k,hk,rfl,hown,hb⟩:=hrel;obtain⟨pU,Hb⟩:=aI hown hb;have hs0:=hb.size;clear hown hb;by_cases AP:k<8
     . obtain ⟨Z,hZ⟩:=az (C/2^k%2);have hbk:=aij.out k AP;rw[hZ]at hbk;have zG:=aj hbk;clear hbk;have hand:bits .and .u8 ((C:Int)/2^k) 1=(Z:Int):=by
        have e:(C:Int)/2^k=((C/2^k:Nat):Int):=by simp
        have:=Nat.div_le_self C (2^k);rw[e,Qx _ zo,hZ]
       clear hZ;go_wp2_with (first| (at_builtin;refine wpList_append_own _ rfl _ _ 59 rfl w.heap.size 5 i0 (.int .u8 0) 1 1 Tryz.underlying59 hi hz0 hz1 hz2 rfl zd _ _ _ rfl (pU.out.alloc _) ⟨wr.heap.size,0,none⟩ 1 1 [.int .u8 (Z:Int)] rfl rfl (cell_one_new _ _ _) zy zx zo zi ?_;intro v' w1 ho hg _;obtain⟨Ho,Hg⟩:=aI ho hg;clear ho hg));go_roundw;case rel=>
        refine⟨k+1,by omega,?_,?_,?_⟩
        . go_num
        . rw[<-Nat.add_assoc,agz,<-zG.out];exact Ho.out
        . exact(Hb.out.alloc hs0 _).grown Hg.out zi (λj e=>cK pU.out j e)
       case measure=>exact bf
     . obtain rfl:k=8:=by omega
       go_wp2;go_roundw;case rel=>exact⟨m+1,by omega,by go_num,pU.out,Hb.out⟩
       case measure=>exact bf
  . obtain rfl:m=l.length:=by omega
    have Oi:=aj (Bv.aBc pU.out (rM l));clear hlt;go_wp2_with fail;refine(Vd u3 (8*l.length) (nv l) wr zo Oi.out).mono ?_;rintro e w2 ⟨⟨y,rfl,hy,_⟩,rfl⟩;have Hy:=aj hy;clear hy;go_wp2;go_ret;exact⟨⟨_,rfl,Hy.out⟩,Hb.out⟩
def Eu (x:Value)(n v i:Nat)(w:World)(hx:Bv w x n v)(hi:i<=1099511627776)(hn:n<=1099511627776):
 Cl 290 #[x,af (i:Int)] w λe w'=>e=.returned (.int .u8 (bd v i:Int))/\w=w':=by
 obtain⟨hv,h⟩:=hx;by_cases hlt:i<n
 . rcases h with⟨rfl,h0⟩ |⟨b,o,cap,rfl,h1,hc⟩
   . omega
   . have hcell:=hc i hlt;have aU:=yJ n cap i (i:Int) (rfl:(some ⟨b,o,none⟩:Option Addr)=_) hlt rfl;rw[Nat.mul_one]at aU;clear hc hv;go_enter Tryz.func290,Tryz.ntmps290;go_wp2;go_ret;exact⟨rfl,rfl⟩
 . have h0:bd v i=0:=alR hv zo;have H0:=aj h0;clear h0 hv;rcases h with⟨rfl,h0⟩ |⟨b,o,cap,rfl,h1,hc⟩
   . subst h0;go_enter Tryz.func290,Tryz.ntmps290;go_wp2;go_ret;exact⟨by rw[H0.out];rfl,rfl⟩
   . clear hc;go_enter Tryz.func290,Tryz.ntmps290;go_wp2;go_ret;exact⟨by rw[H0.out];rfl,rfl⟩
def Bv.len {w:World}{x:Value}{n v:Nat}(h:Bv w x n v):∃a cap,x=.slice a n cap:=by
 rcases h.2 with⟨rfl,rfl⟩ |⟨b,o,cap,rfl,_⟩
 . exact⟨_,_,rfl⟩
 . exact⟨_,_,rfl⟩
def afC (x y:Value)(n m v u:Nat)(w:World)(hx:Bv w x n v)(hy:Bv w y m u)(hn:n<=1099511627776)(hm:m<=1099511627776):
 Cl 288 #[x,y] w λe w'=>e=.returned (af (di v u))/\w=w':=by
 obtain⟨a,cap,pD⟩:=hx.len;obtain⟨a',cap',IB⟩:=hy.len;have ni:=λi (hi:i<=1099511627776)=>Eu x n v i w hx hi hn;have hby:=λi (hi:i<=1099511627776)=>Eu y m u i w hy hi hm;have hv:=hx.1;have hu:=hy.1;subst pD;subst IB;obtain⟨EQ,zI,Hv,Hu⟩:=cE ni hby hv hu;clear ni hby hv hu hx hy;obtain⟨M,hM⟩:=az (max n m);have hMI:max (n:Int) (m:Int)=(M:Int):=by omega
 have bK:Hid (v/2^M=u/2^M):=by
  show _=_
  rw[Nat.div_eq_of_lt (Nat.lt_of_lt_of_le Hv.out (Nat.pow_le_pow_right zd zo)),Nat.div_eq_of_lt (Nat.lt_of_lt_of_le Hu.out (Nat.pow_le_pow_right zd zo))]
 have Gp:M<=1099511627776:=by omega
 clear hM;go_enter Tryz.func288,Tryz.ntmps288;go_wp2_with fail;go_loop [5] (λi=>∃k:Nat,k<=M/\v/2^k=u/2^k/\i=af ((k:Int)-1)) (λi=>(intOf i+1).toNat)
 case atStart=>exact⟨M,Nat.le_refl _,bK.out,rfl⟩
 case round=>
  obtain⟨k,hk,hvk,rfl⟩:=hrel;have oO:=aj hvk;clear hvk;by_cases h0:0<k
  . obtain⟨j,rfl⟩:∃j,k=j+1:=⟨k-1,by omega⟩;have ni:=EQ.out j zo;have hby:=zI.out j zo;obtain⟨uw,Hgt,sf⟩:=bL (λh=>YR (v:=v) (u:=u) oO.out h) (λh=>YR (v:=u) (u:=v) oO.out.symm h) (λh=>alQ (v:=v) (u:=u) oO.out h);have hp1:=uE v j;have hq1:=uE u j;generalize bd v j=p at*;generalize bd u j=q at*;obtain⟨H1,H2⟩:=aI ni hby;clear ni hby;have hj:((j+1:Nat):Int)-1=(j:Int):=by omega
    rw[hj];clear hj h0;go_wp2_with fail;refine H1.out.mono ?_;rintro e w' ⟨rfl,rfl⟩;go_wp2_with fail;refine H2.out.mono ?_;rintro e w' ⟨rfl,rfl⟩;by_cases hpq:p<q
    . have aq2:(p:Int)<(q:Int):=by omega
      go_wp2;go_ret;have:=uw.out hpq;exact⟨by unfold di;rw[if_pos this];rfl,rfl⟩
    . have aq2:¬(p:Int)<(q:Int):=by omega
      go_wp2_with fail;refine H1.out.mono ?_;rintro e w' ⟨rfl,rfl⟩;go_wp2_with fail;refine H2.out.mono ?_;rintro e w' ⟨rfl,rfl⟩;by_cases hqp:q<p
      . have aq5:(q:Int)<(p:Int):=by omega
        go_wp2;go_ret;have:=Hgt.out hqp;exact⟨by unfold di;rw[if_neg zo,if_pos this];rfl,rfl⟩
      . have aq5:¬(q:Int)<(p:Int):=by omega
        go_wp2;refine⟨⟨j,by omega,sf.out zo,by go_num⟩,by simp[intOf]⟩
  . obtain rfl:k=0:=by omega
    have he:v=u:=by simpa using oO.out
    go_wp2;go_ret;exact⟨by unfold di;rw[if_neg zo,if_neg zo];rfl,rfl⟩
def afG (x y:Value)(n m v u:Nat)(w:World)(hx:Bv w x n v)(hy:Bv w y m u)(hn:n<=1099511627776)(hm:m<=1099511627776)(wL:u<=v):
 Cl 289 #[x,y] w λe w'=>(∃z,e=.returned z/\Bv w' z n (v-u)/\FI z w.heap.size)/\Bw w w':=by
 obtain⟨a,cap,pD⟩:=hx.len;obtain⟨a',cap',IB⟩:=hy.len;have ni:=λW (hW:Bw w W) i (hi:i<=1099511627776)=>Eu x n v i W (hx.below hW) hi hn;have hby:=λW (hW:Bw w W) i (hi:i<=1099511627776)=>Eu y m u i W (hy.below hW) hi hm;have vM:Hid (v-u<2^n):=by show _<_;have:=hx.1;omega
 subst pD;subst IB;obtain⟨EQ,zI,Fw⟩:=bL ni hby wL;clear ni hby hx hy wL;have hmk:=wW (n:Int) n rfl zo;go_enter Tryz.func289,Tryz.ntmps289;go_wp2_with fail;go_loopw[6,7,8] (λb i _ wr=>∃k:Nat,k<=n/\i=af (k:Int)/\b=.int .u8 (bb v u k:Int)/\ar wr w.heap.size 5 (dt n (λj=>if j<k then bd (v-u) j else 0))/\Bw w wr) (λ_ i _ _=>n-(intOf i).toNat);case atStart=>
  refine⟨0,Nat.zero_le _,rfl,by rw[alO];rfl,?_,zl⟩;have e:dt n (λj=>if j<0 then bd (v-u) j else 0)=dt n λ_=>0:=oH λj hj=>by rw[if_neg zo]
  rw[e];exact ar.new _ _ _
 case round=>
  obtain⟨k,hk,rfl,rfl,hB,hb⟩:=hrel;by_cases hlt:k<n
  . obtain⟨H1,H2⟩:=aI (EQ.out wr hb k zo) (zI.out wr hb k zo);have hs:=alN v u k;have hd:=alM v u k Fw.out;have hp:=uE v k;have hq:=uE u k;have hr:=YP v u k;have hcell:wr.cell? ⟨w.heap.size,k,none⟩=some (.int .u8 0):=by rw[hB.cell,nQ _ _ _ hlt,if_neg zo];rfl
    have hfree:wr.frozen? ⟨w.heap.size,k,none⟩=false:=hB.free _;have bQ:=hB.set k (.int .u8 ((bd (v-u) k:Nat):Int))
    rw[Ex,oH (g:=λj=>if j<k+1 then bd (v-u) j else 0) λj hj=>by
     by_cases e:j=k
     . subst e;rw[if_pos rfl,if_pos zo]
     . rw[if_neg e];by_cases e2:j<k
       . rw[if_pos e2,if_pos zo]
       . rw[if_neg e2,if_neg zo]]at bQ
    obtain⟨eD,Hb⟩:=aI bQ (hb.setCell (p:=⟨w.heap.size,k,none⟩) (Nat.le_refl _) (.int .u8 ((bd (v-u) k:Nat):Int)));clear hB bQ hb;generalize bd v k=p at*;generalize bd u k=q at*;generalize bb v u k=r at*;generalize bd (v-u) k=z at*;have Hs:=aj hs;clear hs;obtain⟨S,hS⟩:=az (2+p-q-r);have hS3:S<=3:=by omega
    have hw1:IntKind.u8.wrap (2+(p:Int))=2+(p:Int):=by rw[IntKind.wrap_u8];omega
    have hw2:IntKind.u8.wrap (2+(p:Int)-(q:Int))=2+(p:Int)-(q:Int):=by rw[IntKind.wrap_u8];omega
    have hw3:IntKind.u8.wrap (2+(p:Int)-(q:Int)-(r:Int))=(S:Int):=by rw[IntKind.wrap_u8];omega
    have hand:bits .and .u8 (S:Int) 1=(z:Int):=by rw[Qx S zo,<-hd];omega
    obtain⟨HS,Hd⟩:=aI hS hd;clear hS hd;go_wp2_with fail;refine H1.out.mono ?_;rintro e w' ⟨rfl,rfl⟩;go_wp2_with fail;refine H2.out.mono ?_;rintro e w' ⟨rfl,rfl⟩;go_wp2;go_roundw;case rel=>refine⟨k+1,by omega,by go_num,?_,eD.out,Hb.out⟩;rw[Hs.out];have:=HS.out;congr 1;split<;>omega
    case measure=>exact bf
  . obtain rfl:k=n:=by omega
    rw[oH (g:=bd (v-u)) λj hj=>by rw[if_pos hj]]at hB;obtain⟨Hz,Hb⟩:=aI (Bv.aBa hB vM.out) hb;clear hB hb;go_wp2;go_ret;exact⟨⟨_,rfl,Hz.out,λb o n' c e=>by cases e;exact Nat.le_refl _⟩,Hb.out⟩
end Go.Proofs.YtpfgffadgkkedaaGreatDoor
namespace Go.Proofs.YtpfgffadgkkedaaGreatDoor
def axd {rows:List (List Raw)}{B:Nat}(h5:rows.length<=5)(hf:∀r∈rows,∀c∈r,Fit B c)(hv:kE rows≠0):∃m,m+1<=4/\Rw (m+1) B rows:=by obtain⟨c1,c2,c3,c4⟩:=Jo rfl hv;obtain⟨m,hm⟩:∃m:Nat,kE rows=((m+1:Nat):Int):=⟨((kE rows)-1).toNat,by omega⟩;exact⟨m,by omega,by omega,λr hr=>by have:=c4 r hr;omega,hf⟩
def agl {rows:List (List Raw)}{B:Nat}(h5:rows.length<=5)(hf:∀r∈rows,∀c∈r,Fit B c)(h:jA rows=0):∃m,m+1<=4/\Rw (m+1) B rows:=
 axd h5 hf (λh0=>by unfold jA at h;rw[if_pos h0]at h;cases h)
end Go.Proofs.YtpfgffadgkkedaaGreatDoor
namespace Go.Proofs.YtpfgffadgkkedaaGreatDoor
open Go.RowKit
attribute [local go_sem ↓] Go.wp_at_zero Go.wp_at_succ
def axc {n B:Nat}{rows:List (List Raw)}(h:Rw n B rows)(hn:1<=n)(DN:n<=8):kE rows=n:=NI h.1 h.2.1 hn DN
end Go.Proofs.YtpfgffadgkkedaaGreatDoor
