/- Package tri: Size,Check,up to three variables. -/
import Derived.Test.YtpfgffadgkkedaaGreatDoorZ7
import Derived.Test.YtpfgffadgkkedaaGreatDoorZ12
import Derived.Test.YtpfgffadgkkedaaGreatDoorZ11
import Derived.Test.YtpfgffadgkkedaaGreatDoorZ9
import Derived.Test.YtpfgffadgkkedaaGreatDoorZ5
set_option linter.all false
set_option maxRecDepth 100000
set_option maxHeartbeats 16000000
namespace Go.Proofs.YtpfgffadgkkedaaGreatDoor
open Go.RowKit
attribute [local go_sem ↓] Go.wp_at_zero Go.wp_at_succ
def cO (rows:List (List Raw)):Nat->Nat->Dyadic:=λa b=>cm (rows.map λr=>r.map dval) a b
def amW (o p:List Raw)(k:Nat)(h:k<p.length)(h':k<o.length):(jY o p).getD k 0=dval p[k]-dval o[k]:=by unfold jY;rw[List.getD_eq_getElem?_getD,List.getElem?_zipWith];simp[h,h']
def vA (rows:List (List Raw))(a b:Nat)(ha:a<rows.length)(hb:b<rows[a].length):cO rows a b=dval rows[a][b]:=by simp[cO,cm,List.getD_eq_getElem?_getD,ha,hb]
def afy (n:Nat)(rows:List (List Raw))(hL:rows.length=n+1)(hrow:∀r∈rows,r.length=n)(i j:Nat)(hi:i<n)(hj:j<n):
 cm ((rows.drop 1).map λp=>jY (rows.getD 0 []) p) i j=cO rows (i+1) j-cO rows 0 j:=by
 have h0:0<rows.length:=by omega
 have h1:i+1<rows.length:=by omega
 have l0:=hrow _ (List.getElem_mem h0);have l1:=hrow _ (List.getElem_mem h1);rw[vA rows (i+1) j h1 zo,vA rows 0 j h0 zo];have e0:rows.getD 0 []=rows[0]:=by simp[h0]
 have e1:((rows.drop 1).map λp=>jY (rows.getD 0 []) p).getD i []=jY rows[0] rows[i+1]:=by rw[e0,List.getD_eq_getElem?_getD,List.getElem?_map,List.getElem?_drop];rw[show 1+i=i+1 by omega,List.getElem?_eq_getElem h1];rfl
 unfold cm;rw[e1,amW _ _ _ zo zo]
def Ga (n:Nat)(aS:n<=4){e f:Nat->Nat->Dyadic}(h:∀i j,i<n->j<n->e i j=f i j):dJ n e=dJ n f:=by
 have hc:n=0\/n=1\/n=2\/n=3\/n=4:=by omega
 rcases hc with rfl|rfl|rfl|rfl|rfl
 . rfl
 . exact h 0 0 zo zo
 . unfold dJ;simp only;rw[h 0 0 zo zo,h 0 1 zo zo,h 1 0 zo zo,h 1 1 zo zo]
 . unfold dJ;simp only;rw[h 0 0 zo zo,h 0 1 zo zo,h 0 2 zo zo,h 1 0 zo zo,h 1 1 zo zo,h 1 2 zo zo,h 2 0 zo zo,h 2 1 zo zo,h 2 2 zo zo]
 . unfold dJ;simp only;rw[h 0 0 zo zo,h 0 1 zo zo,h 0 2 zo zo,h 0 3 zo zo,h 1 0 zo zo,h 1 1 zo zo,h 1 2 zo zo,h 1 3 zo zo,h 2 0 zo zo,h 2 1 zo zo,h 2 2 zo zo,h 2 3 zo zo,h 3 0 zo zo,h 3 1 zo zo,h 3 2 zo zo,h 3 3 zo zo]
def ZF {B n:Nat}{e:Nat->Nat->Dyadic}(hn:1<=n)(aS:n<=4)(h:∀i j,i<n->j<n->Sm B (e i j)):Sm (4*B+6) (dJ n e):=by
 have m2:∀a b c d:Dyadic,Sm B a->Sm B b->Sm B c->Sm B d->Sm (2*B+1) (a*b-c*d):=λa b c d ha hb hc hd=>(Sm.sub (Sm.mul ha hb) (Sm.mul hc hd)).mono zo;have m3:∀x y:Dyadic,Sm B x->Sm (2*B+1) y->Sm (3*B+1) (x*y):=λx y hx hy=>(Sm.mul hx hy).mono zo;have m4:∀x y z:Dyadic,Sm (3*B+1) x->Sm (3*B+1) y->Sm (3*B+1) z->Sm (3*B+3) (x-y+z):=λx y z hx hy hz=>(Sm.add (Sm.sub hx hy) (hz.mono zo)).mono zo;have m5:∀x y:Dyadic,Sm B x->Sm (3*B+3) y->Sm (4*B+3) (x*y):=λx y hx hy=>(Sm.mul hx hy).mono zo;have hc:n=1\/n=2\/n=3\/n=4:=by omega
 rcases hc with rfl|rfl|rfl|rfl
 . exact(h 0 0 zo zo).mono zo
 . exact(Sm.sub (Sm.mul (h 0 0 zo zo) (h 1 1 zo zo)) (Sm.mul (h 0 1 zo zo) (h 1 0 zo zo))).mono zo
 . unfold dJ;refine(m4 _ _ _ (m3 _ _ ?_ (m2 _ _ _ _ ?_ ?_ ?_ ?_)) (m3 _ _ ?_ (m2 _ _ _ _ ?_ ?_ ?_ ?_)) (m3 _ _ ?_ (m2 _ _ _ _ ?_ ?_ ?_ ?_))).mono zo<;>exact h _ _ zo zo
 . unfold dJ;have m6:∀x y z u:Dyadic,Sm (4*B+3) x->Sm (4*B+3) y->Sm (4*B+3) z->Sm (4*B+3) u->Sm (4*B+6) (x-y+z-u):=λx y z u hx hy hz hu=>(Sm.sub (Sm.add (Sm.sub hx hy) (hz.mono zo)) (hu.mono zo)).mono zo;refine m6 _ _ _ _ (m5 _ _ ?_ (m4 _ _ _ (m3 _ _ ?_ (m2 _ _ _ _ ?_ ?_ ?_ ?_)) (m3 _ _ ?_ (m2 _ _ _ _ ?_ ?_ ?_ ?_)) (m3 _ _ ?_ (m2 _ _ _ _ ?_ ?_ ?_ ?_)))) (m5 _ _ ?_ (m4 _ _ _ (m3 _ _ ?_ (m2 _ _ _ _ ?_ ?_ ?_ ?_)) (m3 _ _ ?_ (m2 _ _ _ _ ?_ ?_ ?_ ?_)) (m3 _ _ ?_ (m2 _ _ _ _ ?_ ?_ ?_ ?_)))) (m5 _ _ ?_ (m4 _ _ _ (m3 _ _ ?_ (m2 _ _ _ _ ?_ ?_ ?_ ?_)) (m3 _ _ ?_ (m2 _ _ _ _ ?_ ?_ ?_ ?_)) (m3 _ _ ?_ (m2 _ _ _ _ ?_ ?_ ?_ ?_)))) (m5 _ _ ?_ (m4 _ _ _ (m3 _ _ ?_ (m2 _ _ _ _ ?_ ?_ ?_ ?_)) (m3 _ _ ?_ (m2 _ _ _ _ ?_ ?_ ?_ ?_)) (m3 _ _ ?_ (m2 _ _ _ _ ?_ ?_ ?_ ?_))))<;>exact h _ _ zo zo
def ZR (X:Dyadic):bg X=0↔X=0:=by
 constructor
 . intro h;have h1:dN X=0:=by
    unfold bg eF at h;by_cases h1:dN X<0
    . rw[if_pos h1]at h;cases h
    . rw[if_neg h1]at h;by_cases h2:dN X=0
      . exact h2
      . rw[if_neg h2]at h;cases h
   have h2:=vw X;rw[h1,xq]at h2;exact h2
 . rintro rfl;rfl
noncomputable def jb (rows:List (List Raw)):Int:=if kI rows=0 then 1 else if bL (kI rows).toNat (cO rows)=0 then 5 else 0
def au0 (a:Option Addr)(cap n:Nat)(rows:List (List Raw))(B:Nat)(X:Dyadic)(w:World)(hn:1<=n)(aS:n<=4)(hL:rows.length=n+1)(hrow:∀r∈rows,r.length=n)(hcap:n+1<=cap)(ha:Tbl w a rows)
 (hfit:∀r∈rows,∀c∈r,Fit B c) (hB:B<=900000) (hT:aB w) (hX:bL n (cO rows)=X):
 Cv 49 #[.slice a (n+1) cap] w (.tuple #[bT X,af 0]):=by
 obtain⟨b,o,rfl⟩:∃b o,a=some ⟨b,o,none⟩:=by
  obtain⟨vals,hvl,hat,_⟩:=ha;rcases hat with h|⟨b,o,h,_⟩
  . rw[h]at hvl;simp at hvl;omega
  . exact⟨b,o,h⟩
 have hv:=JD hL hrow hn zo;obtain⟨S,hS⟩:=au ((rows.drop 1).map λp=>jY (rows.getD 0 []) p);have pV:S.length=n:=by rw[<-hS];simp[hL]
 have uU:∀r∈S,r.length=n:=by
  intro r hr;rw[<-hS]at hr;obtain⟨p,hp,rfl⟩:=List.mem_map.1 hr;have h0:0<rows.length:=by omega
  have e0:rows.getD 0 []=rows[0]:=by simp[h0]
  rw[Lq (by rw[e0,hrow _ (List.mem_of_mem_drop hp),hrow _ (List.getElem_mem h0)]),hrow _ (List.mem_of_mem_drop hp)]
 have uV:∀r∈S,∀d∈r,Sm (B+1) d:=by
  intro r hr d hd;rw[<-hS]at hr;obtain⟨p,hp,rfl⟩:=List.mem_map.1 hr;unfold jY at hd;obtain⟨i,hi,rfl⟩:=List.mem_iff_getElem.1 hd;rw[List.getElem_zipWith];have h0:0<rows.length:=by omega
  have e0:rows.getD 0 []=rows[0]:=by simp[h0]
  refine Sm.sub (hfit p (List.mem_of_mem_drop hp) _ (List.getElem_mem _)).2 (hfit (rows.getD 0 []) ?_ _ (List.getElem_mem _)).2;rw[e0];exact List.getElem_mem h0
 have hent:dJ n (cm S)=X:=by rw[<-hX,CX];refine Ga n aS (λi j hi hj=>?_);rw[<-hS];exact afy n rows hL hrow i j hi hj
 have hvar:=λW=>λ(h:Tbl W (some ⟨b,o,none⟩) rows)=>NG (some ⟨b,o,none⟩) (n+1) cap rows W hL zo h;rw[hv]at hvar;have hrows:=λW=>λ(h:Tbl W (some ⟨b,o,none⟩) rows) (hT:aB W)=>afi b o cap n n rows B W hL zo hcap hn hn zo hrow h hfit zo hT;rw[hS]at hrows;have od:((S.map λr=>r.map canon).map λr=>r.map dval)=S:=by
  rw[List.map_map];have:((λr:List Raw=>r.map dval)∘λr:List Dyadic=>r.map canon)=id:=by
   funext r
   show(r.map canon).map dval=r
   rw[List.map_map];have:(dval∘canon)=id:=funext bu;rw[this];simp
  rw[this];simp
 have oW:=λW a' c'=>λ(h:Tbl W a' (S.map λr=>r.map canon)) (hT:aB W)=>QU a' c' n (S.map λr=>r.map canon) (B+1) S X W hn aS (by simpa using pV) (by
  intro r hr;obtain⟨x,hx,rfl⟩:=List.mem_map.1 hr
  simpa using uU x hx) h (by
  intro r hr c hc;obtain⟨x,hx,rfl⟩:=List.mem_map.1 hr;obtain⟨y,hy,rfl⟩:=List.mem_map.1 hc
  exact(uV x hx y hy).fit zo) zo zo hT od hent
 obtain⟨PX,ajx,ER,Ha,HT⟩:=eD hvar hrows oW ha hT;clear hvar hrows oW ha hT od hent uV uU pV hS hv hX hfit hrow hL;have hn0:¬(n:Int)=0:=by omega
 have Hb:=hbz w;go_enter Tryz.func49,Tryz.ntmps49;go_wp2_with fail;refine cF w (Hb.an trivial) 45 [ag false,.string ⟨#[]⟩,af 0] λW aG ae ai=>?_;have HA:Hid (Tbl W (some ⟨b,o,none⟩) rows):=Ha.out.below ae.2.1.out;have HU:Hid (aB W):=HT.out.below ae.2.1.out;go_wp2_with fail;refine aK (HA.an<|HU.an ae) (PX.out _ HA.out) λw1 ae ai=>?_;go_wp2_with fail;refine(ajx.out _ ae.1.out ae.2.1.out).mono ?_;rintro e w2 ⟨a',c',rfl,hcc,pk,ak⟩;obtain⟨ae,ai⟩:=qX ak ae;have xD:=aj pk;clear pk;go_wp2_with fail;refine aK ae (ER.out _ a' c' xD.out ae.2.1.out) λw3 ae ai=>?_;go_wp2;refine dI (aN w3 (w.heap.size) 0 (bE X)) aR ?_;intro w9 hs0;have ae:=bC hs0 ae;simp only[bD,List.set]at ae;have ai:=qC ae;refine bodyPost_ret (v:=.tuple #[bT X,af 0]) (by simp[results,Tryz.results49,go_sem,ai]) rfl ⟨rfl,ae.2.2.2.1.out⟩
def afP (a:Option Addr)(L cap:Nat)(rows:List (List Raw))(B:Nat)(w:World)(hL:rows.length=L)(hL5:L<=5)(hcap:L<=cap)(ha:Tbl w a rows)
 (hfit:∀r∈rows,∀c∈r,Fit B c) (hB:B<=900000) (hT:aB w):
 Cv 111 #[.slice a L cap] w (af (jb rows)):=by
 obtain⟨R,hR⟩:=au (jb rows);rw[hR];unfold jb at hR;by_cases hv:kI rows=0
 . rw[if_pos hv]at hR;subst hR;have hvar:=λW=>λ(h:Tbl W a rows)=>NG a L cap rows W hL zo h;rw[hv]at hvar;obtain⟨PX,Ha⟩:=aH hvar ha;have hsz:∀W,Bw w W->Cv 49 #[.slice a L cap] W (.tuple #[.agg #[ag false,.string ⟨#[]⟩,af 0],af 1]):=by intro w0 hw0;have uu:=aj (Ha.out.below hw0);clear ha hfit hL hT hv hvar Ha hw0 w;obtain⟨w,TN⟩:∃w,w=w0:=⟨_,rfl⟩;subst TN;have Hb:=hbz w;go_enter Tryz.func49,Tryz.ntmps49;go_wp2_with fail;refine cF w (Hb.an trivial) 45 [ag false,.string ⟨#[]⟩,af 0] λW aG ae ai=>?_;go_wp2_with fail;refine aK ae (PX.out _ (uu.out.below ae.2.1.out)) λw1 ae ai=>?_;go_wp2;refine dI (aN w1 (w.heap.size) 0 [ag false,.string ⟨#[]⟩,af 0]) aR ?_;intro w9 hs0;have ae:=bC hs0 ae;simp only[bD,List.set]at ae;have ai:=qC ae;refine bodyPost_ret (v:=.tuple #[.agg #[ag false,.string ⟨#[]⟩,af 0],af 1]) (by simp[results,Tryz.results49,go_sem,ai]) rfl ⟨rfl,ae.2.1.out⟩
   have sL:=aj hsz;clear hsz hvar ha hfit hL hT hv;have Hb:=hbz w;go_enter Tryz.func111,Tryz.ntmps111;go_wp2_with fail;refine aK (Hb.an trivial) (sL.out _ Hb.out) λw1 ae ai=>?_;have hsz:=ae.1.out.size;obtain⟨W2,ke,aG,ae,ai⟩:=bO w1 ae 45 [ag false,.string ⟨#[]⟩,af 0];go_wp2;refine bodyPost_ret (results_tmp rfl _ _ _) rfl ⟨rfl,?_⟩;exact((ae.2.1.out.setCell zp _).setCell zp _).setCell zp _
 . obtain⟨n,hn⟩:∃n:Nat,kI rows=n:=⟨(kI rows).toNat,by have:=JE rfl hv;omega⟩;rw[if_neg hv,hn,Int.toNat_natCast]at hR;obtain⟨c1,c2,c3,c4⟩:=JE hn zo;obtain rfl:L=n+1:=by omega
   obtain⟨X,hX⟩:=au (bL n (cO rows));rw[hX]at hR;have hsz:=λW=>λ(h:Tbl W a rows) (hT:aB W)=>au0 a cap n rows B X W zo zo zo (λr hr=>by have:=c4 r hr;omega) hcap h hfit hB hT hX;have hXm:Sm (4* (B+1)+6) X:=by
    rw[<-hX,CX];refine ZF zo zo (λi j hi hj=>?_);have h0:0<rows.length:=by omega
    have h1:i+1<rows.length:=by omega
    have l0:=c4 _ (List.getElem_mem h0);have l1:=c4 _ (List.getElem_mem h1);rw[vA rows (i+1) j h1 zo,vA rows 0 j h0 zo];exact Sm.sub (hfit _ (List.getElem_mem h1) _ (List.getElem_mem _)).2 (hfit _ (List.getElem_mem h0) _ (List.getElem_mem _)).2
   have eY:∀W,Cv 27 #[.agg #[ag (az (dN X)),ah (nt (dN X).natAbs),af (dE X)]] W (af (bg X)):=λW=>nV _ _ _ (bg X) (by show bg (dval (canon X))=_;rw[bu]) W (hXm.ok zo);obtain⟨g,hg⟩:=au (bg X);have hgz:R=if g=0 then 5 else 0:=by
    rw[<-hR,<-hg];by_cases h:X=0
    . rw[if_pos h,if_pos ((ZR X).2 h)]
    . rw[if_neg h,if_neg (λh2=>h ((ZR X).1 h2))]
   rw[hg]at eY;obtain⟨sL,jp,Ha,HT,XD⟩:=eD hsz eY ha hT hgz;clear hsz eY ha hT hgz hg hX hR hfit c4 hL;have Hb:=hbz w;go_enter Tryz.func111,Tryz.ntmps111;go_wp2_with fail;refine aK (Hb.an trivial) (sL.out _ (Ha.out.below Hb.out) (HT.out.below Hb.out)) λw1 ae ai=>?_;obtain⟨W2,ke,aG,ae,ai⟩:=bO w1 ae 45 (bE X);go_wp2_with fail;refine aK ae (jp.out _) λw3 ae ai=>?_;by_cases hg0:g=0
   . have hr:=XD.out;rw[if_pos hg0]at hr;subst hr hg0;go_wp2;refine bodyPost_ret (results_tmp rfl _ _ _) rfl ⟨rfl,ae.2.1.out⟩
   . have hr:=XD.out;rw[if_neg hg0]at hr;subst hr;go_wp2;refine bodyPost_ret (results_tmp rfl _ _ _) rfl ⟨rfl,ae.2.1.out⟩
def xu (a b:List UInt8):Int:=if Op.bytesLess a b then-1 else if Op.bytesLess b a then 1 else 0
def auY (l:List UInt8)(s:Bool)(m:List UInt8)(e:Int)(l':List UInt8)(s':Bool)(m':List UInt8)(e':Int)(w:World):
 Cv 231 #[.agg #[ah l,ag s,ah m,af e],.agg #[ah l',ag s',ah m',af e']] w (af (xu l l')):=by
 obtain⟨R,hR⟩:=au (xu l l');unfold xu at hR;rw[show xu l l'=R from hR];obtain⟨W,cd,ae,ai⟩:=kF w 111 [ah l,ag s,ah m,af e] 111 [ah l',ag s',ah m',af e'];cases h1:Op.bytesLess l l' with
 | true=>
   rw[h1]at hR;simp only[if_true]at hR;subst hR;have h2:Op.bytesLess (bs l).toList (bs l').toList=true:=by rw[fY,fY];exact h1
   clear h1;go_enter Tryz.func231,Tryz.ntmps231;go_wp2;go_ret;exact⟨rfl,ae.1.out⟩
 | false=>
   rw[h1]at hR;simp only[Bool.false_eq_true,if_false]at hR;have h2:Op.bytesLess (bs l).toList (bs l').toList=false:=by rw[fY,fY];exact h1
   cases h3:Op.bytesLess l' l with
   | true=>
     rw[h3]at hR;simp only[if_true]at hR;subst hR;have hne:¬l=l':=by rintro rfl;rw[CM]at h3;cases h3
     have h4:((bs l).toList==(bs l').toList)=false:=by rw[fY,fY];simpa using hne
     have h5:¬(bs l).toList=(bs l').toList:=by rw[fY,fY];exact hne
     clear h1 h3 hne;go_enter Tryz.func231,Tryz.ntmps231;go_wp2;go_ret;exact⟨rfl,ae.1.out⟩
   |false=>rw[h3]at hR;simp only[Bool.false_eq_true,if_false]at hR;subst hR;obtain rfl:=CN h1 h3;clear h1 h3;go_enter Tryz.func231,Tryz.ntmps231;go_wp2;go_ret;exact⟨rfl,ae.1.out⟩
def avq (l:List UInt8)(s:Bool)(m:List UInt8)(e:Int)(l':List UInt8)(s':Bool)(m':List UInt8)(e':Int)(S:Dyadic)(B:Nat)(hS:dval (s,m,e)+dval (s',m',e')=S)(w:World)(hx:Fit B (s,m,e))(hy:Fit B (s',m',e'))(hB:B+2<=268435456)(hT:aB w):
 Cv 232 #[.agg #[ah l,ag s,ah m,af e],.agg #[ah l',ag s',ah m',af e']] w (.agg #[ah l,ag (az (dN S)),ah (nt (dN S).natAbs),af (dE S)]):=by
 obtain⟨jd,pH,HS,HT⟩:=cG hx hy hS hT;clear hx hy hS hT;obtain⟨W,cd,ae,ai⟩:=za w 111 [ah l,ag s,ah m,af e] 111 [ah l',ag s',ah m',af e'] 111 [.string ⟨#[]⟩,ag false,.string ⟨#[]⟩,af 0];go_enter Tryz.func232,Tryz.ntmps232;go_wp2_with fail;refine cQ 9 ae (cJ 10 0x12110e0c0b0907050301) ?_;refine bo ?_;refine nC 45 [ag s,ah m,af e,ag s',ah m',af e'] ae λW3 aG ae=>?_;refine bP ae (yb s m e s' m' e' S B HS.out W.heap.size _ 45 _ jd.out pH.out hB ae.1.out ((HT.out.below ae.2.1.out))) λw4 ae=>?_;refine bo ?_;have ai:=qC ae;refine qOp λK hK=>?_;go_simp;refine hK _ _ (λh=>absurd h zd) ?_
 refine cg (aN w4 (w.heap.size+1+1) 0 [ah l,ag (az (dN S)),ah (nt (dN S).natAbs),af (dE S)]) aR ?_;intro w5 hs0;have ae:=bC hs0 ae;simp only[bD,List.set]at ae;have ai:=qC ae;refine cP ae λai=>?_;have Hb:=ae.2.1;have r0:w5.cell? ⟨w.heap.size+1+1,0,none⟩=some (ah l):=ae.2.2.2.2.1.out.cell 0;have r1:w5.cell? ⟨w.heap.size+1+1,1,none⟩=some (ag (az (dN S))):=ae.2.2.2.2.1.out.cell 1;have r2:w5.cell? ⟨w.heap.size+1+1,2,none⟩=some (ah (nt (dN S).natAbs)):=ae.2.2.2.2.1.out.cell 2;have r3:w5.cell? ⟨w.heap.size+1+1,3,none⟩=some (af (dE S)):=ae.2.2.2.2.1.out.cell 3;go_wp2;exact bodyPost_ret (v:=.agg #[ah l,ag (az (dN S)),ah (nt (dN S).natAbs),af (dE S)]) (by simp[results,Tryz.results232,go_sem,r0,r1,r2,r3,ai]) rfl ⟨rfl,cK⟩
def al3 (l:List UInt8)(s:Bool)(m:List UInt8)(e:Int)(w:World)(hx:Ok (s,m,e)):
 Cv 254 #[.agg #[ah l,ag s,ah m,af e]] w (ag (!gy (l,s,m,e))):=by
 obtain⟨g,hg⟩:=au (bg (dval (s,m,e)));have hs:=λW=>nV s m e g hg W hx;have hz:(!gy (l,s,m,e))=decide (g=0):=by unfold gy;rw[hg];by_cases h:g=0<;>simp[h]
 rw[hz];have Hs:=aj hs;clear hs hz hg hx;obtain⟨W,cd,ae,ai⟩:=fJ w 111 [ah l,ag s,ah m,af e];go_enter Tryz.func254,Tryz.ntmps254;go_wp2_with fail;refine aK ae (Hs.out _) λw1 ae ai=>?_;go_wp2;refine bodyPost_ret (results_tmp rfl _ _ _) rfl ⟨?_,ae.1.out⟩;by_cases h:g=0<;>simp[h]
def arO (l:List UInt8)(s:Bool)(m:List UInt8)(e:Int)(V:Int)(bv:Nat)(w:World)(hv:w.cell? ⟨bv,0,none⟩=some (af V))(hl:l.length<=9223372036854775807):
 Cv 204 #[.agg #[ah l,ag s,ah m,af e],.pointer (some ⟨bv,0,none⟩)] w (ag (!df l V)):=by
 have hm:=λW=>Ee l V W hl;obtain⟨t,ht⟩:=au (df l V);rw[ht]at hm⊢;obtain⟨Hm,Hv⟩:=aH hm hv;clear hm ht hv;obtain⟨W,cd,ae,ai⟩:=fJ w 111 [ah l,ag s,ah m,af e];have hv2:=cell_later ae.1.out Hv.out;go_enter Tryz.func204,Tryz.ntmps204;go_wp2_with fail;refine aK ae (Hm.out _) λw1 ae ai=>?_;clear hv2;go_wp2;refine bodyPost_ret (results_tmp rfl _ _ _) rfl ⟨rfl,ae.1.out⟩
def ni {α:Type}(p:α->Bool):List α->Nat->Int
 |[],_=>-1
 |v::l,k=>if p v then(k:Int)else ni p l (k+1)
def adO {α:Type}(p:α->Bool)(l:List α)(k n:Nat)(h:n<l.length):ni p (l.drop n) k=if p l[n]then(k:Int)else ni p (l.drop (n+1)) (k+1):=by rw[List.drop_eq_getElem_cons h];rfl
def adN {α:Type}(p:α->Bool)(l:List α)(k:Nat):decide (0<=ni p l k)=l.any p:=by
 induction l generalizing k with
 |nil=>rfl
 | cons v l ih=>
   unfold ni;rw[List.any_cons];by_cases h:p v=true
   . rw[if_pos h,h,Bool.true_or];simp
   . rw[if_neg h,ih];simp[h]
def adP {α:Type}(p:α->Bool)(l:List α)(k:Nat):(ni p l k= -1/\∀x∈l,p x=false)\/∃i,∃h:i<l.length,ni p l k=((k+i:Nat):Int)/\p l[i]=true/\∀j (hj:j<i),p (l[j]'zo)=false:=by
 induction l generalizing k with
 |nil=>exact .inl ⟨rfl,λx hx=>by cases hx⟩
 | cons v l ih=>
   unfold ni;by_cases h:p v=true
   . rw[if_pos h];exact .inr ⟨0,by simp,rfl,h,λj hj=>by omega⟩
   . rw[if_neg h];rcases ih (k+1)with⟨h1,h2⟩ |⟨i,h1,h2,h3,h4⟩
     . exact .inl ⟨h1,λx hx=>by rcases List.mem_cons.1 hx with rfl|hx;simpa using h;exact h2 x hx⟩
     . refine .inr ⟨i+1,by simpa using h1,by rw[h2];congr 1;omega,by simpa using h3,λj hj=>?_⟩;cases j with
       |zero=>simpa using h
       |succ j=>simpa using h4 j zo
structure Pv where
 V:Int
 a:Option Addr
 n:Nat
 c:Nat
def ib (p:Pv):List Value:=[af p.V,.slice p.a p.n p.c]
def At.azZ {w:World}{a:Option Addr}{ps:List Pv}(h:At w a (ps.flatMap ib))(k:Nat)(hk:k<ps.length){V:Int}{a':Option Addr}{n c:Nat}(hx:ps[k]=⟨V,a',n,c⟩):
 ∃b o,a=some ⟨b,o,none⟩/\aQ w b (o+k*2) [af V,.slice a' n c]:=by
 obtain⟨b,o,hab,hcs⟩:=h.elem (f:=ib) (sz:=2) (λ_=>rfl) zd k hk;refine⟨b,o,hab,λj hj=>?_⟩;have:=hcs j hj;rw[hx]at this;rw[this];unfold ib;rw[List.getElem?_eq_getElem (by simpa using hj)]
def TX (a:Option Addr)(n cap:Nat)(vals:List Trm)(gf:Nat)(lb:Array Value)(p:Trm->Bool)(w:World)(hn:vals.length=n)(hl:n<=1099511627776)(ha:At w a (vals.flatMap aI))
 (eg:∀args w,(callFunc gf args).run Tryz.prog w=.ok (.enter gf args) w)
 (hcl:∀x∈vals,∀W,Bw w W->Cl gf (#[.agg #[ah x.1,ag x.2.1,ah x.2.2.1,af x.2.2.2]]++lb) W λe w'=>e=.returned (ag (p x))/\Bw W w'):
 Cv 251 #[.slice a n cap,.func (.func gf) #[] lb] w (af (ni p vals 0)):=by
 obtain⟨Hn,Ha,fV,lL⟩:=cG hn ha hcl eg;clear hn ha hcl eg;have Hb:=hbz w;go_enter Tryz.func251,Tryz.ntmps251;go_wp2_with fail;go_loopw[5,8] (λ_ i wr=>∃k:Nat,k<=n/\i=af (k:Int)/\ni p vals 0=ni p (vals.drop k) k/\Bw w wr) (λ_ i _=>n-(intOf i).toNat);case atStart=>exact⟨0,Nat.zero_le _,rfl,rfl,Hb.out⟩
 case round=>
  clear Hb;obtain⟨k,hk,rfl,gV,pb⟩:=hrel;obtain⟨oI,Hb⟩:=aH gV pb;clear gV pb;by_cases hlt:k<n
  . have bB:k<vals.length:=by rw[Hn.out];exact hlt
    obtain⟨l,s,m,e,hx⟩:∃l s m e,vals[k]=(l,s,m,e):=⟨_,_,_,_,rfl⟩;obtain⟨b,o,hab,bY⟩:=(Ha.out.below Hb.out).term k bB hx;obtain⟨q0,q1,q2,q3⟩:=bY.w4;have aX:=gX n cap k (k:Int) hab hlt rfl;have hcall:=fV.out _ (List.getElem_mem bB) wr Hb.out;have hstep:=adO p vals k k bB;rw[<-oI.out]at hstep;rw[hx]at hcall hstep;obtain⟨iz,kO⟩:=aH hstep hcall;have pG:=lL.out;clear bY hab hx hstep hcall;go_wp2_with fail;refine kO.out.mono ?_;rintro e9 w1 ⟨rfl,hb1⟩;replace Hb:=aj (aF Hb.out hb1);clear hb1 q0 q1 q2 q3 aX pG;obtain⟨t,ht⟩:=au (p (l,s,m,e));rw[ht]at iz⊢;clear ht;cases t with
    |true=>go_wp2;refine bodyPost_ret (results_tmp rfl _ _ _) rfl ⟨?_,Hb.out⟩;have h:=iz.out;rw[if_pos (by trivial)]at h;rw[h];rfl
    | false=>
      go_wp2;go_roundw;case rel=>exact⟨k+1,by omega,by go_num,by have h:=iz.out;rw[if_neg zd]at h;exact h,Hb.out⟩
      case measure=>exact bi
  . obtain rfl:k=n:=by omega
    go_wp2;refine bodyPost_ret (results_tmp rfl _ _ _) rfl ⟨?_,Hb.out⟩;have h:=oI.out;rw[List.drop_of_length_le (by rw[Hn.out];exact Nat.le_refl _)]at h;rw[h];rfl
def amk (a:Option Addr)(n cap:Nat)(vals:List Trm)(gf:Nat)(lb:Array Value)(p:Trm->Bool)(w:World)(hn:vals.length=n)(hl:n<=1099511627776)(ha:At w a (vals.flatMap aI))
 (eg:∀args w,(callFunc gf args).run Tryz.prog w=.ok (.enter gf args) w)
 (hcl:∀x∈vals,∀W,Bw w W->Cl gf (#[.agg #[ah x.1,ag x.2.1,ah x.2.2.1,af x.2.2.2]]++lb) W λe w'=>e=.returned (ag (p x))/\Bw W w'):
 Cv 203 #[.slice a n cap,.func (.func gf) #[] lb] w (ag (vals.any p)):=by
 have h1:=TX a n cap vals gf lb p w hn hl ha eg hcl;rw[<-adN p vals 0];generalize ni p vals 0=i at*;have H1:=aj h1;clear h1 hcl eg ha hn;have Hb:=hbz w;go_enter Tryz.func203,Tryz.ntmps203;go_wp2_with fail;refine aK (Hb.an trivial) (H1.out) λw1 ae ai=>?_;have Hb:=ae.1;go_wp2;exact bodyPost_ret (v:=ag (decide (0<=i))) (by simp[results,Tryz.results203,go_sem,ai]) rfl ⟨rfl,cK⟩
def aqw (a:Option Addr)(n cap:Nat)(vals:List Pv)(gf:Nat)(lb:Array Value)(p:Pv->Bool)(w:World)(hn:vals.length=n)(hl:n<=1099511627776)(ha:At w a (vals.flatMap ib))
 (eg:∀args w,(callFunc gf args).run Tryz.prog w=.ok (.enter gf args) w)
 (hcl:∀x∈vals,∀W,Bw w W->Cl gf (#[.agg #[af x.V,.slice x.a x.n x.c]]++lb) W λe w'=>e=.returned (ag (p x))/\Bw W w'):
 Cv 224 #[.slice a n cap,.func (.func gf) #[] lb] w (af (ni p vals 0)):=by
 obtain⟨Hn,Ha,fV,lL⟩:=cG hn ha hcl eg;clear hn ha hcl eg;have Hb:=hbz w;go_enter Tryz.func224,Tryz.ntmps224;go_wp2_with fail;go_loopw[5,8] (λ_ i wr=>∃k:Nat,k<=n/\i=af (k:Int)/\ni p vals 0=ni p (vals.drop k) k/\Bw w wr) (λ_ i _=>n-(intOf i).toNat);case atStart=>exact⟨0,Nat.zero_le _,rfl,rfl,Hb.out⟩
 case round=>
  clear Hb;obtain⟨k,hk,rfl,gV,pb⟩:=hrel;obtain⟨oI,Hb⟩:=aH gV pb;clear gV pb;by_cases hlt:k<n
  . have bB:k<vals.length:=by rw[Hn.out];exact hlt
    obtain⟨V,a1,n1,c1,hx⟩:∃V a1 n1 c1,vals[k]=⟨V,a1,n1,c1⟩:=⟨_,_,_,_,rfl⟩;obtain⟨b,o,hab,bY⟩:=(Ha.out.below Hb.out).azZ k bB hx;obtain⟨q0,q1⟩:=bY.w2;have aX:=ue n cap k (k:Int) hab hlt rfl;have hcall:=fV.out _ (List.getElem_mem bB) wr Hb.out;have hstep:=adO p vals k k bB;rw[<-oI.out]at hstep;rw[hx]at hcall hstep;obtain⟨iz,kO⟩:=aH hstep hcall;have pG:=lL.out;clear bY hab hx hstep hcall;go_wp2_with fail;refine kO.out.mono ?_;rintro e9 w1 ⟨rfl,hb1⟩;replace Hb:=aj (aF Hb.out hb1);clear hb1 q0 q1 aX pG;obtain⟨t,ht⟩:=au (p ⟨V,a1,n1,c1⟩);rw[ht]at iz⊢;clear ht;cases t with
    |true=>go_wp2;refine bodyPost_ret (results_tmp rfl _ _ _) rfl ⟨?_,Hb.out⟩;have h:=iz.out;rw[if_pos (by trivial)]at h;rw[h];rfl
    | false=>
      go_wp2;go_roundw;case rel=>exact⟨k+1,by omega,by go_num,by have h:=iz.out;rw[if_neg zd]at h;exact h,Hb.out⟩
      case measure=>exact bi
  . obtain rfl:k=n:=by omega
    go_wp2;refine bodyPost_ret (results_tmp rfl _ _ _) rfl ⟨?_,Hb.out⟩;have h:=oI.out;rw[List.drop_of_length_le (by rw[Hn.out];exact Nat.le_refl _)]at h;rw[h];rfl
def Zn (a:Option Addr)(n cap:Nat)(vals:List Pv)(gf:Nat)(lb:Array Value)(p:Pv->Bool)(w:World)(hn:vals.length=n)(hl:n<=1099511627776)(ha:At w a (vals.flatMap ib))
 (eg:∀args w,(callFunc gf args).run Tryz.prog w=.ok (.enter gf args) w)
 (hcl:∀x∈vals,∀W,Bw w W->Cl gf (#[.agg #[af x.V,.slice x.a x.n x.c]]++lb) W λe w'=>e=.returned (ag (p x))/\Bw W w'):
 Cv 147 #[.slice a n cap,.func (.func gf) #[] lb] w (ag (vals.any p)):=by
 have h1:=aqw a n cap vals gf lb p w hn hl ha eg hcl;rw[<-adN p vals 0];generalize ni p vals 0=i at*;have H1:=aj h1;clear h1 hcl eg ha hn;have Hb:=hbz w;go_enter Tryz.func147,Tryz.ntmps147;go_wp2_with fail;refine aK (Hb.an trivial) (H1.out) λw1 ae ai=>?_;have Hb:=ae.1;go_wp2;exact bodyPost_ret (v:=ag (decide (0<=i))) (by simp[results,Tryz.results147,go_sem,ai]) rfl ⟨rfl,cK⟩
def aeQ (X:Dyadic)(s:Bool)(m:List UInt8)(e:Int)(b:Bool)(h:(canon X==(s,m,e))= !b)(w':World):
 (if az (dN X)=s then if(bs (nt (dN X).natAbs)).toList=(bs m).toList then if dE X=e then Result.ok (Next.value (Value.bool false)) w' else Result.ok (Next.value (Value.bool true)) w' else Result.ok (Next.value (Value.bool true)) w' else Result.ok (Next.value (Value.bool true)) w')=Result.ok (Next.value (Value.bool b)) w':=by
 have ht:∀x y:List UInt8,(bs x).toList=(bs y).toList↔x=y:=λx y=>by rw[fY,fY]
 have hc:(canon X==(s,m,e))=decide (az (dN X)=s/\nt (dN X).natAbs=m/\dE X=e):=by rw[Bool.eq_iff_iff];simp[canon]
 rw[hc]at h;simp only[ht];cases b with
 | false=>
   have h2:az (dN X)=s/\nt (dN X).natAbs=m/\dE X=e:=by simpa using h
   rw[if_pos h2.1,if_pos h2.2.1,if_pos h2.2.2]
 | true=>
   have h2:¬(az (dN X)=s/\nt (dN X).natAbs=m/\dE X=e):=by intro h3;rw[decide_eq_true h3]at h;cases h
   by_cases h3:az (dN X)=s
   . rw[if_pos h3];by_cases h4:nt (dN X).natAbs=m
     . rw[if_pos h4,if_neg (λh5=>h2 ⟨h3,h4,h5⟩)]
     . rw[if_neg h4]
   . rw[if_neg h3]
def Ek (V:Int)(a:Option Addr)(cap N:Nat)(ts:List Trm)(w:World)(hN:ts.length=N)(hn:N<=1048576)(ha:At w a (ts.flatMap aI))(hl:∀t∈ts,t.1.length<=9223372036854775807/\Ok t.2)(hT:aB w):
 Cv 79 #[.agg #[af V,.slice a N cap]] w (af (iu V ts)):=by
 obtain⟨Ha,Hl,HN,lJ⟩:=cG ha hl hN hT;obtain⟨R,hR⟩:=au (iu V ts);unfold iu at hR;rw[hN]at hR;rw[show iu V ts=R by unfold iu;rw[hN];exact hR];have HR:=aj hR;clear ha hl hN hR hT;obtain⟨W,cd,ae,ai⟩:=fJ w 41 [af V,.slice a N cap];go_enter Tryz.func79,Tryz.ntmps79;go_wp2_with fail;refine aK ae (LD V _) λw1 ae ai=>?_;by_cases h1:0<=V/\V<=12
 . by_cases h2:4096<N
   . have h3:(4096:Int)<(N:Int):=by omega
     have hR:=HR.out;rw[if_neg (λh=>h h1),if_pos h2]at hR;clear HR;subst hR;have Hb:=ae.1;go_wp2;exact bodyPost_ret (v:=af 3) (by simp[results,Tryz.results79,go_sem,ai]) rfl ⟨rfl,cK⟩
   . have h3:¬(4096:Int)<(N:Int):=by omega
     have h3d:decide ((4096:Int)<(N:Int))=false:=by simp;omega
     have hR:Hid ((if(List.range N).all (mU V ts)then(0:Int)else 1)=R):=by
      show _=_
      have hR:=HR.out;rw[if_neg (λh=>h h1),if_neg h2]at hR;exact hR
     clear HR;obtain⟨bI,uz⟩:=aH ae.1.out ae.2.1.out;skip
     have p0:w1.cell? ⟨w.heap.size,0,none⟩=some (af V):=uz.out.cell 0;have p1:w1.cell? ⟨w.heap.size,1,none⟩=some (.slice a N cap):=uz.out.cell 1;go_wp2_with fail;go_loopw[16] (λx wr=>∃k:Nat,k<=N/\x=af (k:Int)/\(List.range k).all (mU V ts)=true/\ar wr w.heap.size 41 [af V,.slice a N cap]/\Bw w wr) (λx _=>N-(intOf x).toNat);case atStart=>exact⟨0,Nat.zero_le _,rfl,rfl,uz.out,bI.out⟩
     case round=>
      clear bI uz p0 p1;obtain⟨k,hk,rfl,mY,mA,pb⟩:=hrel;by_cases hlt:k<N
      . have hk2:k<ts.length:=by rw[HN.out];exact hlt
        obtain⟨l,s,m,e,hx⟩:∃l s m e,ts[k]=(l,s,m,e):=⟨_,_,_,_,rfl⟩;obtain⟨b,o,hab,bY⟩:=(Ha.out.below pb).term k hk2 hx;have hl2:l.length<=9223372036854775807/\Ok (s,m,e):=by have:=Hl.out _ (List.getElem_mem hk2);rw[hx]at this;exact this
        have ZX:ts.getD k default=(l,s,m,e):=by simp[hk2,hx]
        have SK:(List.range (k+1)).all (mU V ts)=mU V ts k:=by rw[List.range_succ,List.all_append,mY];simp
        have hbad:mU V ts k=false->R=1:=by intro h;rw[<-hR.out,if_neg];intro h5;rw[List.all_eq_true]at h5;have:=h5 k (List.mem_range.2 hlt);rw[h]at this;cases this
        have qj:mU V ts k=(yh V l (s,m,e)&&(k==0||Op.bytesLess (bs (ts.getD (k-1) default).1).toList (bs l).toList)):=by unfold mU;rw[ZX]
        have aX:=gX N cap k (k:Int) hab hlt rfl;obtain⟨X,hX⟩:=au (dval (s,m,e));obtain⟨sg,jy⟩:=au (bg X);have hgt:yh V l (s,m,e)=(df l V&& !(sg==0)&&(canon X==(s,m,e))):=by unfold yh;rw[hX,jy]
        rw[hgt]at qj;obtain⟨KC,sD,aP,sB,XC,JU,HX⟩:=iX bY hl2 pb qj SK hbad hX;have jp:Hid (bg (dval (s,m,e))=sg):=by show _=_;rw[hX];exact jy
        have Hp:=aj mA;have HU:Hid (aB wr):=lJ.out.below pb;clear bY hl2 qj SK hbad hX jy hgt ZX mA hx;have kM:=aj hab;clear hab;have Hb:=hbz wr;have sz:=pb.size;have Fy:Hid (aQ wr b (o+k*4) [ah l,ag s,ah m,af e]):=KC.out;obtain⟨ae,ai⟩:=qZ (Hp.an<|Fy.an trivial);have HU:Hid (aB wr):=HU.out;have tr3:wr.cell? ⟨b,o+k*4+3,none⟩=some (af e):=ae.2.1.out.cell 3 zm;have tr2:wr.cell? ⟨b,o+k*4+2,none⟩=some (ah m):=ae.2.1.out.cell 2 zm;have tr1:wr.cell? ⟨b,o+k*4+1,none⟩=some (ag s):=ae.2.1.out.cell 1 zm;have tr0:wr.cell? ⟨b,o+k*4,none⟩=some (ah l):=ae.2.1.out.cell 0 zm;have P0:=tr0;have P1:=tr1;have P2:=tr2;have P3:=tr3;obtain⟨W4,kg,aG,ae,ai⟩:=bO wr (Hb.an<|HU.an ae) 111 [ah l,ag s,ah m,af e];clear KC;cases hmv:df l V with
        |false=>have hr:=JU.out (by rw[sB.out,hmv];rfl);subst hr;have tQ:=λW=>Ee l V W (by have:=sD.out.1;omega);rw[hmv]at tQ;have vR:=aj tQ;clear tQ;go_wp2_with fail;refine cQ 999 ae (cJ 36 0x474543413f3d3b39373533312f2d2b2927251e23211d1b19171512110f0d0b0807050301) ?_;refine bo ?_;refine bP ae (vR.out _) λw5 ae=>?_;refine bo ?_;refine cP ae λai=>?_;go_wp2;refine bodyPost_ret (results_tmp rfl _ _ _) rfl ⟨rfl,aF aP.out ae.2.1.out⟩
        | true=>
          have tQ:=λW=>Ee l V W (by have:=sD.out.1;omega);rw[hmv]at tQ;have vR:=aj tQ;clear tQ;by_cases hs0:sg=0
          . have hr:=JU.out (by rw[sB.out,hmv,hs0];rfl);subst hr hs0;go_wp2_with fail;refine cQ 999 ae (cJ 36 0x474543413f3d3b39373533312f2d2b2927251e23211d1b19171512110f0d0b0807050301) ?_;refine bo ?_;refine bP ae (vR.out _) λw5 ae=>?_;refine bo ?_;refine bP ae (nV s m e 0 jp.out _ sD.out.2) λw6 ae=>?_;refine bo ?_;refine cP ae λai=>?_;go_wp2;refine bodyPost_ret (results_tmp rfl _ _ _) rfl ⟨rfl,aF aP.out ae.2.1.out⟩
          . have hs1:(sg==0)=false:=by simpa using hs0
            by_cases hc:canon X=(s,m,e)
            . have hcb:(canon X==(s,m,e))=true:=by simpa using hc
              have hne:=aeQ X s m e false hcb;clear hc;by_cases fG:k=0
              . have hg:=sB.out;rw[hmv,hs1,hcb,fG]at hg;have OX:Hid ((List.range (k+1)).all (mU V ts)=true):=by show _=_;rw[XC.out,fG,hg];rfl
                have hk1:decide (0<k)=false:=by simp;omega
                clear hg hcb fG;go_wp2_with fail;refine cQ 999 ae (cJ 36 0x474543413f3d3b39373533312f2d2b2927251e23211d1b19171512110f0d0b0807050301) ?_;refine bo ?_;refine bP ae (vR.out _) λw5 ae=>?_;refine bo ?_;refine bP ae (nV s m e sg jp.out _ sD.out.2) λw6 ae=>?_;refine bo ?_;refine bP ae (rE s m e X HX.out _ sD.out.2 (qU ae.2.2.1.out)) λw7 ae=>?_;refine bo ?_;refine cP ae λai=>?_;go_wp2;go_roundw;case rel=>exact⟨k+1,by omega,by go_num,OX.out,ae.2.2.2.1.out,aF aP.out ae.2.1.out⟩
                case measure=>exact bi
              . have tP:k-1<ts.length:=by omega
                obtain⟨l',s',m',e',hx'⟩:∃l s m e,ts[k-1]=(l,s,m,e):=⟨_,_,_,_,rfl⟩;obtain⟨b',o',rF,wW⟩:=(Ha.out.below (aF aP.out ae.2.1.out)).term (k-1) tP hx';have hab:=kM.out;rw[hab]at rF;simp only[Option.some.injEq,Addr.mk.injEq,and_true]at rF;obtain⟨rfl,rfl⟩:=rF;have ZY:ts.getD (k-1) default=(l',s',m',e'):=by simp[tP,hx']
                have hg:=sB.out;rw[ZY,hmv,hs1,hcb]at hg;have acu:(k==0)=false:=by simpa using fG
                rw[acu]at hg;have hk1:decide (0<k)=true:=by simp;omega
                have hkw:IntKind.i64.wrap ((k:Int)-1)=((k-1:Nat):Int):=by rw[IntKind.wrap_i64];omega
                have apL:=gX N cap (k-1) ((k-1:Nat):Int) hab zo rfl;obtain⟨kp,SR⟩:=au (k-1);rw[SR]at apL hkw wW;have ayu:kp<N:=by omega
                have ij:Hid (aQ W4 b (o+kp*4) [ah l',ag s',ah m',af e']):=wW;have axb:=aj SR;clear wW fG acu hcb ZY hx' SR hab;cases Ig:Op.bytesLess (bs l').toList (bs l).toList with
                | true=>
                  have OX:Hid ((List.range (k+1)).all (mU V ts)=true):=by show _=_;rw[XC.out,hg];simpa using Ig
                  clear hg;go_wp2_with fail;have Hp:=ae.2.2.2.1;have Ht:=ae.1;have Hb:=ae.2.1;have HU:=ae.2.2.1;obtain⟨ae,ai⟩:=qZ (Hp.an<|Ht.an<|ij.an trivial);have HU:Hid (aB W4):=HU.out;have ae:=Hb.an<|HU.an ae
                  refine cQ 999 ae (cJ 36 0x474543413f3d3b39373533312f2d2b2927251e23211d1b19171512110f0d0b0807050301) ?_;refine bo ?_;refine bP ae (vR.out _) λw5 ae=>?_;refine bo ?_;refine bP ae (nV s m e sg jp.out _ sD.out.2) λw6 ae=>?_;refine bo ?_;refine bP ae (rE s m e X HX.out _ sD.out.2 (qU ae.2.1.out)) λw7 ae=>?_;refine bo ?_;refine cP ae λai=>?_;go_wp2;go_roundw;case rel=>exact⟨k+1,by omega,by go_num,OX.out,ae.2.2.1.out,aF aP.out ae.1.out⟩
                  case measure=>exact bi
                | false=>
                  have hr:=JU.out (by rw[hg];simpa using Ig);subst hr;clear hg;go_wp2_with fail;have Hp:=ae.2.2.2.1;have Ht:=ae.1;have Hb:=ae.2.1;have HU:=ae.2.2.1;obtain⟨ae,ai⟩:=qZ (Hp.an<|Ht.an<|ij.an trivial);have HU:Hid (aB W4):=HU.out;have ae:=Hb.an<|HU.an ae
                  refine cQ 999 ae (cJ 36 0x474543413f3d3b39373533312f2d2b2927251e23211d1b19171512110f0d0b0807050301) ?_;refine bo ?_;refine bP ae (vR.out _) λw5 ae=>?_;refine bo ?_;refine bP ae (nV s m e sg jp.out _ sD.out.2) λw6 ae=>?_;refine bo ?_;refine bP ae (rE s m e X HX.out _ sD.out.2 (qU ae.2.1.out)) λw7 ae=>?_;refine bo ?_;refine cP ae λai=>?_;go_wp2;refine bodyPost_ret (results_tmp rfl _ _ _) rfl ⟨rfl,aF aP.out ae.1.out⟩
            . have hr:=JU.out (by
               rw[sB.out,hmv,hs1];have:(canon X==(s,m,e))=false:=by simpa using hc
               rw[this];rfl)
              subst hr;have hne:=aeQ X s m e true (by simpa using hc);clear hc;go_wp2_with fail;refine cQ 999 ae (cJ 36 0x474543413f3d3b39373533312f2d2b2927251e23211d1b19171512110f0d0b0807050301) ?_;refine bo ?_;refine bP ae (vR.out _) λw5 ae=>?_;refine bo ?_;refine bP ae (nV s m e sg jp.out _ sD.out.2) λw6 ae=>?_;refine bo ?_;refine bP ae (rE s m e X HX.out _ sD.out.2 (qU ae.2.2.1.out)) λw7 ae=>?_;refine bo ?_;refine cP ae λai=>?_;go_wp2;refine bodyPost_ret (results_tmp rfl _ _ _) rfl ⟨rfl,aF aP.out ae.2.1.out⟩
      . obtain rfl:k=N:=by omega
        have hr:R=0:=by rw[<-hR.out,if_pos mY]
        subst hr;go_wp2;refine bodyPost_ret (results_tmp rfl _ _ _) rfl ⟨rfl,pb⟩
 . have hR:=HR.out;rw[if_pos h1]at hR;clear HR;subst hR;have Hb:=ae.1;go_wp2;exact bodyPost_ret (v:=af 1) (by simp[results,Tryz.results79,go_sem,ai]) rfl ⟨rfl,cK⟩
end Go.Proofs.YtpfgffadgkkedaaGreatDoor
namespace Go.Proofs.YtpfgffadgkkedaaGreatDoor
def CY (p:Nat->Nat->Dyadic):Nat->Nat->Dyadic:=λa b=>p (a+1) b-p 0 b
def lU (n:Nat)(e:Nat->Nat->Dyadic)(k i:Nat):Dyadic:=if(k+i)%2=1 then-dJ (n-1) (mE e i k)else dJ (n-1) (mE e i k)
def js (n:Nat)(p:Nat->Nat->Dyadic)(k i:Nat):Dyadic:=lU n (CY p) k i*lD (bL n p)
def wS (n:Nat)(p:Nat->Nat->Dyadic)(x:Nat->Dyadic)(i:Nat):Nat->Dyadic
 |0=>0
 |k+1=>wS n p x i k+(x k-p 0 k) *js n p k i
def awm (n:Nat)(p:Nat->Nat->Dyadic)(x:Nat->Dyadic)(i k:Nat):wS n p x i k=lD (bL n p) *Eb n (CY p) (λk=>x k-p 0 k) i k:=by
 induction k with
 |zero=>simp[wS,Eb]
 |succ k ih=>unfold wS Eb;rw[ih];unfold js lU;generalize (if(k+i)%2=1 then-dJ (n-1) (mE (CY p) i k)else dJ (n-1) (mE (CY p) i k))=z;grind
def Ev (n:Nat)(hn:1<=n)(aS:n<=4)(p:Nat->Nat->Dyadic)(x:Nat->Dyadic)(i:Nat)(hi:i<n):wS n p x i n=fK n p x (i+1):=by rw[awm,aqX n hn aS _ _ i hi];unfold fK;rw[anr];rfl
def wZ (n:Nat)(p:Nat->Nat->Dyadic)(x:Nat->Dyadic):Nat->Dyadic
 |0=>lD (bL n p) *bL n p
 |k+1=>wZ n p x k-fK n p x (k+1)
def awq (n:Nat)(p:Nat->Nat->Dyadic)(x:Nat->Dyadic)(k:Nat):wZ n p x k=lD (bL n p) *bL n p-dF (λi=>fK n p x (i+1)) k:=by
 induction k with
 |zero=>simp[wZ,dF];grind
 |succ k ih=>unfold wZ dF;rw[ih];grind
def VT (n:Nat)(hn:1<=n)(aS:n<=4)(p:Nat->Nat->Dyadic)(x:Nat->Dyadic):wZ n p x n=fK n p x 0:=by rw[awq];unfold fK;rw[avp,awK n hn aS p x];grind
def afw (X:Dyadic):lD X*X=if X<0 then-X else X:=by
 rw[Nr];split
 . grind
 . split<;>grind
def Ll {B n:Nat}{e:Nat->Nat->Dyadic}(aS:n<=4)(h:∀i j,i<n->j<n->Sm B (e i j)):Sm (4*B+6) (dJ n e):=by
 by_cases h0:n=0
 . subst h0;exact Sm.one.mono zo
 . exact ZF zo aS h
def Vt (X:Dyadic):Sm 1 (lD X):=by
 rw[Nr];split
 . exact Sm.neg Sm.one
 . split
   . exact Sm.zero _
   . exact Sm.one
def Lx {B n:Nat}{p:Nat->Nat->Dyadic}(h:∀a b,a<=n->b<n->Sm B (p a b))(a b:Nat)(ha:a<n)(hb:b<n):Sm (B+1) (CY p a b):=Sm.sub (h (a+1) b zo hb) (h 0 b zo hb)
def YI {B n:Nat}{e:Nat->Nat->Dyadic}(hn:1<=n)(aS:n<=4)(h:∀i j,i<n->j<n->Sm B (e i j))(k i:Nat):Sm (4*B+6) (lU n e k i):=by
 have h2:Sm (4*B+6) (dJ (n-1) (mE e i k)):=Ll zo (λa b ha hb=>h _ _ (by split<;>omega) (by split<;>omega));unfold lU;split
 . exact h2.neg
 . exact h2
def FQ {B n:Nat}{p:Nat->Nat->Dyadic}(hn:1<=n)(aS:n<=4)(h:∀a b,a<=n->b<n->Sm B (p a b))(k i:Nat):Sm (4*B+11) (js n p k i):=
 (Sm.mul (YI (B:=B+1) hn aS (λa b ha hb=>Lx h a b ha hb) k i) (Vt _)).mono zo
def afz {B n:Nat}{p:Nat->Nat->Dyadic}(aS:n<=4)(h:∀a b,a<=n->b<n->Sm B (p a b)):Sm (4*B+11) (lD (bL n p) *bL n p):=by rw[CX];exact(Sm.mul (Vt _) (Ll (B:=B+1) aS (λa b ha hb=>Lx h a b ha hb))).mono zo
def NJ {B n:Nat}{p:Nat->Nat->Dyadic}{x:Nat->Dyadic}(hn:1<=n)(aS:n<=4)(h:∀a b,a<=n->b<n->Sm B (p a b))(hx:∀b,b<n->Sm B (x b))(i k:Nat)(hk:k<=n):Sm (5*B+12+k) (wS n p x i k):=by
 induction k with
 |zero=>exact Sm.zero _
 |succ k ih=>have h1:=ih zo;have h2:Sm (5*B+12) ((x k-p 0 k) *js n p k i):=(Sm.mul (Sm.sub (hx k zo) (h 0 k zo zo)) (FQ hn aS h k i)).mono zo;exact(h1.add (h2.mono zo)).mono zo
def agm {B n:Nat}{p:Nat->Nat->Dyadic}{x:Nat->Dyadic}(hn:1<=n)(aS:n<=4)(h:∀a b,a<=n->b<n->Sm B (p a b))(hx:∀b,b<n->Sm B (x b))(i:Nat)(hi:i<n):Sm (5*B+16) (fK n p x (i+1)):=by rw[<-Ev n hn aS p x i hi];exact(NJ hn aS h hx i n (Nat.le_refl _)).mono zo
def VS {B n:Nat}{p:Nat->Nat->Dyadic}{x:Nat->Dyadic}(hn:1<=n)(aS:n<=4)(h:∀a b,a<=n->b<n->Sm B (p a b))(hx:∀b,b<n->Sm B (x b))(k:Nat)(hk:k<=n):Sm (5*B+16+k) (wZ n p x k):=by
 induction k with
 |zero=>exact(afz aS h).mono zo
 |succ k ih=>exact(Sm.sub (ih zo) ((agm hn aS h hx k zo).mono zo)).mono zo
def wC (n:Nat)(p:Nat->Nat->Dyadic)(i:Nat):Dyadic:=wS n p (λ_=>0) i n
def lZ (n:Nat)(p:Nat->Nat->Dyadic)(b:Nat):Nat->Dyadic
 |0=>0
 |k+1=>lZ n p b k-js n p b k
def agi (n:Nat)(p:Nat->Nat->Dyadic)(x:Nat->Dyadic)(i k:Nat):wS n p x i k=wS n p (λ_=>0) i k+dF (λb=>js n p b i*x b) k:=by
 induction k with
 |zero=>simp[wS,dF]
 |succ k ih=>unfold wS dF;rw[ih];grind
def awp (n:Nat)(hn:1<=n)(aS:n<=4)(p:Nat->Nat->Dyadic)(x:Nat->Dyadic)(k:Nat)(hk:k<=n):wZ n p x k=wZ n p (λ_=>0) k+dF (λb=>lZ n p b k*x b) n:=by
 induction k with
 | zero=>
   have:dF (λb=>lZ n p b 0*x b) n=0:=by rw[afJ (g:=λ_=>(0:Dyadic) *0) n (λb _=>by simp[lZ]),afK];grind
   rw[this];unfold wZ;grind
 | succ k ih=>
   unfold wZ;rw[ih zo,<-Ev n hn aS p x k zo,<-Ev n hn aS p (λ_=>0) k zo,agi n p x k n];have:dF (λb=>lZ n p b (k+1) *x b) n=dF (λb=>lZ n p b k*x b) n+dF (λb=>js n p b k*x b) n* (-1):=by rw[<-afK,<-avn];exact afJ n (λb _=>by simp only[lZ];grind)
   rw[this];grind
def lw (R:List (List Dyadic))(r c:Nat):List (List Dyadic):=(R.eraseIdx r).map λx=>x.eraseIdx c
def aez (R:List (List Dyadic))(r c m:Nat)(hL:R.length=m+1)(hr:r<=m):(lw R r c).length=m:=by unfold lw;rw[List.length_map,List.length_eraseIdx_of_lt zo];omega
def aeA (R:List (List Dyadic))(r c m:Nat)(hrow:∀x∈R,x.length=m+1)(hc:c<=m):∀x∈lw R r c,x.length=m:=by intro x hx;unfold lw at hx;obtain⟨y,hy,rfl⟩:=List.mem_map.1 hx;have:=hrow y (List.mem_of_mem_eraseIdx hy);rw[List.length_eraseIdx_of_lt zo];omega
def aey (R:List (List Dyadic))(r c m:Nat)(hL:R.length=m+1)(hr:r<=m)(j:Nat)(hj:j<m):(lw R r c).getD j []=(R.getD (if j<r then j else j+1) []).eraseIdx c:=by
 unfold lw;have h1:j<(R.eraseIdx r).length:=by rw[List.length_eraseIdx_of_lt zo];omega
 rw[List.getD_eq_getElem?_getD,List.getElem?_map,List.getElem?_eq_getElem h1,Option.map_some,Option.getD_some,List.getElem_eraseIdx];split
 . rename_i h;rw[List.getD_eq_getElem?_getD,List.getElem?_eq_getElem zo];rfl
 . rename_i h;rw[List.getD_eq_getElem?_getD,List.getElem?_eq_getElem zo];rfl
def aoo (l:List Dyadic)(c j:Nat)(h:j+1<l.length)(hc:c<l.length):(l.eraseIdx c).getD j 0=l.getD (if j<c then j else j+1) 0:=by
 have h1:j<(l.eraseIdx c).length:=by rw[List.length_eraseIdx_of_lt hc];omega
 rw[List.getD_eq_getElem?_getD,List.getElem?_eq_getElem h1,Option.getD_some,List.getElem_eraseIdx];split
 . rw[List.getD_eq_getElem?_getD,List.getElem?_eq_getElem zo];rfl
 . rw[List.getD_eq_getElem?_getD,List.getElem?_eq_getElem zo];rfl
def arX (R:List (List Dyadic))(r c m:Nat)(hL:R.length=m+1)(hrow:∀x∈R,x.length=m+1)(hr:r<=m)(hc:c<=m)(i j:Nat)(hi:i<m)(hj:j<m):cm (lw R r c) i j=mE (cm R) r c i j:=by
 show((lw R r c).getD i []).getD j 0=(R.getD (if i<r then i else i+1) []).getD (if j<c then j else j+1) 0
 rw[aey R r c m hL hr i hi];have hk:(if i<r then i else i+1)<R.length:=by split<;>omega
 have e:R.getD (if i<r then i else i+1) []=R[if i<r then i else i+1]'hk:=by rw[List.getD_eq_getElem?_getD,List.getElem?_eq_getElem hk];rfl
 have hl:=hrow _ (List.getElem_mem hk);rw[e];exact aoo _ c j (by rw[hl];omega) (by rw[hl];omega)
def sN (n:Nat)(e:Nat->Nat->Dyadic):List (List Dyadic):=(List.range n).map λa=>(List.range n).map λb=>lU n e a b
def YJ (n:Nat)(e:Nat->Nat->Dyadic)(a:Nat)(ha:a<n):(sN n e).getD a []=(List.range n).map λb=>lU n e a b:=by unfold sN;simp[List.getD_eq_getElem?_getD,ha]
def aks (n:Nat)(e:Nat->Nat->Dyadic)(a b:Nat)(ha:a<n)(hb:b<n):cm (sN n e) a b=lU n e a b:=by unfold cm;rw[YJ n e a ha];simp[List.getD_eq_getElem?_getD,hb]
def akt (n:Nat)(e:Nat->Nat->Dyadic):(sN n e).length=n:=by simp[sN]
def aku (n:Nat)(e:Nat->Nat->Dyadic):∀r∈sN n e,r.length=n:=by intro r hr;unfold sN at hr;obtain⟨x,_,rfl⟩:=List.mem_map.1 hr;simp
def arW (R:List (List Dyadic))(r c m:Nat)(hL:R.length=m+1)(hrow:∀x∈R,x.length=m+1)(hr:r<=m)(hc:c<=m)(hm:m<=4):dJ m (cm (lw R r c))=dJ m (mE (cm R) r c):=
 Ga m hm (λi j hi hj=>arX R r c m hL hrow hr hc i j hi hj)
def arY {B:Nat}{R:List (List Dyadic)}(h:∀x∈R,∀d∈x,Sm B d)(r c:Nat):∀x∈lw R r c,∀d∈x,Sm B d:=by intro x hx d hd;unfold lw at hx;obtain⟨y,hy,rfl⟩:=List.mem_map.1 hx;exact h y (List.mem_of_mem_eraseIdx hy) d (List.mem_of_mem_eraseIdx hd)
end Go.Proofs.YtpfgffadgkkedaaGreatDoor
namespace Go.Proofs.YtpfgffadgkkedaaGreatDoor
open Go.RowKit
def fW (w:World)(base n:Nat)(R:List (List Dyadic))(k:Nat)(v:Value):Prop:=
 ∃vals:List Value,vals.length=k/\w.ownsRow base 29 1 v k vals/\(∀i (h:i<vals.length),w.ownsRow base 45 3 vals[i] n (dC (R.getD i [])))/\
  ∀i j (hi:i<vals.length) (hj:j<vals.length) g,vals[i].ownBlock=some g->vals[j].ownBlock=some g->i=j
def fW.nil (w:World)(base n:Nat)(R:List (List Dyadic)):fW w base n R 0 (.slice none 0 0):=
 ⟨[],rfl,World.ownsRow_nil _ _ _ _,λ_ h=>absurd h (Nat.not_lt_zero _),λ_ _ h=>absurd h (Nat.not_lt_zero _)⟩
def fW.below {w w':World}{base n k:Nat}{R:List (List Dyadic)}{v:Value}(h:fW w base n R k v)(hb:Bw w w'):fW w' base n R k v:=by obtain⟨vals,hl,ho,hi,hd⟩:=h;exact⟨vals,hl,ownsRow_below ho hb,λi h=>ownsRow_below (hi i h) hb,hd⟩
def fW.push {w w':World}{base n k:Nat}{R:List (List Dyadic)}{v v' x:Value}{vals:List Value}(hl:vals.length=k)(hov:w.ownsRow base 29 1 v k vals)(hi:∀i (h:i<vals.length),w.ownsRow base 45 3 vals[i] n (dC (R.getD i [])))
 (hd:∀i j (hi:i<vals.length) (hj:j<vals.length) g,vals[i].ownBlock=some g->vals[j].ownBlock=some g->i=j)
 (hx:w.ownsRow base 45 3 x n (dC (R.getD k []))) (iH:∀g,x.ownBlock=some g->∀i (h:i<vals.length),vals[i].ownBlock≠some g)
 (ho:w'.ownsRow base 29 1 v' (k+1) (vals++[x])) (hg:w.grownBy w' v.ownBlock):fW w' base n R (k+1) v':=by
 refine⟨_,by simp[hl],ho,λi h=>?_,λi j h1 h2 g e1 e2=>?_⟩
 . by_cases hk:i<vals.length
   . rw[List.getElem_append_left hk];exact(hi i hk).kept hg (BR (hi i hk) hov zd)
   . have hik:i=k:=by simp at h;omega
     subst hik;rw[List.getElem_append_right zo];simp only[hl,Nat.sub_self,List.getElem_cons_zero];exact hx.kept hg (BR hx hov zd)
 . by_cases k1:i<vals.length
   . rw[List.getElem_append_left k1]at e1;by_cases k2:j<vals.length
     . rw[List.getElem_append_left k2]at e2;exact hd i j k1 k2 g e1 e2
     . have hjk:j=k:=by simp at h2;omega
       subst hjk;rw[List.getElem_append_right zo]at e2;simp only[hl,Nat.sub_self,List.getElem_cons_zero]at e2;exact absurd e1 (iH g e2 i k1)
   . have hik:i=k:=by simp at h1;omega
     subst hik;rw[List.getElem_append_right zo]at e1;simp only[hl,Nat.sub_self,List.getElem_cons_zero]at e1;by_cases k2:j<vals.length
     . rw[List.getElem_append_left k2]at e2;exact absurd e2 (iH g e1 j k2)
     . simp at h2;omega
def fW.tbl {w:World}{base n k:Nat}{R:List (List Dyadic)}{v:Value}(h:fW w base n R k v)(hk:R.length=k)(hn:∀r∈R,r.length=n):∃a c,v=.slice a k c/\k<=c/\Tbl w a (R.map λr=>r.map canon):=by
 obtain⟨vals,hl,ho,hi,hd⟩:=h;obtain⟨a,c,hv,hat,_⟩:=cw ho;subst hv;refine⟨a,c,rfl,BM ho,vals,by simp[hl,hk],hat,λi h1 h2=>?_⟩;obtain⟨a1,c1,e1,e2,_⟩:=cw (hi i h2);have hi1:i<R.length:=by simpa using h1
 have eg:R.getD i []=R[i]:=by simp[hi1]
 rw[eg]at e2;refine⟨a1,c1,?_,?_⟩
 . rw[e1];simp[hn _ (List.getElem_mem hi1)]
 . rw[List.getElem_map,<-yc];exact e2
def amA (ds:List Dyadic)(j:Nat)(hj:j<ds.length):(dC ds)[j*3]?=some (ag (az (dN ds[j])))/\(dC ds)[j*3+1]?=some (ah (nt (dN ds[j]).natAbs))/\(dC ds)[j*3+2]?=some (af (dE ds[j])):=by have h:=λi (hi:i<3)=>flat_get (λd=>aV (canon d)) 3 (λ_=>rfl) ds j i hj hi;unfold dC;exact⟨(h 0 zd),(h 1 zd),(h 2 zd)⟩
def fW.num {w:World}{base n L:Nat}{R:List (List Dyadic)}{v:Value}(h:fW w base n R L v)(i j:Nat)(hi:i<L)(hj:j<n)(hR:R.length=L)(hr:(R.getD i []).length=n):
 ∃go cap g c,v=.slice (some ⟨go,0,none⟩) L cap/\base<=go/\base<=g/\g≠go/\w.cell? ⟨go,i,none⟩=some (.slice (some ⟨g,0,none⟩) n c)/\
  aQ w g (j*3) [ag (az (dN ((R.getD i []).getD j 0))),ah (nt (dN ((R.getD i []).getD j 0)).natAbs),af (dE ((R.getD i []).getD j 0))]/\(∀o,w.frozen? ⟨g,o,none⟩=false)/\
  ∀y:Dyadic,fW (((w.setCell ⟨g,j*3,none⟩ (ag (az (dN y)))).setCell ⟨g,j*3+1,none⟩ (ah (nt (dN y).natAbs))).setCell ⟨g,j*3+2,none⟩ (af (dE y))) base n (R.set i ((R.getD i []).set j y)) L v:=by
 obtain⟨vals,hl,ho,hv,hd⟩:=h;have hi2:i<vals.length:=by omega
 have hrow:=hv i hi2;have hxl:(dC (R.getD i [])).length=n*3:=by rw[amB,hr]
 obtain⟨a0,cap,rfl,_,_⟩:=cw ho;obtain⟨a1,c,e1,_,hab⟩:=cw hrow;rw[e1]at hrow;rcases ho.2 with⟨h1,_⟩ |⟨go,cap',cur,h1,fT,hgo,_⟩
 . simp at h1;omega
 simp only[Value.slice.injEq,true_and]at h1;obtain⟨rfl,rfl⟩:=h1;have hrow2:=hrow;rcases hrow.2 with⟨h1,_⟩ |⟨g,c',cur',h1,hbg,hgg,_⟩
 . simp at h1;omega
 simp only[Value.slice.injEq,true_and]at h1;obtain⟨rfl,rfl⟩:=h1;have hne:g≠go:=by rintro rfl;rw[hgo]at hgg;simp at hgg
 have hat:=amA (R.getD i []) j zo;have hg0:(R.getD i []).getD j 0=(R.getD i [])[j]'zo:=by rw[List.getD_eq_getElem?_getD,List.getElem?_eq_getElem zo];rfl
 have hc0:=mH hrow (j*3) zo;have hc1:=mH hrow (j*3+1) zo;have hc2:=mH hrow (j*3+2) zo;rw[<-List.getElem?_eq_getElem]at hc0 hc1 hc2;rw[hat.1]at hc0;rw[hat.2.1]at hc1;rw[hat.2.2]at hc2;refine⟨go,cap,g,c,rfl,fT,hbg,hne,?_,by rw[hg0];exact iI hc0 hc1 hc2,λo=>?_,λy=>?_⟩
 . rw[mH ho i zo,e1]
 . have h4:ar w g 45 cur'.toList:=by unfold ar;simpa using hgg
   exact h4.free o
 . refine⟨vals,hl,?_,λm hm=>?_,hd⟩
   . have hn:∀(o:Nat) (u:Value) (W:World),W.ownsRow base 29 1 (.slice (some ⟨go,0,none⟩) L cap) L vals->(W.setCell ⟨g,o,none⟩ u).ownsRow base 29 1 (.slice (some ⟨go,0,none⟩) L cap) L vals:=λo u W h=>ownsRow_setCell_other h (by simpa[Value.ownBlock]using hne.symm) _;exact hn _ _ _ (hn _ _ _ (hn _ _ _ ho))
   . by_cases wM:m=i
     . subst wM;have hs:(R.set m ((R.getD m []).set j y)).getD m []=(R.getD m []).set j y:=by rw[List.getD_eq_getElem?_getD,List.getElem?_set_self zo];rfl
       rw[hs,e1,<-Zw];exact ja (ja (ja hrow _ _) _ _) _ _
     . have hs:(R.set i ((R.getD i []).set j y)).getD m []=R.getD m []:=by rw[List.getD_eq_getElem?_getD,List.getElem?_set_ne (λe=>wM e.symm),<-List.getD_eq_getElem?_getD]
       rw[hs];have hno:vals[m].ownBlock≠some g:=λe=>wM (hd m i hm hi2 g e (by rw[e1];rfl));exact ownsRow_setCell_other (ownsRow_setCell_other (ownsRow_setCell_other (hv m hm) hno _) hno _) hno _
end Go.Proofs.YtpfgffadgkkedaaGreatDoor
namespace Go.Proofs.YtpfgffadgkkedaaGreatDoor
end Go.Proofs.YtpfgffadgkkedaaGreatDoor
namespace Go.Proofs.YtpfgffadgkkedaaGreatDoor
open Go.RowKit
def tG (rows:List (List Raw))(i j v:Nat):List (List Raw):=(rows.set v (pz (rows.getD i []) (rows.getD j []))).map rD
def aoa (r:List Raw):(rD r).map dval=r.map dval:=by unfold rD;rw[List.map_map];refine List.map_congr_left (λx _=>?_);exact bu _
def Ra (n:Nat)(aS:n<=4){p q:Nat->Nat->Dyadic}(h:∀a b,a<=n->b<n->p a b=q a b):bL n p=bL n q:=by rw[CX,CX];exact Ga n aS (λi j hi hj=>by rw[h (i+1) j zo hj,h 0 j zo hj])
def Sq (V i j v B:Nat)(rows:List (List Raw))(hL:rows.length=V+1)(hrow:∀r∈rows,r.length=V)(hij:i<j)(hj:j<=V)(hfit:∀r∈rows,∀c∈r,Fit B c)(hB:B<=10000000):
 (tG rows i j v).length=V+1/\(∀r∈tG rows i j v,r.length=V)/\(∀r∈tG rows i j v,∀c∈r,Fit (B+3) c)/\
  ((tG rows i j v).map λr=>r.map dval)=(rows.map λr=>r.map dval).set v (midD (rows.getD i []) (rows.getD j []))/\
  ∀k,k<V->(midD (rows.getD i []) (rows.getD j [])).getD k 0=(((rows.map λr=>r.map dval).getD i []).getD k 0+((rows.map λr=>r.map dval).getD j []).getD k 0) *hp 1:=by
 have hi1:i<rows.length:=by omega
 have og:j<rows.length:=by omega
 have ei:rows.getD i []=rows[i]:=by simp[List.getD_eq_getElem?_getD,hi1]
 have ej:rows.getD j []=rows[j]:=by simp[List.getD_eq_getElem?_getD,og]
 have li:=hrow _ (List.getElem_mem hi1);have lj:=hrow _ (List.getElem_mem og);rw[show tG rows i j v=(rows.set v (pz rows[i] rows[j])).map rD by unfold tG;rw[ei,ej],ei,ej];have mr:(pz rows[i] rows[j]).length=V:=by rw[aex zo,li]
 refine⟨by simp[hL],λr hr=>?_,λr hr c hc=>?_,?_,λk hk=>?_⟩
 . obtain⟨x,hx,rfl⟩:=List.mem_map.1 hr;rw[LG];rcases List.mem_or_eq_of_mem_set hx with h|h
   . exact hrow x h
   . rw[h];exact mr
 . obtain ⟨x,hx,rfl⟩:=List.mem_map.1 hr;unfold rD at hc;obtain⟨y,hy,rfl⟩:=List.mem_map.1 hc;have hys:Sm (B+3) (dval y):=by
    rcases List.mem_or_eq_of_mem_set hx with h|h
    . exact(hfit x h y hy).2.mono zo
    . rw[h]at hy;exact(aew (hfit _ (List.getElem_mem hi1)) (hfit _ (List.getElem_mem og)) hB y hy).2
   exact hys.fit zo
 . rw[List.map_map];have e:((λr:List Raw=>r.map dval)∘rD)=λr=>r.map dval:=funext aoa;rw[e,List.map_set];congr 1;unfold pz;rw[List.map_map];have:(dval∘canon)=id:=funext bu;rw[this];simp
 . have h1:((rows.map λr=>r.map dval).getD i []).getD k 0=dval (rows[i][k]'zo):=by simp[List.getD_eq_getElem?_getD,hi1,show k<rows[i].length by omega]
   have h2:((rows.map λr=>r.map dval).getD j []).getD k 0=dval (rows[j][k]'zo):=by simp[List.getD_eq_getElem?_getD,og,show k<rows[j].length by omega]
   rw[h1,h2];unfold midD;rw[List.getD_eq_getElem?_getD,List.getElem?_zipWith,List.getElem?_eq_getElem zo,List.getElem?_eq_getElem zo];rfl
def aby (V i j v B:Nat)(rows:List (List Raw))(hL:rows.length=V+1)(hrow:∀r∈rows,r.length=V)(hij:i<j)(hj:j<=V)(hv:v<=V)(hfit:∀r∈rows,∀c∈r,Fit B c)(hB:B<=10000000)(a b:Nat)(ha:a<=V)(hb:b<V):
 cO (tG rows i j v) a b=yR (cO rows) (hp 1) i j v a b:=by
 obtain⟨q1,q2,_,q4,q5⟩:=Sq V i j v B rows hL hrow hij hj hfit hB;unfold cO cm yR;rw[q4];have hlen:(rows.map λr=>r.map dval).length=V+1:=by simp[hL]
 by_cases e:a=v
 . subst e;rw[if_pos rfl];have:((rows.map λr=>r.map dval).set a (midD (rows.getD i []) (rows.getD j []))).getD a []=midD (rows.getD i []) (rows.getD j []):=by rw[List.getD_eq_getElem?_getD,List.getElem?_set_self zo];rfl
   rw[this];exact q5 b hb
 . rw[if_neg e];have:((rows.map λr=>r.map dval).set v (midD (rows.getD i []) (rows.getD j []))).getD a []=(rows.map λr=>r.map dval).getD a []:=by rw[List.getD_eq_getElem?_getD,List.getElem?_set_ne (λh=>e h.symm),<-List.getD_eq_getElem?_getD]
   rw[this]
def apd (V i j v B:Nat)(rows:List (List Raw))(hV1:1<=V)(tB:V<=4)(hL:rows.length=V+1)(hrow:∀r∈rows,r.length=V)(hij:i<j)(hj:j<=V)(hv:v=i\/v=j)(hfit:∀r∈rows,∀c∈r,Fit B c)(hB:B<=10000000):
 bL V (cO (tG rows i j v))=bL V (cO rows) *hp 1:=by
 rw[<-apf V hV1 tB (cO rows) (hp 1) IC i j v hij hj hv];exact Ra V tB (λa b ha hb=>aby V i j v B rows hL hrow hij hj zo hfit hB a b ha hb)
def ape {x:Dyadic}(h:x*hp 1=0):x=0:=by
 have h2:x*hp 1+x*hp 1=x:=by
  have h3:=IC;have:x*hp 1+x*hp 1=x* (hp 1+hp 1):=by grind
  rw[this,h3];grind
 rw[h]at h2;grind
def apc (V i j v B:Nat)(rows:List (List Raw))(hV1:1<=V)(tB:V<=4)(hL:rows.length=V+1)(hrow:∀r∈rows,r.length=V)(hij:i<j)(hj:j<=V)(hv:v=i\/v=j)(hfit:∀r∈rows,∀c∈r,Fit B c)(hB:B<=10000000)(h0:jb rows=0):
 jb (tG rows i j v)=0:=by
 obtain⟨q1,q2,_,_,_⟩:=Sq V i j v B rows hL hrow hij hj hfit hB;have hv1:=JD hL hrow hV1 zo;have hv2:=JD q1 q2 hV1 zo;unfold jb at h0⊢;rw[hv1,if_neg zo,Int.toNat_natCast]at h0;rw[hv2,if_neg zo,Int.toNat_natCast];have hne:bL V (cO rows)≠0:=by intro h;rw[if_pos h]at h0;cases h0
 rw[apd V i j v B rows hV1 tB hL hrow hij hj hv hfit hB,if_neg (λh=>hne (ape h))]
def oU (n:Nat)(second:Bool)(rows:List (List Raw)):List (List Raw):=
 tG rows (gZ (gz rows n) (n+1)).1 (gZ (gz rows n) (n+1)).2.1 (if second then(gZ (gz rows n) (n+1)).1 else(gZ (gz rows n) (n+1)).2.1)
def Rw (n B:Nat)(rows:List (List Raw)):Prop:=rows.length=n+1/\(∀r∈rows,r.length=n)/\∀r∈rows,∀c∈r,Fit B c
def apb {n B:Nat}{rows:List (List Raw)}(h:Rw n B rows)(hn:1<=n)(hB:B<=10000000)(s:Bool):Rw n (B+3) (oU n s rows):=by obtain⟨h1,h2,h3⟩:=h;have hF:=MX (gz rows n) (n+1) zo;obtain⟨q1,q2,q3,_,_⟩:=Sq n (gZ (gz rows n) (n+1)).1 (gZ (gz rows n) (n+1)).2.1 (if s then(gZ (gz rows n) (n+1)).1 else(gZ (gz rows n) (n+1)).2.1) B rows h1 h2 hF.1 zo h3 hB;exact⟨q1,q2,q3⟩
end Go.Proofs.YtpfgffadgkkedaaGreatDoor
namespace Go.Proofs.YtpfgffadgkkedaaGreatDoor
def ow (x:Dyadic):Nat->Dyadic
 |0=>1
 |n+1=>ow x n*x
def jB (X:Nat->Dyadic)(c:Dyadic)(l:List UInt8):Nat->Dyadic
 |0=>c
 |k+1=>jB X c l k*ow (X k) (l.getD k 0).toNat
def zT :Trm:=([],false,[],0)
def Gg (X:Nat->Dyadic)(n:Nat)(ts:List Trm):Nat->Dyadic
 |0=>0
 |k+1=>Gg X n ts k+jB X (dval (ts.getD k zT).2) (ts.getD k zT).1 n
def bG (f:List UInt8->Dyadic):List Trm->Dyadic
 |[]=>0
 |x::l=>dval x.2*f x.1+bG f l
def Ar (f:List UInt8->Dyadic)(a b:List Trm):bG f (a++b)=bG f a+bG f b:=by
 induction a with
 |nil=>simp[bG]
 |cons x a ih=>simp only[List.cons_append,bG,ih];grind
def anH (f:List UInt8->Dyadic)(a b:List Trm):bG f (gw a b)=bG f a+bG f b:=by
 obtain⟨n,hn⟩:=au (a.length+b.length);induction n using Nat.strongRecOn generalizing a b with
 | _ n ih=>
   cases a with
   |nil=>rw[BC];simp[bG]
   | cons x a=>cases b with
     |nil=>rw[BD];simp[bG]
     | cons y b=>
       rw[xk];simp only[List.length_cons]at hn;split
       . have:=ih _ (by simp only[List.length_cons];omega) a (y::b) rfl;simp only[bG]at this⊢;rw[this];grind
       . split
         . have:=ih _ (by simp only[List.length_cons];omega) (x::a) b rfl;simp only[bG]at this⊢;rw[this];grind
         . rename_i h1 h2
           have:=ih _ zo a b rfl;have e:x.1=y.1:=CN (by simpa using h1) (by simpa using h2);simp only[bG,Nw,bu]at this⊢;rw[this,e];grind
def anK (f:List UInt8->Dyadic)(l:List Trm):bG f (gA l)=bG f l:=
 Jt (Q:=λl r=>bG f r=bG f l) (λ_ _=>rfl) (λa b c d h1 h2=>by rw[anH,Ar,h1,h2]) l
def yf (f:List UInt8->Dyadic)(l:List Trm):bG f (aU l)=bG f l:=by
 have h1:∀l,bG f (l.map λx=>(x.1,canon (dval x.2)))=bG f l:=λl=>by
  induction l with
  |nil=>rfl
  |cons x l ih=>simp only[List.map_cons,bG,ih,bu]
 have h2:∀l,bG f (l.filter gy)=bG f l:=λl=>by
  induction l with
  |nil=>rfl
  | cons x l ih=>
    rw[List.filter_cons];split
    . simp only[bG,ih]
    . rename_i h
      have h0:dval x.2=0:=Classical.byContradiction λhc=>h (by unfold gy;rw[(ye _).2 hc];rfl);simp only[bG,ih,h0];grind
 unfold aU;rw[h1,h2,anK]
def fh (X:Nat->Dyadic)(n:Nat)(l:List UInt8):Dyadic:=jB X 1 l n
def ar2 (X:Nat->Dyadic)(c:Dyadic)(l:List UInt8)(n:Nat):jB X c l n=c*jB X 1 l n:=by
 induction n with
 |zero=>show c=c*1;grind
 |succ n ih=>rw[jB,jB,ih];grind
def LC (X:Nat->Dyadic)(n:Nat)(ts:List Trm)(k:Nat)(hk:k<=ts.length):Gg X n ts k=bG (fh X n) (ts.take k):=by
 induction k with
 |zero=>rfl
 | succ k ih=>
   have hk':k<ts.length:=by omega
   have e:ts.getD k zT=ts[k]:=by simp[List.getD_eq_getElem?_getD,hk']
   rw[Gg,ih zo,List.take_succ_eq_append_getElem hk',Ar,e,ar2];simp only[bG,fh];grind
def ar3 (X:Nat->Dyadic)(n k:Nat):jB X 1 (lF n) k=1:=by
 induction k with
 |zero=>rfl
 | succ k ih=>
   have e:(lF n).getD k 0=0:=by unfold lF;rw[List.getD_eq_getElem?_getD,List.getElem?_replicate];split<;>rfl
   rw[jB,ih,e];show 1*ow (X k) 0=1;show(1:Dyadic) *1=1;grind
def aeB (X:Nat->Dyadic)(n j k:Nat)(hk:k<=n)(hj:j<n):jB X 1 (cB n j) k=if j<k then X j else 1:=by
 induction k with
 |zero=>rfl
 | succ k ih=>
   have e:((cB n j).getD k 0).toNat=if k=j then 1 else 0:=by
    unfold cB;rw[List.getD_eq_getElem?_getD,List.getElem?_set];by_cases h:j=k
    . subst h;rw[if_pos rfl,if_pos (by simpa using hj),if_pos rfl];rfl
    . rw[if_neg h,List.getElem?_replicate,if_pos zo,if_neg (λh2=>h h2.symm)];rfl
   rw[jB,ih zo,e];by_cases h:k=j
   . subst h;rw[if_neg zo,if_pos rfl,if_pos zo];show 1* (1*X k)=X k;grind
   . rw[if_neg h];by_cases h2:j<k
     . rw[if_pos h2,if_pos zo];show X j*1=X j;grind
     . rw[if_neg h2,if_neg zo];show(1:Dyadic) *1=1;grind
def fX (a b:List UInt8):List UInt8:=List.zipWith (λx y=>UInt8.ofNat (x.toNat+y.toNat)) a b
def CI (a b:List UInt8)(n:Nat)(ha:a.length=n)(hb:b.length=n):(fX a b).length=n:=by simp[fX,ha,hb]
def Qy (a b:List UInt8)(i:Nat)(h:i<(fX a b).length)(hs:(a.getD i 0).toNat+(b.getD i 0).toNat<=255):((fX a b)[i]).toNat=(a.getD i 0).toNat+(b.getD i 0).toNat:=by
 have h1:i<a.length:=by simp[fX]at h;omega
 have h2:i<b.length:=by simp[fX]at h;omega
 simp only[fX,List.getElem_zipWith];simp only[List.getD_eq_getElem?_getD,List.getElem?_eq_getElem h1,List.getElem?_eq_getElem h2,Option.getD_some]at hs⊢;simp;omega
def YG (a b:List UInt8)(n:Nat)(ha:a.length=n)(hb:b.length=n)(hs:∀i,i<n->(a.getD i 0).toNat+(b.getD i 0).toNat<=127):∀c∈fX a b,c.toNat<=127:=λc hc=>by
 obtain⟨i,hi,rfl⟩:=List.mem_iff_getElem.1 hc;have hi':i<n:=by rw[CI a b n ha hb]at hi;exact hi
 rw[Qy a b i hi (by have:=hs i hi';omega)];exact hs i hi'
abbrev gB (l:List UInt8):Nat:=(l.map UInt8.toNat).sum
def zr (l:List UInt8)(i:Nat):(l.getD i 0).toNat<=gB l:=by
 induction l generalizing i with
 |nil=>simp
 | cons c l ih=>
   unfold gB;rw[List.map_cons,List.sum_cons];cases i with
   |zero=>simp
   |succ i=>have:=ih i;unfold gB at this;simp only[List.getD_cons_succ];omega
def akq (a b:List UInt8)(n:Nat)(ha:a.length=n)(hb:b.length=n)(h:gB a+gB b<=127):gB (fX a b)=gB a+gB b:=by
 induction a generalizing b n with
 | nil=>
   obtain rfl:n=0:=by simpa using ha.symm
   obtain rfl:b=[]:=List.eq_nil_of_length_eq_zero hb;rfl
 | cons x a ih=>cases b with
   |nil=>simp at ha hb;omega
   | cons y b=>
     simp only[gB,List.map_cons,List.sum_cons]at h;have h1:=ih b a.length rfl (by simp at ha hb;omega) (by unfold gB;omega);unfold gB at h1⊢;have e:fX (x::a) (y::b)=UInt8.ofNat (x.toNat+y.toNat)::fX a b:=rfl;have e2:(UInt8.ofNat (x.toNat+y.toNat)).toNat=x.toNat+y.toNat:=by simp;omega
     rw[e,List.map_cons,List.sum_cons,h1,e2,List.map_cons,List.sum_cons,List.map_cons,List.sum_cons];omega
def fO (ta tb:List Trm):List Trm:=ta.flatMap λx=>tb.map λy=>(fX x.1 y.1,canon (dval x.2*dval y.2))
def Nb (ta tb:List Trm):(fO ta tb).length=ta.length*tb.length:=by
 unfold fO;rw[List.length_flatMap];induction ta with
 |nil=>simp
 |cons x ta ih=>rw[List.map_cons,List.sum_cons,ih,List.length_map,List.length_cons,Nat.succ_mul];omega
def Us {ta tb:List Trm}{t:Trm}(h:t∈fO ta tb):∃x∈ta,∃y∈tb,t=(fX x.1 y.1,canon (dval x.2*dval y.2)):=by unfold fO at h;obtain⟨x,hx,h⟩:=List.mem_flatMap.1 h;obtain⟨y,hy,e⟩:=List.mem_map.1 h;exact⟨x,hx,y,hy,e.symm⟩
def Ut {A B:Nat}{ta tb:List Trm}(ha:∀t∈ta,Sm A (dval t.2))(hb:∀t∈tb,Sm B (dval t.2)):∀t∈fO ta tb,Sm (A+B) (dval t.2):=λt ht=>by obtain⟨x,hx,y,hy,rfl⟩:=Us ht;rw[bu];exact Sm.mul (ha x hx) (hb y hy)
def xe {l:List UInt8}{V:Nat}(h:df l (V:Int)=true):l.length=V/\∀c∈l,c.toNat<=127:=by unfold df at h;simp only[Bool.and_eq_true,List.all_eq_true,decide_eq_true_eq]at h;exact⟨by have:=h.2;omega,h.1⟩
def arR {l:List UInt8}{V:Nat}(h1:l.length=V)(h2:∀c∈l,c.toNat<=127):df l (V:Int)=true:=by unfold df;simp only[Bool.and_eq_true,List.all_eq_true,decide_eq_true_eq];exact⟨h2,by omega⟩
def DegT (V d:Nat)(ts:List Trm):Prop:=∀t∈ts,df t.1 (V:Int)=true/\gB t.1<=d
def DegT.mul {V d e:Nat}{ta tb:List Trm}(ha:DegT V d ta)(hb:DegT V e tb)(h:d+e<=127):DegT V (d+e) (fO ta tb):=λt ht=>by
 obtain⟨x,hx,y,hy,rfl⟩:=Us ht;obtain⟨h1,h2⟩:=ha x hx;obtain⟨h3,h4⟩:=hb y hy;have l1:=(xe h1).1;have l2:=(xe h3).1;refine⟨arR (CI _ _ V l1 l2) (YG _ _ V l1 l2 (λi _=>?_)),?_⟩
 . have:=zr x.1 i;have:=zr y.1 i;omega
 . have:=akq x.1 y.1 V l1 l2 zo;show gB (fX x.1 y.1)<=_;omega
def DegT.clean {V d:Nat}{ts:List Trm}(h:DegT V d ts):DegT V d (aU ts):=λt ht=>by obtain⟨y,hy,e⟩:=Zf _ t ht;rw[<-e];exact h y hy
def DegT.append {V d:Nat}{a b:List Trm}(ha:DegT V d a)(hb:DegT V d b):DegT V d (a++b):=λt ht=>by
 rcases List.mem_append.1 ht with h|h
 . exact ha t h
 . exact hb t h
def DegT.mono {V d e:Nat}{a:List Trm}(ha:DegT V d a)(h:d<=e):DegT V e a:=λt ht=>⟨(ha t ht).1,Nat.le_trans (ha t ht).2 h⟩
def atV (x:Dyadic)(a b:Nat):ow x (a+b)=ow x a*ow x b:=by
 induction b with
 |zero=>show ow x a=ow x a*1;grind
 |succ b ih=>rw[<-Nat.add_assoc,ow,ih,ow];grind
def ar1 (X:Nat->Dyadic)(n:Nat)(a b:List UInt8)(ha:a.length=n)(hb:b.length=n)(h:gB a+gB b<=127)(k:Nat):jB X 1 (fX a b) k=jB X 1 a k*jB X 1 b k:=by
 induction k with
 |zero=>show(1:Dyadic)=1*1;grind
 | succ k ih=>
   have h1:=zr a k;have h2:=zr b k;have e:((fX a b).getD k 0).toNat=(a.getD k 0).toNat+(b.getD k 0).toNat:=by
    by_cases hk:k<n
    . have hk2:k<(fX a b).length:=by rw[CI a b n ha hb];exact hk
      rw[<-Qy a b k hk2 zo];simp[hk2]
    . rw[List.getD_eq_getElem?_getD,List.getElem?_eq_none (by rw[CI a b n ha hb];omega),List.getD_eq_getElem?_getD,List.getElem?_eq_none zo,List.getD_eq_getElem?_getD,List.getElem?_eq_none zo];rfl
   rw[jB,jB,jB,ih,e,atV];grind
def anI (X:Nat->Dyadic)(V d e:Nat)(ta tb:List Trm)(ha:DegT V d ta)(hb:DegT V e tb)(h:d+e<=127):bG (fh X V) (fO ta tb)=bG (fh X V) ta*bG (fh X V) tb:=by
 induction ta with
 |nil=>show(0:Dyadic)=0*_;grind
 | cons x ta ih=>
   have h1:=ha x zm;have l1:=(xe h1.1).1;have hx:bG (fh X V) (tb.map λy=>(fX x.1 y.1,canon (dval x.2*dval y.2)))=dval x.2*fh X V x.1*bG (fh X V) tb:=by
    clear ih;induction tb with
    |nil=>show(0:Dyadic)=_*0;grind
    | cons y tb ih2=>
      have h2:=hb y zm;have l2:=(xe h2.1).1;rw[List.map_cons,bG,bG,ih2 (λt ht=>hb t (by simp[ht])),bu];show _*jB X 1 (fX x.1 y.1) V+_=_
      rw[ar1 X V x.1 y.1 l1 l2 (by have:=h1.2;have:=h2.2;omega)];unfold fh;grind
   have ec:fO (x::ta) tb=(tb.map λy=>(fX x.1 y.1,canon (dval x.2*dval y.2)))++fO ta tb:=rfl;rw[ec,Ar,hx,ih (λt ht=>ha t (by simp[ht])),bG];grind
end Go.Proofs.YtpfgffadgkkedaaGreatDoor
namespace Go.Proofs.YtpfgffadgkkedaaGreatDoor
open Go.RowKit
attribute [local go_sem ↓] Go.wp_at_zero Go.wp_at_succ
def Bv (w:World)(x:Value)(n v:Nat):Prop:=v<2^n/\((x=.slice none 0 0/\n=0)\/∃b o cap,x=.slice (some ⟨b,o,none⟩) n cap/\n<=cap/\∀j,j<n->w.cell? ⟨b,o+j,none⟩=some (.int .u8 (bd v j:Int)))
def Bv.below {w w':World}{x:Value}{n v:Nat}(h:Bv w x n v)(hb:Bw w w'):Bv w' x n v:=by
 refine⟨h.1,?_⟩;rcases h.2 with h|⟨b,o,cap,e,h1,hc⟩
 . exact .inl h
 . exact .inr ⟨b,o,cap,e,h1,λj hj=>cell_later hb (hc j hj)⟩
def Bv.azY {w:World}{base:Nat}{e:TypeId}{x:Value}{n v:Nat}(h:w.ownsRow base e 1 x n (dt n (bd v)))(hx:v<2^n):Bv w x n v:=by
 refine⟨hx,?_⟩;rcases h.2 with⟨rfl,rfl⟩ |⟨g,cap,cur,rfl,hb,hg,h2,h3,h4,h5⟩
 . exact .inl ⟨rfl,rfl⟩
 . refine .inr ⟨g,0,cap,rfl,h2,λj hj=>?_⟩;have:=h.cells (g:=g) rfl j _ (nH n (bd v) j hj);have e2:((⟨g,0,none⟩:Addr).add j)=⟨g,j,none⟩:=by simp[Addr.add];omega
   rw[Nat.zero_add,<-e2];exact this
def Bv.azW {w:World}{b:Nat}{t:TypeId}{n v:Nat}(h:ar w b t (dt n (bd v)))(hv:v<2^n):Bv w (.slice (some ⟨b,0,none⟩) n n) n v:=
 ⟨hv,.inr ⟨b,0,n,rfl,Nat.le_refl _,λj hj=>by rw[Nat.zero_add,h.cell,nH _ _ _ hj]⟩⟩
def afb (b o n cap v:Nat)(w:World)(hm:n<=1099511627776)(hcap:n<=cap)(hc:∀j,j<n->w.cell? ⟨b,o+j,none⟩=some (.int .u8 (bd v j:Int)))(hv:v<2^n):
 Cl 287 #[.slice (some ⟨b,o,none⟩) n cap] w λe w'=>e=.returned (.slice (some ⟨b,o,none⟩) (bF v) cap)/\w=w':=by
 have Hc:=aj hc;clear hc;have Hv:=aj hv;clear hv;go_enter Tryz.func287,Tryz.ntmps287;go_wp2_with fail;go_loop [3] (λx=>∃k:Nat,k<=n/\v<2^k/\x=af (k:Int)) (λx=>(intOf x).toNat)
 case atStart=>exact⟨n,Nat.le_refl _,Hv.out,rfl⟩
 case round=>
  obtain⟨k,hk,hvk,rfl⟩:=hrel;have oK:=aj hvk;clear hvk;by_cases h0:0<k
  . have hcell:w.cell? ⟨b,o+(k-1),none⟩=some (.int .u8 (bd v (k-1):Int)):=Hc.out _ zo;have aX:=yL n cap (k-1) ((k:Int)-1) (rfl:(some ⟨b,o,none⟩:Option Addr)=_) zo zo;rw[Nat.mul_one]at aX;by_cases hd:bd v (k-1)=0
    . have hd':((bd v (k-1):Int)==0)=true:=by simp[hd]
      have Hd:=aj hd;clear hd;go_wp2;refine⟨⟨k-1,by omega,?_,by go_num⟩,by simp[intOf];omega⟩;refine alq ?_ Hd.out;rw[show k-1+1=k by omega];exact oK.out
    . have hd':((bd v (k-1):Int)==0)=false:=by simp[hd]
      have Hd:=aj hd;clear hd;go_wp2;go_ret;have e:bF v=k:=by have:=ak4 (v:=v) (k:=k-1) (by rw[show k-1+1=k by omega];exact oK.out) (alp Hd.out);omega
      rw[e];exact⟨rfl,rfl⟩
  . obtain rfl:k=0:=by omega
    go_wp2;go_ret;have e:bF v=0:=by have:=oK.out;simp at this;subst this;rfl
    rw[e];exact⟨rfl,rfl⟩
def afc (w:World):
 Cl 287 #[.slice none 0 0] w λe w'=>e=.returned (.slice none 0 0)/\w=w':=by
 go_enter Tryz.func287,Tryz.ntmps287;go_wp2_with fail;refine wp_loop_rounds 1 ?_;rw[rounds_succ];go_wp2;go_ret;exact⟨rfl,rfl⟩
def FL (x:Value)(lo:Nat):Prop:=∀b o n c,x=.slice (some ⟨b,o,none⟩) n c->lo<=b
def Vg (x:Value)(n v:Nat)(w:World)(hm:n<=1099511627776)(hx:Bv w x n v):
 Cl 287 #[x] w λe w'=>(∃y,e=.returned y/\Bv w y (bF v) v/\∀lo,FL x lo->FL y lo)/\w=w':=by
 have hl:=im hx.1;rcases hx.2 with⟨rfl,rfl⟩ |⟨b,o,cap,rfl,h1,hc⟩
 . refine(afc w).mono ?_;rintro e w' ⟨rfl,rfl⟩;exact⟨⟨_,rfl,⟨sQ v,.inl ⟨rfl,by omega⟩⟩,λ_ h=>h⟩,rfl⟩
 . refine(afb b o n cap v w hm h1 hc hx.1).mono ?_;rintro e w' ⟨rfl,rfl⟩;exact⟨⟨_,rfl,⟨sQ v,.inr ⟨b,o,cap,rfl,by omega,λj hj=>hc j zo⟩⟩,λlo h b' o' n' c' e=>by cases e;exact h _ _ _ _ rfl⟩,rfl⟩
def auD (b o n cap v:Nat)(w:World)(hm:n<=1099511627776)(hcap:n<=cap)(hc:∀j,j<n->w.cell? ⟨b,o+j,none⟩=some (.int .u8 (bd v j:Int)))(hv:v<2^n):
 Cv 263 #[.slice (some ⟨b,o,none⟩) n cap] w (ah (nt v)):=by
 have hle:=im hv;have hcut:=afb b o n cap v w hm hcap hc hv;have hvl:=sQ v;have nP:Hid ((List.range ((bF v+7)/8)).map (λj=>UInt8.ofNat (v/256^((bF v+7)/8-1-j)%256))=nt v):=Uy _ _ (FU v).1 (FU v).2;generalize hL:bF v=L at*;obtain⟨nb,hnb⟩:=au ((L+7)/8);have hmk:=xh (((L:Int)+7)/8) nb zo zo;have Tc:((L:Int)+7)/8=(nb:Int):=by omega
 rw[Tc]at hmk;rw[hnb]at nP;obtain⟨ahM,Hc,Hv,sM,HL⟩:=eD hcut hc hv hvl hL;clear hcut hc hv hvl hL;go_enter Tryz.func263,Tryz.ntmps263;go_wp2_with fail;refine ahM.out.mono ?_;rintro e w' ⟨rfl,rfl⟩;go_wp2_with fail;go_loopw[4] (λi wr=>∃k:Nat,k<=L/\i=af (k:Int)/\ar wr w.heap.size 5 (dt nb (λj=>v%2^k/256^(nb-1-j)%256))/\Bw w wr) (λi _=>L-(intOf i).toNat);case atStart=>
  refine⟨0,Nat.zero_le _,rfl,?_,zl⟩;have e:dt nb (λj=>v%2^0/256^(nb-1-j)%256)=dt nb λ_=>0:=oD λj hj=>by simp[Nat.mod_one]
  rw[e];exact ar.new _ _ _
 case round=>
  obtain⟨k,hk,rfl,hB,hb⟩:=hrel;by_cases hlt:k<L
  . have hq:k/8<nb:=by omega
    obtain⟨Z,hZ⟩:=au (bd v k);have hZ1:Z<=1:=by rw[<-hZ];exact uJ v k
    have lh:wr.cell? ⟨b,o+k,none⟩=some (.int .u8 (Z:Int)):=by rw[<-hZ];exact cell_later hb (Hc.out _ zo)
    obtain⟨A,hA⟩:=au (v%2^k/256^(k/8)%256);have hcell:wr.cell? ⟨w.heap.size,nb-1-k/8,none⟩=some (.int .u8 (A:Int)):=by rw[hB.cell,nH _ _ _ zo,show nb-1-(nb-1-k/8)=k/8 by omega,hA]
    have hfree:wr.frozen? ⟨w.heap.size,nb-1-k/8,none⟩=false:=hB.free _;obtain⟨hb1,hb2⟩:=alv v k;rw[hA,hZ]at hb1 hb2;have bQ:=hB.set (nb-1-k/8) (.int .u8 ((A+Z*2^(k%8):Nat):Int));have hb3:=hb.setCell (p:=⟨w.heap.size,nb-1-k/8,none⟩) (Nat.le_refl _) (.int .u8 ((A+Z*2^(k%8):Nat):Int))
    rw[Et,oD (g:=λj=>v%2^(k+1)/256^(nb-1-j)%256) λj hj=>by
     by_cases og:j=nb-1-k/8
     . subst og;rw[if_pos rfl,show nb-1-(nb-1-k/8)=k/8 by omega,hb1]
     . rw[if_neg og,alx v k _ zo]]at bQ
    obtain⟨eH,Hb⟩:=aH bQ hb3;clear hB hb bQ hb3 hb1 hA hZ;have He:Hid ((((A:Int)+(Z:Int) *2^(k%8))%256)=((A+Z*2^(k%8):Nat):Int)):=by
     show _=_
     have:((Z:Int) *2^(k%8))=((Z*2^(k%8):Nat):Int):=by simp
     rw[this];omega
    clear hb2;go_wp2;go_region
    go_wp2;go_roundw;case rel=>rw[He.out];exact⟨k+1,by omega,by go_num,eH.out,Hb.out.drew⟩
    case measure=>exact bi
  . obtain rfl:k=L:=by omega
    rw[Nat.mod_eq_of_lt sM.out]at hB;have uW:=Es hB nb;rw[nP.out]at uW;have Hb:=aj hb;clear hb hB;go_wp2;go_ret;exact⟨rfl,Hb.out⟩
def auE (w:World):
 Cv 263 #[.slice none 0 0] w (.string (bs [])):=by
 have hmk:=xh 0 0 rfl zo;have uW:=Es (ar.new w 5 (dt 0 λ_=>0)) 0;go_enter Tryz.func263,Tryz.ntmps263;go_wp2_with fail;refine(afc w).mono ?_;rintro e w' ⟨rfl,rfl⟩;go_wp2_with fail;refine wp_loop_rounds 1 ?_;rw[rounds_succ];go_wp2;go_ret;exact⟨rfl,zl⟩
def ze (x:Value)(n v:Nat)(w:World)(hm:n<=1099511627776)(hx:Bv w x n v):
 Cv 263 #[x] w (ah (nt v)):=by
 rcases hx.2 with⟨rfl,rfl⟩ |⟨b,o,cap,rfl,h1,hc⟩
 . have h0:=hx.1;obtain rfl:v=0:=by simpa using h0
   exact auE w
 . exact auD b o n cap v w hm h1 hc hx.1
def af4 (n:Nat)(f:Nat->Nat):dt (n+1) f=dt n f++[.int .u8 (f n:Int)]:=by unfold dt;rw[List.range_succ,List.map_append];rfl
def afg (N:Nat)(w:World)(hN:N<WW):
 Cv 218 #[.int .u64 (N:Int)] w (ah (nt N)):=by
 obtain⟨i0,hi,hz0,hz1,hz2⟩:=info_parts Tryz.az2;have hNb:bF N<=64:=im (by rw[lS]at hN;exact hN);have hW:=jr;go_enter Tryz.func218,Tryz.ntmps218;go_wp2_with fail;go_loopw[0,3] (λu v wr=>∃k:Nat,k<=bF N/\u=.int .u64 ((N/2^k:Nat):Int)/\wr.ownsRow w.heap.size 5 1 v k (dt k (bd N))/\Bw w wr) (λu _ _=>(intOf u).toNat);case atStart=>exact⟨0,Nat.zero_le _,by simp,World.ownsRow_nil _ _ _ _,Below.refl _ _⟩
 case round=>
  obtain⟨k,hk,rfl,hown,hb⟩:=hrel;obtain⟨M,hM⟩:=au (N/2^k);have Gs:M<18446744073709551616:=by have:=Nat.div_le_self N (2^k);omega
  have HM:=aj hM;rw[hM];have Ay:N/2^(k+1)=M/2:=by rw[Nat.pow_succ,<-Nat.div_div_eq_div_mul,hM]
  have iP:bd N k=M%2:=by unfold bd;rw[hM]
  obtain⟨zF,kN⟩:=aH Ay iP;clear hM Ay iP hW hN;by_cases h0:0<M
  . have h01:(0:Int)<(M:Int):=by omega
    have hkl:k<bF N:=by
     rcases Nat.lt_or_ge k (bF N)with h|h
     . exact h
     . have h1:N<2^k:=Nat.lt_of_lt_of_le (sQ N) (Nat.pow_le_pow_right zd h);have:=HM.out;rw[Nat.div_eq_of_lt h1]at this;omega
    have hs0:=hb.size;have pL:=aj hown;clear hown;go_wp2_with (first| (at_builtin;refine wpList_append_own _ rfl _ _ 59 rfl w.heap.size 5 i0 (.int .u8 0) 1 1 Tryz.underlying59 hi hz0 hz1 hz2 rfl zd _ _ _ rfl (pL.out.alloc _) ⟨wr.heap.size,0,none⟩ 1 1 [.int .u8 ((M:Int)%2)] rfl rfl (cell_one_new _ _ _) zy zx zo zi ?_;intro v' w1 ho hg _;obtain⟨Ho,Hg⟩:=aH ho hg;clear ho hg));go_roundw;case rel=>
     refine⟨k+1,by omega,?_,?_,?_⟩
     . rw[zF.out];go_num
     . rw[af4,kN.out];have e:((M%2:Nat):Int)=(M:Int)%2:=by omega
       rw[e];exact Ho.out
     . exact(hb.alloc hs0 _).grown Hg.out zi (λj e=>cE pL.out j e)
    case measure=>exact bi
  . obtain rfl:M=0:=by omega
    have hkN:N<2^k:=by have:=HM.out;exact(Nat.div_eq_zero_iff_lt (Nat.pow_pos zd)).1 this
    obtain⟨Om,Hb⟩:=aH (Bv.azY hown hkN) hb;clear hown hkN hb;go_wp2_with fail;refine(ze u3 k N wr zo Om.out).mono ?_;rintro e w2 ⟨rfl,hb2⟩;have bW:=aj hb2;clear hb2;go_wp2;go_ret;exact⟨rfl,aF Hb.out bW.out⟩
def QD (a:Nat)(ha:a<256):bits .and .u8 (a:Int) 1=((a%2:Nat):Int):=by
 have h1:(BitVec.ofInt 8 (a:Int)).toNat=a:=by rw[BitVec.ofInt_natCast,BitVec.toNat_ofNat];exact Nat.mod_eq_of_lt zo
 show IntKind.u8.wrap ((BitVec.ofInt 8 (a:Int)&&&BitVec.ofInt 8 1).toNat:Int)=_
 rw[BitVec.toNat_and,h1,show(BitVec.ofInt 8 1).toNat=1 from rfl,Nat.and_one_is_mod,IntKind.wrap_u8];omega
def ul (l:List UInt8)(w:World)(hl:l.length<=68719476736):
 Cl 264 #[ah l] w λe w'=>(∃y,e=.returned y/\Bv w' y (bF (nv l)) (nv l))/\Bw w w':=by
 obtain⟨i0,hi,hz0,hz1,hz2⟩:=info_parts Tryz.az2;have hsz:(bs l).size=l.length:=mR l;go_enter Tryz.func264,Tryz.ntmps264;go_wp2_with fail;go_loopw[3,4,5] (λv i _ wr=>∃m:Nat,m<=l.length/\i=af ((l.length:Int)-1-(m:Int))/\wr.ownsRow w.heap.size 5 1 v (8*m) (dt (8*m) (bd (nv l)))/\Bw w wr) (λ_ i _ _=>(intOf i+1).toNat);case atStart=>exact⟨0,Nat.zero_le _,by go_num,World.ownsRow_nil _ _ _ _,Below.refl _ _⟩
 case round=>
  obtain⟨m,hm,rfl,hown,hb⟩:=hrel;obtain⟨pL,Hb⟩:=aH hown hb;clear hown hb;by_cases hlt:m<l.length
  . have hge:(m:Int)<=(l.length:Int)-1:=by omega
    have gV:=vk l ((l.length:Int)-1-(m:Int)) (l.length-1-m) zo zo;have ahy:Hid (∀k,k<8->l[l.length-1-m].toNat/2^k%2=bd (nv l) (8*m+k)):=λk hk=>asK l m k hlt hk;have hC:=(l[l.length-1-m]'zo).toNat_lt;generalize hCe:l[l.length-1-m].toNat=C at*;clear hCe;go_wp2_with fail;go_loopw[3,5] (λv j wr=>∃k:Nat,k<=8/\j=af (k:Int)/\wr.ownsRow w.heap.size 5 1 v (8*m+k) (dt (8*m+k) (bd (nv l)))/\Bw w wr) (λ_ j _=>8-(intOf j).toNat);case atStart=>exact⟨0,Nat.zero_le _,rfl,pL.out,Hb.out⟩
    case round=>
     clear pL Hb;obtain⟨k,hk,rfl,hown,hb⟩:=hrel;obtain⟨pL,Hb⟩:=aH hown hb;have hs0:=hb.size;clear hown hb;by_cases hk8:k<8
     . obtain ⟨Z,hZ⟩:=au (C/2^k%2);have hbk:=ahy.out k hk8;rw[hZ]at hbk;have uw:=aj hbk;clear hbk;have hand:bits .and .u8 ((C:Int)/2^k) 1=(Z:Int):=by
        have e:(C:Int)/2^k=((C/2^k:Nat):Int):=by simp
        have:=Nat.div_le_self C (2^k);rw[e,QD _ zo,hZ]
       clear hZ;go_wp2_with (first| (at_builtin;refine wpList_append_own _ rfl _ _ 59 rfl w.heap.size 5 i0 (.int .u8 0) 1 1 Tryz.underlying59 hi hz0 hz1 hz2 rfl zd _ _ _ rfl (pL.out.alloc _) ⟨wr.heap.size,0,none⟩ 1 1 [.int .u8 (Z:Int)] rfl rfl (cell_one_new _ _ _) zy zx zo zi ?_;intro v' w1 ho hg _;obtain⟨Ho,Hg⟩:=aH ho hg;clear ho hg));go_roundw;case rel=>
        refine⟨k+1,by omega,?_,?_,?_⟩
        . go_num
        . rw[<-Nat.add_assoc,af4,<-uw.out];exact Ho.out
        . exact(Hb.out.alloc hs0 _).grown Hg.out zi (λj e=>cE pL.out j e)
       case measure=>exact bi
     . obtain rfl:k=8:=by omega
       go_wp2;go_roundw;case rel=>exact⟨m+1,by omega,by go_num,pL.out,Hb.out⟩
       case measure=>exact bi
  . obtain rfl:m=l.length:=by omega
    have Om:=aj (Bv.azY pL.out (rQ l));clear hlt;go_wp2_with fail;refine(Vg u3 (8*l.length) (nv l) wr zo Om.out).mono ?_;rintro e w2 ⟨⟨y,rfl,hy,_⟩,rfl⟩;have Hy:=aj hy;clear hy;go_wp2;go_ret;exact⟨⟨_,rfl,Hy.out⟩,Hb.out⟩
def Eo (x:Value)(n v i:Nat)(w:World)(hx:Bv w x n v)(hi:i<=1099511627776)(hn:n<=1099511627776):
 Cl 290 #[x,af (i:Int)] w λe w'=>e=.returned (.int .u8 (bd v i:Int))/\w=w':=by
 obtain⟨hv,h⟩:=hx;by_cases hlt:i<n
 . rcases h with⟨rfl,h0⟩ |⟨b,o,cap,rfl,h1,hc⟩
   . omega
   . have hcell:=hc i hlt;have aX:=yL n cap i (i:Int) (rfl:(some ⟨b,o,none⟩:Option Addr)=_) hlt rfl;rw[Nat.mul_one]at aX;clear hc hv;go_enter Tryz.func290,Tryz.ntmps290;go_wp2;go_ret;exact⟨rfl,rfl⟩
 . have h0:bd v i=0:=akT hv zo;have H0:=aj h0;clear h0 hv;rcases h with⟨rfl,h0⟩ |⟨b,o,cap,rfl,h1,hc⟩
   . subst h0;go_enter Tryz.func290,Tryz.ntmps290;go_wp2;go_ret;exact⟨by rw[H0.out];rfl,rfl⟩
   . clear hc;go_enter Tryz.func290,Tryz.ntmps290;go_wp2;go_ret;exact⟨by rw[H0.out];rfl,rfl⟩
def Bv.len {w:World}{x:Value}{n v:Nat}(h:Bv w x n v):∃a cap,x=.slice a n cap:=by
 rcases h.2 with⟨rfl,rfl⟩ |⟨b,o,cap,rfl,_⟩
 . exact⟨_,_,rfl⟩
 . exact⟨_,_,rfl⟩
def afa (x y:Value)(n m v u:Nat)(w:World)(hx:Bv w x n v)(hy:Bv w y m u)(hn:n<=1099511627776)(hm:m<=1099511627776):
 Cl 288 #[x,y] w λe w'=>e=.returned (af (di v u))/\w=w':=by
 obtain⟨a,cap,ky⟩:=hx.len;obtain⟨a',cap',IU⟩:=hy.len;have iQ:=λi (hi:i<=1099511627776)=>Eo x n v i w hx hi hn;have hby:=λi (hi:i<=1099511627776)=>Eo y m u i w hy hi hm;have hv:=hx.1;have hu:=hy.1;subst ky;subst IU;obtain⟨EO,EP,Hv,Hu⟩:=cG iQ hby hv hu;clear iQ hby hv hu hx hy;obtain⟨M,hM⟩:=au (max n m);have hMI:max (n:Int) (m:Int)=(M:Int):=by omega
 have bN:Hid (v/2^M=u/2^M):=by
  show _=_
  rw[Nat.div_eq_of_lt (Nat.lt_of_lt_of_le Hv.out (Nat.pow_le_pow_right zd zo)),Nat.div_eq_of_lt (Nat.lt_of_lt_of_le Hu.out (Nat.pow_le_pow_right zd zo))]
 have Gs:M<=1099511627776:=by omega
 clear hM;go_enter Tryz.func288,Tryz.ntmps288;go_wp2_with fail;go_loop [5] (λi=>∃k:Nat,k<=M/\v/2^k=u/2^k/\i=af ((k:Int)-1)) (λi=>(intOf i+1).toNat)
 case atStart=>exact⟨M,Nat.le_refl _,bN.out,rfl⟩
 case round=>
  obtain⟨k,hk,hvk,rfl⟩:=hrel;have oK:=aj hvk;clear hvk;by_cases h0:0<k
  . obtain⟨j,rfl⟩:∃j,k=j+1:=⟨k-1,by omega⟩;have iQ:=EO.out j zo;have hby:=EP.out j zo;obtain⟨uy,Hgt,sA⟩:=bM (λh=>YN (v:=v) (u:=u) oK.out h) (λh=>YN (v:=u) (u:=v) oK.out.symm h) (λh=>akS (v:=v) (u:=u) oK.out h);have hp1:=uJ v j;have hq1:=uJ u j;generalize bd v j=p at*;generalize bd u j=q at*;obtain⟨H1,H2⟩:=aH iQ hby;clear iQ hby;have hj:((j+1:Nat):Int)-1=(j:Int):=by omega
    rw[hj];clear hj h0;go_wp2_with fail;refine H1.out.mono ?_;rintro e w' ⟨rfl,rfl⟩;go_wp2_with fail;refine H2.out.mono ?_;rintro e w' ⟨rfl,rfl⟩;by_cases hpq:p<q
    . have ap8:(p:Int)<(q:Int):=by omega
      go_wp2;go_ret;have:=uy.out hpq;exact⟨by unfold di;rw[if_pos this];rfl,rfl⟩
    . have ap8:¬(p:Int)<(q:Int):=by omega
      go_wp2_with fail;refine H1.out.mono ?_;rintro e w' ⟨rfl,rfl⟩;go_wp2_with fail;refine H2.out.mono ?_;rintro e w' ⟨rfl,rfl⟩;by_cases hqp:q<p
      . have aqb:(q:Int)<(p:Int):=by omega
        go_wp2;go_ret;have:=Hgt.out hqp;exact⟨by unfold di;rw[if_neg zo,if_pos this];rfl,rfl⟩
      . have aqb:¬(q:Int)<(p:Int):=by omega
        go_wp2;refine⟨⟨j,by omega,sA.out zo,by go_num⟩,by simp[intOf]⟩
  . obtain rfl:k=0:=by omega
    have he:v=u:=by simpa using oK.out
    go_wp2;go_ret;exact⟨by unfold di;rw[if_neg zo,if_neg zo];rfl,rfl⟩
def afe (x y:Value)(n m v u:Nat)(w:World)(hx:Bv w x n v)(hy:Bv w y m u)(hn:n<=1099511627776)(hm:m<=1099511627776)(wV:u<=v):
 Cl 289 #[x,y] w λe w'=>(∃z,e=.returned z/\Bv w' z n (v-u)/\FL z w.heap.size)/\Bw w w':=by
 obtain⟨a,cap,ky⟩:=hx.len;obtain⟨a',cap',IU⟩:=hy.len;have iQ:=λW (hW:Bw w W) i (hi:i<=1099511627776)=>Eo x n v i W (hx.below hW) hi hn;have hby:=λW (hW:Bw w W) i (hi:i<=1099511627776)=>Eo y m u i W (hy.below hW) hi hm;have rh:Hid (v-u<2^n):=by show _<_;have:=hx.1;omega
 subst ky;subst IU;obtain⟨EO,EP,Fz⟩:=bM iQ hby wV;clear iQ hby hx hy wV;have hmk:=xh (n:Int) n rfl zo;go_enter Tryz.func289,Tryz.ntmps289;go_wp2_with fail;go_loopw[6,7,8] (λb i _ wr=>∃k:Nat,k<=n/\i=af (k:Int)/\b=.int .u8 (bb v u k:Int)/\ar wr w.heap.size 5 (dt n (λj=>if j<k then bd (v-u) j else 0))/\Bw w wr) (λ_ i _ _=>n-(intOf i).toNat);case atStart=>
  refine⟨0,Nat.zero_le _,rfl,by rw[akQ];rfl,?_,zl⟩;have e:dt n (λj=>if j<0 then bd (v-u) j else 0)=dt n λ_=>0:=oD λj hj=>by rw[if_neg zo]
  rw[e];exact ar.new _ _ _
 case round=>
  obtain⟨k,hk,rfl,rfl,hB,hb⟩:=hrel;by_cases hlt:k<n
  . obtain⟨H1,H2⟩:=aH (EO.out wr hb k zo) (EP.out wr hb k zo);have hs:=akP v u k;have hd:=akO v u k Fz.out;have hp:=uJ v k;have hq:=uJ u k;have hr:=YL v u k;have hcell:wr.cell? ⟨w.heap.size,k,none⟩=some (.int .u8 0):=by rw[hB.cell,nH _ _ _ hlt,if_neg zo];rfl
    have hfree:wr.frozen? ⟨w.heap.size,k,none⟩=false:=hB.free _;have bQ:=hB.set k (.int .u8 ((bd (v-u) k:Nat):Int))
    rw[Et,oD (g:=λj=>if j<k+1 then bd (v-u) j else 0) λj hj=>by
     by_cases e:j=k
     . subst e;rw[if_pos rfl,if_pos zo]
     . rw[if_neg e];by_cases e2:j<k
       . rw[if_pos e2,if_pos zo]
       . rw[if_neg e2,if_neg zo]]at bQ
    obtain⟨eH,Hb⟩:=aH bQ (hb.setCell (p:=⟨w.heap.size,k,none⟩) (Nat.le_refl _) (.int .u8 ((bd (v-u) k:Nat):Int)));clear hB bQ hb;generalize bd v k=p at*;generalize bd u k=q at*;generalize bb v u k=r at*;generalize bd (v-u) k=z at*;have Hs:=aj hs;clear hs;obtain⟨S,hS⟩:=au (2+p-q-r);have hS3:S<=3:=by omega
    have hw1:IntKind.u8.wrap (2+(p:Int))=2+(p:Int):=by rw[IntKind.wrap_u8];omega
    have hw2:IntKind.u8.wrap (2+(p:Int)-(q:Int))=2+(p:Int)-(q:Int):=by rw[IntKind.wrap_u8];omega
    have hw3:IntKind.u8.wrap (2+(p:Int)-(q:Int)-(r:Int))=(S:Int):=by rw[IntKind.wrap_u8];omega
    have hand:bits .and .u8 (S:Int) 1=(z:Int):=by rw[QD S zo,<-hd];omega
    obtain⟨HS,Hd⟩:=aH hS hd;clear hS hd;go_wp2_with fail;refine H1.out.mono ?_;rintro e w' ⟨rfl,rfl⟩;go_wp2_with fail;refine H2.out.mono ?_;rintro e w' ⟨rfl,rfl⟩;go_wp2;go_roundw;case rel=>refine⟨k+1,by omega,by go_num,?_,eH.out,Hb.out⟩;rw[Hs.out];have:=HS.out;congr 1;split<;>omega
    case measure=>exact bi
  . obtain rfl:k=n:=by omega
    rw[oD (g:=bd (v-u)) λj hj=>by rw[if_pos hj]]at hB;obtain⟨Hz,Hb⟩:=aH (Bv.azW hB rh.out) hb;clear hB hb;go_wp2;go_ret;exact⟨⟨_,rfl,Hz.out,λb o n' c e=>by cases e;exact Nat.le_refl _⟩,Hb.out⟩
end Go.Proofs.YtpfgffadgkkedaaGreatDoor
namespace Go.Proofs.YtpfgffadgkkedaaGreatDoor
def awc {rows:List (List Raw)}{B:Nat}(h5:rows.length<=5)(hf:∀r∈rows,∀c∈r,Fit B c)(hv:kI rows≠0):∃m,m+1<=4/\Rw (m+1) B rows:=by obtain⟨c1,c2,c3,c4⟩:=JE rfl hv;obtain⟨m,hm⟩:∃m:Nat,kI rows=((m+1:Nat):Int):=⟨((kI rows)-1).toNat,by omega⟩;exact⟨m,by omega,by omega,λr hr=>by have:=c4 r hr;omega,hf⟩
def afQ {rows:List (List Raw)}{B:Nat}(h5:rows.length<=5)(hf:∀r∈rows,∀c∈r,Fit B c)(h:jb rows=0):∃m,m+1<=4/\Rw (m+1) B rows:=
 awc h5 hf (λh0=>by unfold jb at h;rw[if_pos h0]at h;cases h)
end Go.Proofs.YtpfgffadgkkedaaGreatDoor
namespace Go.Proofs.YtpfgffadgkkedaaGreatDoor
open Go.RowKit
attribute [local go_sem ↓] Go.wp_at_zero Go.wp_at_succ
def awb {n B:Nat}{rows:List (List Raw)}(h:Rw n B rows)(hn:1<=n)(DC:n<=8):kI rows=n:=JD h.1 h.2.1 hn DC
end Go.Proofs.YtpfgffadgkkedaaGreatDoor
