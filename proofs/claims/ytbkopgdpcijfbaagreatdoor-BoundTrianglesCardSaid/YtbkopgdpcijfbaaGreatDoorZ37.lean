/- The chapter's examples: closed facts. -/
import Derived.Test.YtbkopgdpcijfbaaGreatDoorZ36
import Derived.Test.YtbkopgdpcijfbaaGreatDoorZ32
import Derived.Test.YtbkopgdpcijfbaaGreatDoorZ7
set_option linter.all false
set_option maxRecDepth 100000
set_option maxHeartbeats 16000000
namespace Go.Proofs.YtbkopgdpcijfbaaGreatDoor
def mL :List Pr:=vY [0,4,0,3] 2
def DZ :List Pr:=vY [0,0] 1
def nQ :List (List Raw):=[[canon (dJ 0),canon (dJ 0)],[canon (dJ 1),canon (dJ 0)],[canon (dJ 0),canon (dJ 1)]]
def SK :mM mL=0:=by decide+kernel
def aoH :mM DZ=5:=by decide+kernel
def aoI :xP mL 5=[0,1,0,1,0].map λ(n:Int)=>Value.int .i64 n:=by
 have h:(List.range 5).map (zH mL)=[0,1,0,1,0]:=by decide+kernel
 unfold xP;rw[show(List.range 5).map (λi=>Value.int .i64 (zH mL i:Int))=((List.range 5).map (zH mL)).map (λ(n:Nat)=>Value.int .i64 (n:Int))from by rw[List.map_map];rfl,h];rfl
def aoG :zJ (dJ 8) (dJ 9) (Ax [1,1]) mL=some 0:=by decide+kernel
def aoF :zJ (dJ 8) (dJ 8) (Ax [1,1]) mL=some 3:=by decide+kernel
def aoL :jy nQ=0:=by decide+kernel
def aoK :un 1 (dJ 1) (dJ 2) 2 (stA (fe 2) (dP 2 (cm nQ) 2) 3) (cZ (cH nQ 2) 3).2.2 (bK 2 (cm nQ))=some 0:=by decide+kernel
def aoJ :un 1 (dJ 1) (dJ 1) 2 (stA (fe 2) (dP 2 (cm nQ) 2) 3) (cZ (cH nQ 2) 3).2.2 (bK 2 (cm nQ))=some 14:=by decide+kernel
end Go.Proofs.YtbkopgdpcijfbaaGreatDoor
namespace Go.Proofs.YtbkopgdpcijfbaaGreatDoor
open Go.RowKit
attribute [local go_sem ↓] Go.wp_at_zero Go.wp_at_succ
def MH (n:Nat)(h:n<=1000000):Sm 128 (dJ n):=Po _ zo
def zP (n:Nat)(h:n<=1000000):Fit 300 (az (dN (dJ n)),nt (dN (dJ n)).natAbs,dE (dJ n)):=((MH n h).mono zd).fit zd
def uO (n:Nat):au (az (dN (dJ n)),nt (dN (dJ n)).natAbs,dE (dJ n))=dJ n:=bF (dJ n)
def abz (ns:List Nat)(M:Nat)(h:∀n∈ns,n<=1000000):jR 128 ((vY ns M).map fg):=by
 refine jR.of (λp hp=>?_) zd;obtain⟨i,_,rfl⟩:=List.mem_map.1 hp;have hg:∀k,ns.getD k 0<=1000000:=λk=>by
  by_cases hk:k<ns.length
  . have e:ns.getD k 0=ns[k]:=by simp[hk]
    rw[e];exact h _ (List.getElem_mem hk)
  . have e:ns.getD k 0=0:=by simp[List.getD_eq_getElem?_getD,List.getElem?_eq_none (by omega:ns.length<=k)]
    rw[e];decide
 exact⟨MH _ (hg _),MH _ (hg _)⟩
def Fa (bx:List Pr):(bx.map fg).map cn=bx:=by rw[List.map_map,show cn∘fg=id from funext ai1,List.map_id]
def SJ :jR 128 (mL.map fg):=abz _ _ zd
def aoC :jR 128 (DZ.map fg):=abz _ _ zd
def aoN (a:Option Addr)(c:Nat)(w:World)(ha:At w a ((mL.map fg).flatMap cK))(hT:aC w):
 Cl 26 #[.slice a 2 c,af 5] w λe w'=>∃a' c',e=.returned (.tuple #[.slice a' 5 c',af 0])/\At w' a' (om [0,1,0,1,0])/\Bw w w':=by
 have h:=axu a 2 c 128 5 (mL.map fg) w rfl zd SJ zd ha hT (by rw[Fa];exact SK) zd;rw[Fa,aoI]at h;exact h
def abn (g m k:Nat)(hb:zJ (dJ g) (dJ m) (Ax [1,1]) mL=some k)(hg:g<=1000000)(hm:m<=1000000)(h1:0<=bg (dJ g))(h2:0<bg (dJ m))(a:Option Addr)(c:Nat)(da:Option Addr)(dc:Nat)(w:World)(ha:At w a ((mL.map fg).flatMap cK))(hd:At w da (om [1,1]))(hT:aC w):
 Cv 24 #[.slice a 2 c,.slice da 2 dc,.agg #[ag (az (dN (dJ g))),ah (nt (dN (dJ g)).natAbs),af (dE (dJ g))],.agg #[ag (az (dN (dJ m))),ah (nt (dN (dJ m)).natAbs),af (dE (dJ m))]] w (.tuple #[af (k:Int),af 0]):=by
 have h:=apw a 2 c 128 (mL.map fg) da dc [1,1] _ _ _ _ _ _ w rfl zd SJ zd ha hd hT (zP g hg) (zP m hm) (by rw[Fa];exact SK) (by rw[uO,uO];exact⟨rfl,by decide,h1,h2⟩) zd;rw[uO,uO,Fa,hb]at h;exact h
def aoO (a:Option Addr)(c:Nat)(da:Option Addr)(dc:Nat)(w:World)(ha:At w a ((mL.map fg).flatMap cK))(hd:At w da (om [1,1]))(hT:aC w):
 Cv 24 #[.slice a 2 c,.slice da 2 dc,.agg #[ag (az (dN (dJ 8))),ah (nt (dN (dJ 8)).natAbs),af (dE (dJ 8))],.agg #[ag (az (dN (dJ 0))),ah (nt (dN (dJ 0)).natAbs),af (dE (dJ 0))]] w (.tuple #[af 0,af 1]):=by
 have he:wh (mM ((mL.map fg).map cn)) [1,1] 2 (au (az (dN (dJ 8)),nt (dN (dJ 8)).natAbs,dE (dJ 8))) (au (az (dN (dJ 0)),nt (dN (dJ 0)).natAbs,dE (dJ 0)))=1:=by rw[Fa,uO,uO,SK];decide+kernel
 have h:=abB a 2 c 128 (mL.map fg) da 2 dc [1,1] _ _ _ _ _ _ w rfl zd SJ ha rfl hd hT (zP 8 zd).1 (zP 0 zd).1 (by rw[he];decide);rw[he]at h;exact h
def aoM (a:Option Addr)(c:Nat)(da:Option Addr)(dc:Nat)(w:World)(ha:At w a ((DZ.map fg).flatMap cK))(hd:At w da (om [1]))(hT:aC w):
 Cv 24 #[.slice a 1 c,.slice da 1 dc,.agg #[ag (az (dN (dJ 8))),ah (nt (dN (dJ 8)).natAbs),af (dE (dJ 8))],.agg #[ag (az (dN (dJ 8))),ah (nt (dN (dJ 8)).natAbs),af (dE (dJ 8))]] w (.tuple #[af 0,af 5]):=by
 have he:wh (mM ((DZ.map fg).map cn)) [1] 1 (au (az (dN (dJ 8)),nt (dN (dJ 8)).natAbs,dE (dJ 8))) (au (az (dN (dJ 8)),nt (dN (dJ 8)).natAbs,dE (dJ 8)))=5:=by rw[Fa,uO,aoH];decide+kernel
 have h:=abB a 1 c 128 (DZ.map fg) da 1 dc [1] _ _ _ _ _ _ w rfl zd aoC ha rfl hd hT (zP 8 zd).1 (zP 8 zd).1 (by rw[he];decide);rw[he]at h;exact h
def aoD :Rw 2 128 nQ:=by
 refine⟨rfl,by decide,λr hr c hc=>?_⟩;have:∃n,n<=1/\c=canon (dJ n):=by
  simp only[nQ,List.mem_cons,List.not_mem_nil,or_false]at hr;rcases hr with rfl|rfl|rfl<;>simp only[List.mem_cons,List.not_mem_nil,or_false]at hc<;>rcases hc with rfl|rfl
  . exact⟨0,by decide,rfl⟩
  . exact⟨0,by decide,rfl⟩
  . exact⟨1,by decide,rfl⟩
  . exact⟨0,by decide,rfl⟩
  . exact⟨0,by decide,rfl⟩
  . exact⟨1,by decide,rfl⟩
 obtain⟨n,hn,rfl⟩:=this;exact(MH n zo).fit zd
def abo (m k:Nat)(hb:un 1 (dJ 1) (dJ m) 2 (stA (fe 2) (dP 2 (cm nQ) 2) 3) (cZ (cH nQ 2) 3).2.2 (bK 2 (cm nQ))=some k)(hm:m<=1000000)(h2:0<bg (dJ m))(a:Option Addr)(c:Nat)(w:World)(hc:3<=c)(ha:bJ w a nQ)(hT:aC w):
 Cv 15 #[.slice a 3 c,af 1,.agg #[ag (az (dN (dJ 1))),ah (nt (dN (dJ 1)).natAbs),af (dE (dJ 1))],.agg #[ag (az (dN (dJ m))),ah (nt (dN (dJ m)).natAbs),af (dE (dJ m))]] w (.tuple #[af (k:Int),af 0]):=by
 have h:=aiW a c 2 nQ 128 1 _ _ _ _ _ _ w zd zd aoD hc ha zd hT (zP 1 zd) (zP m hm) aoL (by rw[uO];decide+kernel) (by rw[uO];exact h2) zd zd;rw[uO,uO,hb]at h;exact h
def aoE {w:World}{s p0 p1 p2:Nat}{t u:TypeId}(hs:ar w s t [.slice (some ⟨p0,0,none⟩) 2 2,.slice (some ⟨p1,0,none⟩) 2 2,.slice (some ⟨p2,0,none⟩) 2 2])(h0:ar w p0 u [ag (az (dN (dJ 0))),ah (nt (dN (dJ 0)).natAbs),af (dE (dJ 0)),ag (az (dN (dJ 0))),ah (nt (dN (dJ 0)).natAbs),af (dE (dJ 0))])(h1:ar w p1 u [ag (az (dN (dJ 1))),ah (nt (dN (dJ 1)).natAbs),af (dE (dJ 1)),ag (az (dN (dJ 0))),ah (nt (dN (dJ 0)).natAbs),af (dE (dJ 0))])(h2:ar w p2 u [ag (az (dN (dJ 0))),ah (nt (dN (dJ 0)).natAbs),af (dE (dJ 0)),ag (az (dN (dJ 1))),ah (nt (dN (dJ 1)).natAbs),af (dE (dJ 1))]):bJ w (some ⟨s,0,none⟩) nQ:=by
 refine⟨_,rfl,At.aGr hs,λi hi hi'=>?_⟩;have hi3:i<3:=hi;rcases i with _|_|_|i
 . exact⟨_,_,rfl,At.aGr h0⟩
 . exact⟨_,_,rfl,At.aGr h1⟩
 . exact⟨_,_,rfl,At.aGr h2⟩
 . omega
def uI (w:World)(hT:aC w):Cv 10 #[] w (ag true):=by
 have HT:=aj hT;clear hT;have afG:AL 0=1:=by decide+kernel
 have afH:AL 3=15:=by decide+kernel
 have afI:AL (-1)=0:=by decide+kernel
 have hn0:=λW=>WQ 0 W;have sG:=λW=>WQ 3 W;have Ox:=λW=>WQ (-1) W;simp only[afG]at hn0;simp only[afH]at sG;simp only[afI]at Ox;simp only[show cd 1=.agg #[ag false,ah (nt 1)]from rfl]at hn0;simp only[show cd 15=.agg #[ag false,ah (nt 15)]from rfl]at sG;simp only[show cd 0=.agg #[ag false,.string ⟨#[]⟩]from rfl]at Ox;obtain⟨qH,Rt,Hnm,Me,ane⟩:=gT hn0 sG Ox (λW=>PE 1 W zd) (λW=>PE 15 W zd);clear afG afH afI hn0 sG Ox;have Hb:=hbz w;go_enter Tryz.func10,Tryz.ntmps10;obtain⟨W1,aDf,aR,ae,ak⟩:=bX w (Hb.an trivial) 2 [af 0,af 4,af 0,af 3];go_wp2_with fail;refine(aib [0,4,0,3] 2 4 (some ⟨w.heap.size,0,none⟩) 4 _ rfl rfl zd zd (At.aGr ae.1.out)).mono ?_;rintro e w2 ⟨ba,bc,rfl,Ce,ai⟩;obtain⟨ae,ak⟩:=qX ai ae;have HB:Hid (At w2 ba ((mL.map fg).flatMap cK)):=Ce;clear Ce;go_wp2_with fail;refine aJ (HB.an ae) (kC 0 (dJ 0) rfl _ zd) λx1 ae ak=>?_;go_wp2_with fail;refine aJ ae (kC 0 (dJ 0) rfl _ zd) λx2 ae ak=>?_;obtain⟨Y1,aDk,aR,ae,ak⟩:=bX x2 ae 30 [ag (az (dN (dJ 0))),ah (nt (dN (dJ 0)).natAbs),af (dE (dJ 0)),ag (az (dN (dJ 0))),ah (nt (dN (dJ 0)).natAbs),af (dE (dJ 0))];go_wp2_with fail;refine aJ ae (kC 1 (dJ 1) rfl _ zd) λx3 ae ak=>?_;go_wp2_with fail;refine aJ ae (kC 0 (dJ 0) rfl _ zd) λx4 ae ak=>?_;obtain⟨Y2,aDl,aR,ae,ak⟩:=bX x4 ae 30 [ag (az (dN (dJ 1))),ah (nt (dN (dJ 1)).natAbs),af (dE (dJ 1)),ag (az (dN (dJ 0))),ah (nt (dN (dJ 0)).natAbs),af (dE (dJ 0))];go_wp2_with fail;refine aJ ae (kC 0 (dJ 0) rfl _ zd) λx5 ae ak=>?_;go_wp2_with fail;refine aJ ae (kC 1 (dJ 1) rfl _ zd) λx6 ae ak=>?_;obtain⟨Y3,aDm,aR,ae,ak⟩:=KH x6 ae 30 [ag (az (dN (dJ 0))),ah (nt (dN (dJ 0)).natAbs),af (dE (dJ 0)),ag (az (dN (dJ 1))),ah (nt (dN (dJ 1)).natAbs),af (dE (dJ 1))] 36 [.slice (some ⟨x2.heap.size,0,none⟩) 2 2,.slice (some ⟨x4.heap.size,0,none⟩) 2 2,.slice (some ⟨x6.heap.size,0,none⟩) 2 2];have HS:Hid (bJ Y3 (some ⟨x6.heap.size+1,0,none⟩) nQ):=aoE ae.2.1.out ae.2.2.2.1.out ae.2.2.1.out ae.1.out;go_wp2_with fail;refine(aoN ba bc _ ae.2.2.2.2.1.out (HT.out.below ae.2.2.2.2.2.2.1.out)).mono ?_;rintro e x7 ⟨oa,oc,rfl,hoa,ai⟩;obtain⟨ae,ak⟩:=qX ai (HS.an ae);have HO:Hid (At x7 oa (om [0,1,0,1,0])):=hoa;clear hoa;obtain⟨Z0,aDn,aR,ae,ak⟩:=bX x7 (HO.an ae) 3 [af 1,af 1];go_wp2_with fail;refine aJ ae (kC 8 (dJ 8) rfl _ zd) λx8 ae ak=>?_;go_wp2_with fail;refine aJ ae (kC 9 (dJ 9) rfl _ zd) λx9 ae ak=>?_;go_wp2_with fail;refine aJ ae (abn 8 9 0 aoG zd zd (by decide+kernel) (by decide+kernel) ba bc (some ⟨x7.heap.size,0,none⟩) 2 _ ae.2.2.2.2.2.2.2.1.out (At.aGr ae.1.out) (HT.out.below ae.2.2.2.2.2.2.2.2.2.1.out)) λx10 ae ak=>?_;obtain⟨Z1,aDo,aR,ae,ak⟩:=bX x10 ae 3 [af 1,af 1];go_wp2_with fail;refine aJ ae (kC 8 (dJ 8) rfl _ zd) λx11 ae ak=>?_;go_wp2_with fail;refine aJ ae (kC 8 (dJ 8) rfl _ zd) λx12 ae ak=>?_;go_wp2_with fail;refine aJ ae (abn 8 8 3 aoF zd zd (by decide+kernel) (by decide+kernel) ba bc (some ⟨x10.heap.size,0,none⟩) 2 _ ae.2.2.2.2.2.2.2.2.1.out (At.aGr ae.1.out) (HT.out.below ae.2.2.2.2.2.2.2.2.2.2.1.out)) λx13 ae ak=>?_;obtain⟨Z2,aDp,aR,ae,ak⟩:=bX x13 ae 2 [af 0,af 0];go_wp2_with fail;refine(aib [0,0] 1 2 (some ⟨x13.heap.size,0,none⟩) 2 _ rfl rfl zd zd (At.aGr ae.1.out)).mono ?_;rintro e YD ⟨fa,fc,rfl,ve,ai⟩;obtain⟨ae,ak⟩:=qX ai ae;have HF:Hid (At YD fa ((DZ.map fg).flatMap cK)):=ve;clear ve;obtain⟨Z3,aDq,aR,ae,ak⟩:=bX YD (HF.an ae) 3 [af 1];go_wp2_with fail
 refine aJ ae (kC 8 (dJ 8) rfl _ zd) λx15 ae ak=>?_;go_wp2_with fail;refine aJ ae (kC 8 (dJ 8) rfl _ zd) λx16 ae ak=>?_;go_wp2_with fail;refine aJ ae (aoM fa fc (some ⟨YD.heap.size,0,none⟩) 1 _ ae.2.1.out (At.aGr ae.1.out) (HT.out.below ae.2.2.2.2.2.2.2.2.2.2.2.2.2.1.out)) λx17 ae ak=>?_;obtain⟨Z4,aDr,aR,ae,ak⟩:=bX x17 ae 3 [af 1,af 1];go_wp2_with fail;refine aJ ae (kC 8 (dJ 8) rfl _ zd) λx18 ae ak=>?_;go_wp2_with fail;refine aJ ae (kC 0 (dJ 0) rfl _ zd) λx19 ae ak=>?_;go_wp2_with fail;refine aJ ae (aoO ba bc (some ⟨x17.heap.size,0,none⟩) 2 _ ae.2.2.2.2.2.2.2.2.2.2.2.2.1.out (At.aGr ae.1.out) (HT.out.below ae.2.2.2.2.2.2.2.2.2.2.2.2.2.2.1.out)) λx20 ae ak=>?_;go_wp2_with fail;refine aJ ae (kC 1 (dJ 1) rfl _ zd) λx21 ae ak=>?_;go_wp2_with fail;refine aJ ae (kC 2 (dJ 2) rfl _ zd) λx22 ae ak=>?_;go_wp2_with fail;refine aJ ae (abo 2 0 aoK zd (by decide+kernel) (some ⟨x6.heap.size+1,0,none⟩) 3 _ zd ae.2.2.2.2.2.2.2.1.out (HT.out.below ae.2.2.2.2.2.2.2.2.2.2.2.2.2.2.1.out)) λx23 ae ak=>?_;go_wp2_with fail;refine aJ ae (kC 1 (dJ 1) rfl _ zd) λx24 ae ak=>?_;go_wp2_with fail;refine aJ ae (kC 1 (dJ 1) rfl _ zd) λx25 ae ak=>?_;go_wp2_with fail;refine aJ ae (abo 1 14 aoJ zd (by decide+kernel) (some ⟨x6.heap.size+1,0,none⟩) 3 _ zd ae.2.2.2.2.2.2.2.1.out (HT.out.below ae.2.2.2.2.2.2.2.2.2.2.2.2.2.2.1.out)) λx26 ae ak=>?_;obtain⟨Z5,aDs,aR,ae,ak⟩:=bX x26 ae 3 [af 0,af 1,af 0,af 1,af 0];go_wp2_with fail;refine aJ ae (aw8 [0,1,0,1,0] 5 oa (some ⟨x26.heap.size,0,none⟩) oc 5 _ rfl zd ae.2.2.2.2.2.2.2.1.out (At.aGr ae.1.out)) λx27 ae ak=>?_;go_wp2_with fail;refine aJ ae (qH.out _) λx28 ae ak=>?_;go_wp2_with fail;refine aJ ae (Me.out _) λx29 ae ak=>?_;go_wp2_with fail;refine aJ ae (Rt.out _) λx30 ae ak=>?_;go_wp2_with fail;refine aJ ae (ane.out _) λx31 ae ak=>?_;go_wp2_with fail;refine aJ ae (Hnm.out _) λx32 ae ak=>?_;go_wp2;refine bodyPost_ret (results_tmp rfl _ _ _) rfl ⟨rfl,ae.2.2.2.2.2.2.2.2.2.2.2.2.2.2.2.1.out⟩
end Go.Proofs.YtbkopgdpcijfbaaGreatDoor
