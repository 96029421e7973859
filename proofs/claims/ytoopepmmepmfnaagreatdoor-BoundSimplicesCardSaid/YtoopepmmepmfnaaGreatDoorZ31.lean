/- Package bound: Simplices. -/
import Derived.Test.YtoopepmmepmfnaaGreatDoorZ24
import Derived.Test.YtoopepmmepmfnaaGreatDoorZ30
import Derived.Test.YtoopepmmepmfnaaGreatDoorZ12
import Derived.Test.YtoopepmmepmfnaaGreatDoorZ7
set_option linter.unusedVariables false
set_option linter.unusedSimpArgs false
set_option maxRecDepth 100000
set_option maxHeartbeats 16000000
namespace Go.Proofs.YtoopepmmepmfnaaGreatDoor
open Go.RowKit
attribute [local go_sem ↓] Go.wp_at_zero Go.wp_at_succ
def AL (d:Int):Dyadic:=Dyadic.ofIntWithPrec d 0
def Iz (d:Int)(G:Dyadic)(n:Nat)(E l:Dyadic):Dyadic:=(AL d*G) * ((AL d*G) * (AL (n+1) * (E* (l*1))))
def Mi (M S:Dyadic):Dyadic:=(M* (M* (S* (S*1)))) *wH 2
def ot (d:Int)(G M:Dyadic)(n:Nat)(E l S:Dyadic):Option Nat:=if bA (G-M)<0 then some 0 else xZ (sk (Iz d G n E l) (Mi M S)) n
def ir (n:Nat)(l:List UInt8):Bool:=decide (l≠jc n)
theorem Xn (n:Nat)(P:Nat->Nat->Dyadic)(i j:Nat):∀t∈fy n P i j,t.1=jc n\/∃k,k<n/\t.1=dt n k:=by
 have hl:∀c l,∀t∈dO n c l n,t.1=jc n\/∃k,k<n/\t.1=dt n k:=λc l t ht=>by
  unfold dO bY at ht;obtain⟨u,hu,rfl⟩:=List.mem_map.1 ht;obtain⟨y,hy,e⟩:=acW _ u (List.mem_filter.1 hu).1;rw[<-e];unfold iO at hy;rcases List.mem_cons.1 hy with rfl|hy
  . exact .inl rfl
  . obtain⟨k,hk,rfl⟩:=List.mem_map.1 hy;exact .inr ⟨k,List.mem_range.1 hk,rfl⟩
 intro t ht;unfold fy lh nY at ht;split at ht
 . exact hl _ _ t ht
 . exact hl _ _ t ht
theorem Pk (n:Nat)(P:Nat->Nat->Dyadic)(i j:Nat):(fy n P i j).length<=n+1:=by
 have hl:∀c l,(dO n c l n).length<=n+1:=λc l=>by unfold dO bY;rw[List.length_map];exact Nat.le_trans (List.length_filter_le _ _) (Nat.le_trans (IA _) (by rw[CZ];exact Nat.le_refl _))
 unfold fy lh nY;split<;>exact hl _ _
theorem WL (n:Nat):jP (jc n)=0:=by unfold jP jc;simp
theorem WK (n k:Nat)(hk:k<n):jP (dt n k)=1:=by
 unfold jP dt;induction n generalizing k with
 |zero=>omega
 | succ n ih=>
   cases k with
   |zero=>simp[List.replicate_succ]
   |succ k=>rw[List.replicate_succ,List.set_cons_succ,List.map_cons,List.sum_cons,ih k zo];rfl
theorem akw (n:Nat)(P:Nat->Nat->Dyadic)(i j:Nat):∀t∈fy n P i j,(jP t.1=1↔ir n t.1=true):=by
 intro t ht;unfold ir;rcases Xn n P i j t ht with h|⟨k,hk,h⟩
 . rw[h,WL];simp
 . rw[h,WK n k hk];have:dt n k≠jc n:=λe=>by have h1:=WK n k hk;rw[e,WL]at h1;omega
   simp[this]
theorem acM (a:Option Addr)(cap n:Nat)(rows:List (List Raw))(B:Nat)(fX:Int)(gs:Bool)(gl:List UInt8)(ge:Int)(ms:Bool)(ml:List UInt8)(me:Int)(w:World)(hn:1<=n)(bO:n<=4)(hr:Rw n B rows)(hcap:n+1<=cap)(ha:cC w a rows)(hB:B<=10000)(hT:aH w)
 (hg:Fit 300 (gs,gl,ge)) (hm:Fit 300 (ms,ml,me)) (hc:kQ rows=0) (hg0:0<=bA (az (gs,gl,ge))) (hm0:0<bA (az (ms,ml,me))) (hd0:0<=fX) (hd1:fX<18446744073709551616/4):
 Calls Tryz.prog 21 #[.slice a (n+1) cap,af fX,.agg #[ag gs,ah gl,af ge],.agg #[ag ms,ah ml,af me]] w λe w'=>e=.returned (.tuple #[af (((ot fX (az (gs,gl,ge)) (az (ms,ml,me)) n (stA (ir n) (fy n (bT rows) n) (n+1)) (iP (gq rows n) (n+1)).2.2 (dw n (bT rows))).getD 0:Nat):Int),af (if ot fX (az (gs,gl,ge)) (az (ms,ml,me)) n (stA (ir n) (fy n (bT rows) n) (n+1)) (iP (gq rows n) (n+1)).2.2 (dw n (bT rows))=none then 3 else 0)])/\Bw w w':=by
 have xQ:=DC hr.1 hr.2.1 hn zo;have Aq:=λW (hW:Bw w W)=>Tv a (n+1) cap rows B W hr.1 zo hcap (ha.below hW) hr.2.2 zo (hT.below hW);rw[hc]at Aq;have nV:=λW=>JR gs gl ge ms ml me W hg.1 hm.1;rw[decide_eq_true (show 0<=bA (az (gs,gl,ge))/\0<bA (az (ms,ml,me))from⟨hg0,hm0⟩)]at nV;obtain⟨c,hcc⟩:=aG (bA (az (gs,gl,ge)-az (ms,ml,me)));have hcm:=λW (hW:Bw w W)=>vD gs gl ge ms ml me c hcc W hg.1 hm.1 (hT.below hW);obtain⟨S,hS⟩:=aG (dw n (bT rows));have hsz:=λW (hW:Bw w W)=>acN a cap n rows B S W hn bO hr.1 hr.2.1 hcap (ha.below hW) hr.2.2 zo (hT.below hW) hS;have ji:Sm (4*B+10) S:=by
  rw[<-hS,vE];refine(zF (B:=B+1) hn bO (λi j hi hj=>?_)).mono zo;have h0:0<rows.length:=by have:=hr.1;omega
  have h1:i+1<rows.length:=by have:=hr.1;omega
  have l0:=hr.2.1 _ (List.getElem_mem h0);have l1:=hr.2.1 _ (List.getElem_mem h1);rw[se rows (i+1) j h1 zo,se rows 0 j h0 zo];exact Sm.sub (hr.2.2 _ (List.getElem_mem h1) _ (List.getElem_mem _)).2 (hr.2.2 _ (List.getElem_mem h0) _ (List.getElem_mem _)).2
 have hfo:∀W,Bw w W->Calls Tryz.prog 55 #[.slice a (n+1) cap] W (TN W n B (bT rows)):=λW hW=>by obtain⟨m,rfl⟩:∃m,n=m+1:=⟨n-1,by omega⟩;exact aky a cap m rows B W bO hr hcap (ha.below hW) zo (hT.below hW) hc
 obtain⟨l,hl⟩:=aG ((iP (gq rows n) (n+1)).2.2);obtain⟨i0,hi0⟩:∃i,(iP (gq rows n) (n+1)).1=i:=⟨_,rfl⟩;obtain⟨j0,Ge⟩:∃i,(iP (gq rows n) (n+1)).2.1=i:=⟨_,rfl⟩;have qw:=λW (hW:Bw w W)=>ane a (n+1) cap n rows B W hr.1 xQ hn (ha.below hW) hr.2.2 zo (hT.below hW);have hls:=abh (n:=n) (L:=n+1) hr.2.2 zo;rw[hl]at hls;simp only[hl,hi0,Ge]at qw;obtain⟨E,hE⟩:=aG (stA (ir n) (fy n (bT rows) n) (n+1));have Rq:=λfa fc ps W (h1:ps.length=n+1) (h2:At W fa (ps.flatMap jv)) (h3:iK W n (5*B+33) ps (fy n (bT rows) n)) (hT:aH W)=>aqR (ir n) fa (n+1) fc n (5*B+33) ps (fy n (bT rows) n) W h1 zo zo h2 h3 zo (λj _=>akw n (bT rows) n j) (λj _=>by have:=Pk n (bT rows) n j;omega) hT;simp only[hE]at Rq;have fN:(∀j,j<n+1->(∀t∈fy n (bT rows) n j,Sm (5*B+33) (az t.2)))->Sm (11*B+600) E:=λh=>by rw[<-hE];exact(Tm (N:=5) (L:=n+1) (λj hj=>⟨h j hj,by have:=Pk n (bT rows) n j;omega⟩) (n+1) (Nat.le_refl _)).mono zo
 obtain⟨R,hR⟩:=aG (ot fX (az (gs,gl,ge)) (az (ms,ml,me)) n E l S);rw[hE,hl,hS,hR];obtain⟨D,hD⟩:=aG (AL fX);obtain⟨I,hI⟩:=aG (AL ((n:Int)+1));obtain⟨G,hG⟩:=aG (az (gs,gl,ge));obtain⟨F,hF⟩:=aG (D*G);obtain⟨M,hM⟩:=aG (az (ms,ml,me));obtain⟨X,hX⟩:=aG (F* (F* (I* (E* (l*1)))));obtain⟨Z,hZ⟩:=aG (M* (M* (S* (S*1))));obtain⟨Y,hY⟩:=aG (Z*wH 2);have eV:Sm 128 D:=by rw[<-hD];exact wm _ zo
 have zN:Sm 128 I:=by rw[<-hI];exact wm _ zo
 have ux:Sm 300 G:=by rw[<-hG];exact hg.2
 have PQ:Sm 300 M:=by rw[<-hM];exact hm.2
 have pS:Sm 428 F:=by rw[<-hF];exact Sm.mul eV ux
 have vK:Sm (8*B+630) Z:=by
  rw[<-hZ];have h1:S*1=S:=by grind
  rw[h1];exact(Sm.mul PQ (Sm.mul PQ (Sm.mul ji ji))).mono zo
 have fT:Sm (13*B+3000) Y:=by rw[<-hY];exact(Sm.mul vK (adt 2)).mono zo
 have dM:Sm (11*B+600) E->Sm (13*B+3000) X:=λh=>by
  rw[<-hX];have h1:l*1=l:=by grind
  rw[h1];exact(Sm.mul pS (Sm.mul pS (Sm.mul zN (Sm.mul h hls)))).mono zo
 have td:c<0->R=some 0:=λh=>by rw[<-hR];unfold ot;rw[if_pos (by rw[hcc];exact h)]
 have xp:0<=c->xZ (sk X Y) n=R:=λh=>by rw[<-hR];unfold ot;rw[if_neg (by rw[hcc];omega)];unfold Iz Mi;rw[hD,hG,hF,hI,hX,hM,hZ,hY]
 have qD:Hid (Dyadic.ofIntWithPrec fX 0=D):=hD;have qI:Hid (Dyadic.ofIntWithPrec ((n:Int)+1) 0=I):=hI;have qF:Hid (az (zT3 D) *az (gs,gl,ge)=F):=by show az (canon D) *_=F;rw[bD,hG];exact hF
 have qX:Hid (ki [(zT3 F),(zT3 F),(zT3 I),(zT3 E),(zT3 l)]=X):=by
  show az (canon F) * (az (canon F) * (az (canon I) * (az (canon E) * (az (canon l) *1))))=X
  rw[bD,bD,bD,bD];exact hX
 have qZ:Hid (ki [(ms,ml,me),(ms,ml,me),(zT3 S),(zT3 S)]=Z):=by
  show az (ms,ml,me) * (az (ms,ml,me) * (az (canon S) * (az (canon S) *1)))=Z
  rw[bD,hM];exact hZ
 have qY:Hid (az (au (dN Z),nt (dN Z).natAbs,dE Z+2)=Y):=by show _=Y;rw[<-hY];exact acK Z 2
 have fD:Hid (Fit 300 (zT3 D)):=(eV.mono zo).fit zo;have fG:Hid (Fit 300 (gs,gl,ge)):=hg;have fF:Hid (Fit (11*B+1000) (zT3 F)):=(pS.mono zo).fit zo;have fI:Hid (Fit (11*B+1000) (zT3 I)):=(zN.mono zo).fit zo;have fl:Hid (Fit (11*B+1000) (zT3 l)):=(hls.mono zo).fit zo;have fE:Hid (Sm (11*B+600) E->Fit (11*B+1000) (zT3 E)):=λh=>(h.mono zo).fit zo;have fM:Hid (Fit (11*B+1000) (ms,ml,me)):=hm.mono zo;have fS:Hid (Fit (11*B+1000) (zT3 S)):=(ji.mono zo).fit zo;have fZ:Hid (Ok (zT3 Z)):=(vK.fit zo).1;obtain⟨nv,tG⟩:∃nv:Int,((R.getD 0:Nat):Int)=nv:=⟨_,rfl⟩;obtain⟨er,her⟩:∃er:Int,(if R=none then 3 else 0)=er:=⟨_,rfl⟩;rw[tG,her];obtain⟨Ez,Ei,NU,yR,yJ,jN,wP,Ew,agO,DU,pI,sw⟩:=gB tG her Aq nV hcm hsz hfo qw Rq fN dM fT;obtain⟨yD,DZ,HT⟩:=cL td xp hT;clear tG her Aq nV hcm hsz hfo qw Rq fN dM fT td xp hT hD hI hG hF hM hX hZ hY eV zN ux PQ pS vK ji hls hS hl hi0 Ge hE hR hcc hc hg hm hg0 hm0 xQ hr ha;obtain⟨W,cg,Hb,Hg,Hm⟩:=iq w 39 [ag gs,ah gl,af ge] 39 [ag ms,ah ml,af me];obtain⟨g0,g1,g2⟩:=Hg.out.c3;obtain⟨m0,m1,m2⟩:=Hm.out.c3;go_enter Tryz.func21,Tryz.ntmps21;go_wp2_with fail;refine(NU.out _ Hb.out).mono ?_;rintro e w1 ⟨rfl,ae⟩;clear g0 g1 g2 m0 m1 m2;obtain⟨Hg,g0,g1,g2⟩:=aQ Hg ae;obtain⟨Hm,m0,m1,m2⟩:=aQ Hm ae;replace Hb:=aB Hb ae;clear ae;go_wp2_with fail;refine(yR.out _).mono ?_;rintro e w2 ⟨rfl,ae⟩;clear g0 g1 g2 m0 m1 m2;obtain⟨Hg,g0,g1,g2⟩:=aQ Hg ae;obtain⟨Hm,m0,m1,m2⟩:=aQ Hm ae;replace Hb:=aB Hb ae;clear ae;go_wp2_with fail;refine(yJ.out _ Hb.out).mono ?_;rintro e w3 ⟨rfl,ae⟩;clear g0 g1 g2 m0 m1 m2;obtain⟨Hg,g0,g1,g2⟩:=aQ Hg ae;obtain⟨Hm,m0,m1,m2⟩:=aQ Hm ae;replace Hb:=aB Hb ae;clear ae;by_cases hc0:c<0
 . have hR:=yD.out hc0;subst hR;go_wp2;exact bodyPost_ret (v:=.tuple #[af 0,af 0]) (by simp[results,Tryz.results21,go_sem]) rfl ⟨by rw[<-Ez.out,<-Ei.out];rfl,Hb.out⟩
 . have hR:=DZ.out zo;have pK:=ai hR;clear hR;have lg:=Hg.out.lt;have lm:=Hm.out.lt;go_wp2_with fail;refine(jN.out _ Hb.out).mono ?_;rintro e w4 ⟨rfl,ae⟩;clear g0 g1 g2 m0 m1 m2;obtain⟨Hg,g0,g1,g2⟩:=aQ Hg ae;obtain⟨Hm,m0,m1,m2⟩:=aQ Hm ae;replace Hb:=aB Hb ae;clear ae;have avj:=Hg.out.lt;have avv:=Hm.out.lt;obtain⟨W4,lU,ae,Hz⟩:=cd w4 39 (zL3 S);clear g0 g1 g2;replace Hg:=kB Hg ae;clear m0 m1 m2;obtain⟨Hm,m0,m1,m2⟩:=aQ Hm ae;obtain⟨g0,g1,g2⟩:=Hg.out.c3;obtain⟨z0,z1,z2⟩:=Hz.out.c3;replace Hb:=aB Hb ae;clear ae;go_wp2_with fail;refine(wP.out _ Hb.out).mono ?_;rintro e w5 ⟨fa,fc,ps,rfl,hfc,hpl,hat,hpo,ae⟩;clear g0 g1 g2 m0 m1 m2 z0 z1 z2;obtain⟨Hg,g0,g1,g2⟩:=aQ Hg ae;obtain⟨Hm,m0,m1,m2⟩:=aQ Hm ae;obtain⟨Hz,z0,z1,z2⟩:=aQ Hz ae;replace Hb:=aB Hb ae;clear ae;have HA:Hid (At w5 fa (ps.flatMap jv)):=hat;have HO:Hid (iK w5 n (5*B+33) ps (fy n (bT rows) n)):=hpo;have fN:=DU.out (λj hj t ht=>by obtain⟨_,_,_,_,h⟩:=hpo j zo;exact(h.2 t ht).2);obtain⟨FE,FX,jY⟩:=cL (fE.out fN) (pI.out fN) hpl;clear hat hpo fN hpl;go_wp2_with fail;refine(Ew.out _ Hb.out).mono ?_;rintro e w6 ⟨rfl,ae⟩;clear g0 g1 g2 m0 m1 m2 z0 z1 z2;replace Hg:=kB Hg ae;replace Hm:=kB Hm ae;replace Hz:=kB Hz ae;replace HA:=kA HA ae;replace HO:=ai (HO.out.below ae);obtain⟨g0,g1,g2⟩:=Hg.out.c3;obtain⟨m0,m1,m2⟩:=Hm.out.c3;obtain⟨z0,z1,z2⟩:=Hz.out.c3;replace Hb:=aB Hb ae;clear ae;have Sa:=Hg.out.lt;have abq:=Hm.out.lt;have av9:=Hz.out.lt;obtain⟨W6,nO,ae,He⟩:=cd w6 39 (zL3 l);clear g0 g1 g2;replace Hg:=kB Hg ae;clear m0 m1 m2;replace Hm:=kB Hm ae;clear z0 z1 z2;replace Hz:=kB Hz ae;replace HA:=kA HA ae;replace HO:=ai (HO.out.below ae);obtain⟨g0,g1,g2⟩:=Hg.out.c3;obtain⟨m0,m1,m2⟩:=Hm.out.c3;obtain⟨z0,z1,z2⟩:=Hz.out.c3;obtain⟨e0,e1,e2⟩:=He.out.c3;replace Hb:=aB Hb ae;clear ae;have hw1:IntKind.i64.wrap (((n+1:Nat):Int)-1)=(n:Int):=by rw[IntKind.wrap_i64];omega
   have hw2:IntKind.i64.wrap ((n:Int)+1)=(n:Int)+1:=by rw[IntKind.wrap_i64];omega
   have hz6:=Hb.out.size;have BA:=Hb;have Uk:=ai (HT.out.below Hb.out);have Jg:=Hg;have Jm:=Hm;have Jz:=Hz;have Je:=He;have JA:=HA;have JO:=HO;clear Hb;have Hb:Hid (Bw W6 W6):=Below.refl _ _;go_upto_region 12 with fail
   go_cut[20] (λSZ wx=>∃f:Nat,SZ=.pointer (some ⟨f,0,none⟩)/\W6.heap.size<=f/\ar wx f 39 (zL3 F)/\Bw W6 wx);case first=>
    obtain⟨g0,g1,g2⟩:=Hg.out.c3;have iT:∀w',fL W6 w'->aC w' (w.heap.size) 0 (ag gs)/\aC w' (w.heap.size) 1 (ah gl)/\aC w' (w.heap.size) 2 (af ge):=λw' h=>⟨cell_later h g0,cell_later h g1,cell_later h g2⟩;refine DL (λw'=>fL W6 w') (λi=>Nat.blt i 6) 5 39 [ag false,.string ⟨#[]⟩,af 0] [(0,true),(2,true),(1,false),(3,false),(4,false)] [(6,false)] zk zk rfl rfl rfl zk zk zc zc (λK a w h=>Di rfl rfl (λK' hK=>by go_simp;exact hK _ _ h)) ?_;clear g0 g1 g2 Hg;intro W6f ae;replace Hb:=ai (aJ Hb.out ae);refine⟨Hb.out,?_⟩;clear ae;iterate 2 (refine Ba rfl rfl (v:=?_) (λw' hw'=>?_) ?_;rotate_left;(focus have hw':=iT w' hw';obtain⟨q0,q1,q2⟩:=hw';go_simp;try with_reducible rfl))
    refine lF rfl rfl (λK hK=>?_);go_simp;with_reducible refine(xj fX D qD.out _ zo (Uk.out.below Hb.out)).mono ?_
    rintro e w9 ⟨rfl,hq⟩;refine hK _ _ hq (λw8 ae hb2=>?_);replace Hb:=ai (aJ Hb.out ae);refine⟨Hb.out,?_⟩;clear ae hb2 hq hK K
    refine lF rfl rfl (λK hK=>?_);go_simp;refine hK _ _ zl (λW9 ae hb2=>?_);have qv:=(ar.new w8 39 [ag (au (dN D)),ah (nt (dN D).natAbs),af (dE D),ag gs,ah gl,af ge]).below hb2;replace Hb:=ai (aJ Hb.out ae);refine⟨Hb.out,?_⟩;have Hv:=ai qv;clear qv ae hb2 hK K
    refine lF rfl rfl (λK hK=>?_);go_simp;with_reducible refine(xh _ _ _ gs gl ge F 300 qF.out _ 2 39 _ fD.out fG.out zo Hv.out (Uk.out.below Hb.out)).mono ?_
    rintro e w9 ⟨rfl,hq⟩;refine hK _ _ hq (λdQ ae hb2=>?_);replace Hb:=ai (aJ Hb.out ae);replace Hv:=ai (Hv.out.below ae);refine⟨Hb.out,?_⟩;clear ae hb2 hq hK K
    intro f_b hb0 qx;have Hf:=ai qx;clear qx;obtain⟨f0,ff0,f1,ff1,f2,ff2⟩:=Hf.out.g3
    refine aI rfl rfl (λK hK=>?_);go_simp;refine hK _ _ (λh=>absurd h zd) ?_;clear hK K
    simp only[bi];go_wp2_with fail;go_meet;exact⟨f_b,rfl,hb0,((Hf.out.set 0 _).set 1 _).set 2 _,((Hb.out.setCell zp _).setCell zp _).setCell zp _⟩
   case rest=>
    obtain⟨f,rfl,hf,qf,qb⟩:=hcut;have HlX:Hid (∀x∈[(zT3 F),(zT3 F),(zT3 I),(zT3 E),(zT3 l)],Fit (11*B+1000) x):=by
     intro x h;simp only[List.mem_cons,List.not_mem_nil,or_false]at h;rcases h with rfl|rfl|rfl|rfl|rfl
     . exact fF.out
     . exact fF.out
     . exact fI.out
     . exact FE.out
     . exact fl.out
    have HlZ:Hid (∀x∈[(ms,ml,me),(ms,ml,me),(zT3 S),(zT3 S)],Fit (11*B+1000) x):=by
     intro x h;simp only[List.mem_cons,List.not_mem_nil,or_false]at h;rcases h with rfl|rfl|rfl|rfl
     . exact fM.out
     . exact fM.out
     . exact fS.out
     . exact fS.out
    have Jv:Hid (∀W b,ar W b 39 [ag (au (dN F)),ah (nt (dN F).natAbs),af (dE F),ag (au (dN F)),ah (nt (dN F).natAbs),af (dE F),ag (au (dN I)),ah (nt (dN I).natAbs),af (dE I),ag (au (dN E)),ah (nt (dN E).natAbs),af (dE E),ag (au (dN l)),ah (nt (dN l).natAbs),af (dE l)]->aH W->Calls Tryz.prog 46 #[.slice (some ⟨b,0,none⟩) 5 5] W λe w'=>e=.returned (bL X)/\Bw W w'):=λW b hb hT=>OT [(zT3 F),(zT3 F),(zT3 I),(zT3 E),(zT3 l)] (11*B+1000) X qX.out _ 5 W HlX.out zi zm (At.aw2 hb) hT;have HmZ:Hid (∀W b,ar W b 39 [ag ms,ah ml,af me,ag ms,ah ml,af me,ag (au (dN S)),ah (nt (dN S).natAbs),af (dE S),ag (au (dN S)),ah (nt (dN S).natAbs),af (dE S)]->aH W->Calls Tryz.prog 46 #[.slice (some ⟨b,0,none⟩) 4 4] W λe w'=>e=.returned (bL Z)/\Bw W w'):=λW b hb hT=>OT [(ms,ml,me),(ms,ml,me),(zT3 S),(zT3 S)] (11*B+1000) Z qZ.out _ 4 W HlZ.out zi zm (At.aw2 hb) hT;have lI:=ai (aJ BA.out qb);obtain⟨ME,VL,VM,VK,VI,VJ,Hf⟩:=jT (HT.out.below lI.out) (Jm.out.below qb) (Jz.out.below qb) (Je.out.below qb) (JA.out.below qb) (JO.out.below qb) qf;have hzc:=qb.size;clear qf qb Hb Jg Jm Jz Je JA JO Hg Hm Hz He HA HO;obtain⟨W7,xq⟩:∃W7,W7=wc:=⟨_,rfl⟩;subst xq;have Hb:Hid (Bw W7 W7):=Below.refl _ _;go_upto_region 13 with fail
    go_cut[21] (λs21 wx=>∃x:Nat,s21=.pointer (some ⟨x,0,none⟩)/\W7.heap.size<=x/\ar wx x 39 (zL3 X)/\Bw W7 wx);case first=>
     have He:=VK;obtain⟨f0,f1,f2⟩:=Hf.out.c3;obtain⟨e0,e1,e2⟩:=He.out.c3;have iT:∀w',fL W7 w'->aC w' f 0 (ag (au (dN F)))/\aC w' f 1 (ah (nt (dN F).natAbs))/\aC w' f 2 (af (dE F))/\aC w' (w6.heap.size) 0 (ag (au (dN l)))/\aC w' (w6.heap.size) 1 (ah (nt (dN l).natAbs))/\aC w' (w6.heap.size) 2 (af (dE l)):=λw' h=>⟨cell_later h f0,cell_later h f1,cell_later h f2,cell_later h e0,cell_later h e1,cell_later h e2⟩;refine DL (λw'=>fL W7 w') (λi=>Nat.blt i 11) 10 39 [ag false,.string ⟨#[]⟩,af 0] [(0,true),(1,true),(2,true),(3,true),(5,true),(7,true),(4,false),(6,false),(8,false),(9,false)] [(11,false)] zk zk rfl rfl rfl zk zk zc zc (λK a w h=>Di rfl rfl (λK' hK=>by go_simp;exact hK _ _ h)) ?_;clear f0 f1 f2 e0 e1 e2 Hf He;intro W7f ae;replace Hb:=ai (aJ Hb.out ae);refine⟨Hb.out,?_⟩;clear ae;iterate 6 (refine Ba rfl rfl (v:=?_) (λw' hw'=>?_) ?_;rotate_left;(focus have hw':=iT w' hw';obtain⟨q0,q1,q2,q3,q4,q5⟩:=hw';go_simp;try with_reducible rfl))
     refine lF rfl rfl (λK hK=>?_);go_simp;with_reducible refine(xj ((n:Int)+1) I qI.out _ zo (ME.out.below Hb.out)).mono ?_
     rintro e w9 ⟨rfl,hq⟩;refine hK _ _ hq (λw8 ae hb2=>?_);replace Hb:=ai (aJ Hb.out ae);refine⟨Hb.out,?_⟩;clear ae hb2 hq hK K
     refine lF rfl rfl (λK hK=>?_);go_simp;with_reducible refine(agO.out fa fc ps _ jY.out (VI.out.below Hb.out) (VJ.out.below Hb.out) (ME.out.below Hb.out)).mono ?_
     rintro e w9 ⟨rfl,hq⟩;refine hK _ _ hq (λw9 ae hb2=>?_);replace Hb:=ai (aJ Hb.out ae);refine⟨Hb.out,?_⟩;clear ae hb2 hq hK K
     refine lF rfl rfl (λK hK=>?_);go_simp;refine hK _ _ zl (λvw ae hb2=>?_);have qv:=(ar.new w9 39 [ag (au (dN F)),ah (nt (dN F).natAbs),af (dE F),ag (au (dN F)),ah (nt (dN F).natAbs),af (dE F),ag (au (dN I)),ah (nt (dN I).natAbs),af (dE I),ag (au (dN E)),ah (nt (dN E).natAbs),af (dE E),ag (au (dN l)),ah (nt (dN l).natAbs),af (dE l)]).below hb2;replace Hb:=ai (aJ Hb.out ae);refine⟨Hb.out,?_⟩;have Hv:=ai qv;clear qv ae hb2 hK K
     refine lF rfl rfl (λK hK=>?_);go_simp;with_reducible refine(Jv.out _ _ Hv.out (ME.out.below Hb.out)).mono ?_
     rintro e w9 ⟨rfl,hq⟩;refine hK _ _ hq (λdX ae hb2=>?_);replace Hb:=ai (aJ Hb.out ae);replace Hv:=ai (Hv.out.below ae);refine⟨Hb.out,?_⟩;clear ae hb2 hq hK K
     intro TJ hb0 qx;have Hx:=ai qx;clear qx;obtain⟨x0,aY,x1,aZ,x2,bj⟩:=Hx.out.g3
     refine aI rfl rfl (λK hK=>?_);go_simp;refine hK _ _ (λh=>absurd h zd) ?_;clear hK K
     simp only[bi];go_wp2_with fail;go_meet;exact⟨TJ,rfl,hb0,((Hx.out.set 0 _).set 1 _).set 2 _,((Hb.out.setCell zp _).setCell zp _).setCell zp _⟩
    case rest=>
     obtain⟨x,rfl,hx,qx,qb⟩:=hcut;have gY:=ai (aJ lI.out qb);obtain⟨HT8,Hm,Hz,Hx⟩:=dx (HT.out.below gY.out) (VL.out.below qb) (VM.out.below qb) qx;have hzx:=qx.lt;clear qx qb Hb Hf VL VM VK VI VJ BA lI;obtain⟨W8,FU⟩:∃W8,W8=wc:=⟨_,rfl⟩;subst FU;have Hb:=gY;clear gY;obtain⟨m0,m1,m2⟩:=Hm.out.c3;obtain⟨z0,z1,z2⟩:=Hz.out.c3;obtain⟨x0,x1,x2⟩:=Hx.out.c3;have Oh:=m0;have Oi:=m1;have Oj:=m2;have Kz0:=z0;have Kz1:=z1;have Kz2:=z2;have avx:=Hm.out.lt;have awa:=Hz.out.lt;have anB:=Hx.out.lt;obtain⟨W9,Qj,ae,Hv⟩:=cd W8 39 [ag ms,ah ml,af me,ag ms,ah ml,af me,ag (au (dN S)),ah (nt (dN S).natAbs),af (dE S),ag (au (dN S)),ah (nt (dN S).natAbs),af (dE S)];clear m0 m1 m2;replace Hm:=kB Hm ae;clear z0 z1 z2;replace Hz:=kB Hz ae;clear x0 x1 x2;obtain⟨Hx,x0,x1,x2⟩:=aQ Hx ae;obtain⟨m0,m1,m2⟩:=Hm.out.c3;obtain⟨z0,z1,z2⟩:=Hz.out.c3;have v0:W9.cell? ⟨W8.heap.size,0,none⟩=some (ag ms):=Hv.out.cell 0;have v1:W9.cell? ⟨W8.heap.size,1,none⟩=some (ah ml):=Hv.out.cell 1;have v2:W9.cell? ⟨W8.heap.size,2,none⟩=some (af me):=Hv.out.cell 2;have v3:W9.cell? ⟨W8.heap.size,3,none⟩=some (ag ms):=Hv.out.cell 3;have v4:W9.cell? ⟨W8.heap.size,4,none⟩=some (ah ml):=Hv.out.cell 4;have v5:W9.cell? ⟨W8.heap.size,5,none⟩=some (af me):=Hv.out.cell 5;have v6:W9.cell? ⟨W8.heap.size,6,none⟩=some (ag (au (dN S))):=Hv.out.cell 6;have v7:W9.cell? ⟨W8.heap.size,7,none⟩=some (ah (nt (dN S).natAbs)):=Hv.out.cell 7;have v8:W9.cell? ⟨W8.heap.size,8,none⟩=some (af (dE S)):=Hv.out.cell 8;have v9:W9.cell? ⟨W8.heap.size,9,none⟩=some (ag (au (dN S))):=Hv.out.cell 9;have v10:W9.cell? ⟨W8.heap.size,10,none⟩=some (ah (nt (dN S).natAbs)):=Hv.out.cell 10;have v11:W9.cell? ⟨W8.heap.size,11,none⟩=some (af (dE S)):=Hv.out.cell 11;replace Hb:=aB Hb ae;clear ae;go_wp2_with fail;refine(HmZ.out _ _ Hv.out (HT.out.below Hb.out)).mono ?_;rintro e dQ ⟨rfl,ae⟩;clear m0 m1 m2 z0 z1 z2 x0 x1 x2 v0 v1 v2 v3 v4 v5 v6 v7 v8 v9 v10 v11;obtain⟨Hm,m0,m1,m2⟩:=aQ Hm ae;obtain⟨Hz,z0,z1,z2⟩:=aQ Hz ae;obtain⟨Hx,x0,x1,x2⟩:=aQ Hx ae;replace Hv:=kB Hv ae;have v0:dQ.cell? ⟨W8.heap.size,0,none⟩=some (ag ms):=Hv.out.cell 0;have v1:dQ.cell? ⟨W8.heap.size,1,none⟩=some (ah ml):=Hv.out.cell 1;have v2:dQ.cell? ⟨W8.heap.size,2,none⟩=some (af me):=Hv.out.cell 2;have v3:dQ.cell? ⟨W8.heap.size,3,none⟩=some (ag ms):=Hv.out.cell 3;have v4:dQ.cell? ⟨W8.heap.size,4,none⟩=some (ah ml):=Hv.out.cell 4;have v5:dQ.cell? ⟨W8.heap.size,5,none⟩=some (af me):=Hv.out.cell 5;have v6:dQ.cell? ⟨W8.heap.size,6,none⟩=some (ag (au (dN S))):=Hv.out.cell 6;have v7:dQ.cell? ⟨W8.heap.size,7,none⟩=some (ah (nt (dN S).natAbs)):=Hv.out.cell 7;have v8:dQ.cell? ⟨W8.heap.size,8,none⟩=some (af (dE S)):=Hv.out.cell 8;have v9:dQ.cell? ⟨W8.heap.size,9,none⟩=some (ag (au (dN S))):=Hv.out.cell 9;have v10:dQ.cell? ⟨W8.heap.size,10,none⟩=some (ah (nt (dN S).natAbs)):=Hv.out.cell 10;have v11:dQ.cell? ⟨W8.heap.size,11,none⟩=some (af (dE S)):=Hv.out.cell 11;replace Hb:=aB Hb ae;clear ae;go_wp2_with fail;refine(Mh _ _ _ 2 Y qY.out _ fZ.out zd (HT.out.below Hb.out)).mono ?_;rintro e dX ⟨rfl,ae⟩;clear m0 m1 m2 z0 z1 z2 x0 x1 x2 v0 v1 v2 v3 v4 v5 v6 v7 v8 v9 v10 v11;obtain⟨Hm,m0,m1,m2⟩:=aQ Hm ae;obtain⟨Hz,z0,z1,z2⟩:=aQ Hz ae;obtain⟨Hx,x0,x1,x2⟩:=aQ Hx ae;replace Hv:=kB Hv ae;have v0:dX.cell? ⟨W8.heap.size,0,none⟩=some (ag ms):=Hv.out.cell 0;have v1:dX.cell? ⟨W8.heap.size,1,none⟩=some (ah ml):=Hv.out.cell 1
     have v2:dX.cell? ⟨W8.heap.size,2,none⟩=some (af me):=Hv.out.cell 2;have v3:dX.cell? ⟨W8.heap.size,3,none⟩=some (ag ms):=Hv.out.cell 3;have v4:dX.cell? ⟨W8.heap.size,4,none⟩=some (ah ml):=Hv.out.cell 4;have v5:dX.cell? ⟨W8.heap.size,5,none⟩=some (af me):=Hv.out.cell 5;have v6:dX.cell? ⟨W8.heap.size,6,none⟩=some (ag (au (dN S))):=Hv.out.cell 6;have v7:dX.cell? ⟨W8.heap.size,7,none⟩=some (ah (nt (dN S).natAbs)):=Hv.out.cell 7;have v8:dX.cell? ⟨W8.heap.size,8,none⟩=some (af (dE S)):=Hv.out.cell 8;have v9:dX.cell? ⟨W8.heap.size,9,none⟩=some (ag (au (dN S))):=Hv.out.cell 9;have v10:dX.cell? ⟨W8.heap.size,10,none⟩=some (ah (nt (dN S).natAbs)):=Hv.out.cell 10;have v11:dX.cell? ⟨W8.heap.size,11,none⟩=some (af (dE S)):=Hv.out.cell 11;replace Hb:=aB Hb ae;clear ae Oh Oi Oj Kz0 Kz1 Kz2;have aus:=Hb.out.size;have avt:=Hm.out.lt;have av7:=Hz.out.lt;have av1:=Hx.out.lt;have avW:=Hv.out.lt;obtain⟨mH,atB,ae,Hy⟩:=cd dX 39 (zL3 Y);clear m0 m1 m2;replace Hm:=kB Hm ae;clear z0 z1 z2;replace Hz:=kB Hz ae;clear x0 x1 x2;replace Hx:=kB Hx ae;clear v0 v1 v2 v3 v4 v5 v6 v7 v8 v9 v10 v11;replace Hv:=kB Hv ae;obtain⟨m0,m1,m2⟩:=Hm.out.c3;obtain⟨z0,z1,z2⟩:=Hz.out.c3;obtain⟨x0,x1,x2⟩:=Hx.out.c3;have v0:mH.cell? ⟨W8.heap.size,0,none⟩=some (ag ms):=Hv.out.cell 0;have v1:mH.cell? ⟨W8.heap.size,1,none⟩=some (ah ml):=Hv.out.cell 1;have v2:mH.cell? ⟨W8.heap.size,2,none⟩=some (af me):=Hv.out.cell 2;have v3:mH.cell? ⟨W8.heap.size,3,none⟩=some (ag ms):=Hv.out.cell 3;have v4:mH.cell? ⟨W8.heap.size,4,none⟩=some (ah ml):=Hv.out.cell 4;have v5:mH.cell? ⟨W8.heap.size,5,none⟩=some (af me):=Hv.out.cell 5;have v6:mH.cell? ⟨W8.heap.size,6,none⟩=some (ag (au (dN S))):=Hv.out.cell 6;have v7:mH.cell? ⟨W8.heap.size,7,none⟩=some (ah (nt (dN S).natAbs)):=Hv.out.cell 7;have v8:mH.cell? ⟨W8.heap.size,8,none⟩=some (af (dE S)):=Hv.out.cell 8;have v9:mH.cell? ⟨W8.heap.size,9,none⟩=some (ag (au (dN S))):=Hv.out.cell 9;have v10:mH.cell? ⟨W8.heap.size,10,none⟩=some (ah (nt (dN S).natAbs)):=Hv.out.cell 10;have v11:mH.cell? ⟨W8.heap.size,11,none⟩=some (af (dE S)):=Hv.out.cell 11;obtain⟨y0,y1,y2⟩:=Hy.out.c3;replace Hb:=aB Hb ae;clear ae;have Fu:vv mH x dX.heap.size X Y 0:=⟨Hx.out,Hy.out,by omega⟩;have Ad:=aa3 n 58 59 #[.pointer (some ⟨x,0,none⟩),.pointer (some ⟨dX.heap.size,0,none⟩)] #[.pointer (some ⟨x,0,none⟩),.pointer (some ⟨dX.heap.size,0,none⟩)] (sk X Y) (λk W=>vv W x dX.heap.size X Y k/\Bw w W) mH hn zo
      (enters_of Tryz.func58 zk rfl) (enters_of Tryz.func59 zk rfl) ⟨Fu,Hb.out⟩
      (λk V hk hJ=>((aqh x dX.heap.size (13*B+3000) k X Y V FX.out sw.out zo zo (HT.out.below hJ.2) hJ.1).mono (λe V' h=>⟨h.1,hJ.1.below h.2,aJ hJ.2 h.2⟩)))
      (λk V hk hJ=>((aqo x dX.heap.size (13*B+3000) k X Y w V hJ.2 FX.out sw.out zo zo HT.out zo zo hJ.1).mono (λe V' h=>⟨h.1,h.2.1,h.2.2⟩)))
     rw[pK.out,Ez.out,Ei.out]at Ad;have BK:=ai Ad;clear Ad Fu;go_wp2_with fail;refine BK.out.mono ?_;rintro e jU ⟨rfl,_,_,ae⟩;replace Hb:=ai ae;clear ae;go_wp2;exact bodyPost_ret (v:=.tuple #[af nv,af er]) (by simp[results,Tryz.results21,go_sem]) rfl ⟨rfl,Hb.out⟩
def su (c fX:Int)(G M:Dyadic):Int:=if c=1\/fX<0\/¬(0<=bA G/\0<bA M)then 1 else c
theorem aqu (a:Option Addr)(L cap:Nat)(rows:List (List Raw))(B:Nat)(fX:Int)(gs:Bool)(gl:List UInt8)(ge:Int)(ms:Bool)(ml:List UInt8)(me:Int)(w:World)(hL:rows.length=L)(h5:L<=5)(hcap:L<=cap)(hf:∀r∈rows,∀c∈r,Fit B c)(ha:cC w a rows)(hB:B<=10000)(hT:aH w)
 (hg:Ok (gs,gl,ge)) (hm:Ok (ms,ml,me)) (he:su (kQ rows) fX (az (gs,gl,ge)) (az (ms,ml,me))≠0):
 Calls Tryz.prog 21 #[.slice a L cap,af fX,.agg #[ag gs,ah gl,af ge],.agg #[ag ms,ah ml,af me]] w λe w'=>e=.returned (.tuple #[af 0,af (su (kQ rows) fX (az (gs,gl,ge)) (az (ms,ml,me)))])/\Bw w w':=by
 have Aq:=λW (hW:Bw w W)=>Tv a L cap rows B W hL h5 hcap (ha.below hW) hf zo (hT.below hW);obtain⟨c,hc⟩:=aG (kQ rows);simp only[hc]at Aq;rw[hc]at he⊢;have nV:=λW=>JR gs gl ge ms ml me W hg hm;obtain⟨u,hu⟩:=aG (decide (0<=bA (az (gs,gl,ge))/\0<bA (az (ms,ml,me))));simp only[hu]at nV;obtain⟨E,hE⟩:=aG (su c fX (az (gs,gl,ge)) (az (ms,ml,me)));rw[hE]at he⊢;have e1:c=1->E=1:=λh=>by rw[<-hE];unfold su;rw[if_pos (.inl h)]
 have e2:fX<0->E=1:=λh=>by rw[<-hE];unfold su;rw[if_pos (.inr (.inl h))]
 have e4:u=false->E=1:=λh=>by rw[<-hE];unfold su;rw[if_pos (.inr (.inr (λh4=>by rw[decide_eq_true h4]at hu;rw[<-hu]at h;cases h)))]
 have e5:c≠1->¬fX<0->u=true->E=c:=λh1 h2 h5=>by
  rw[<-hE];unfold su;rw[if_neg];rintro(h|h|h)
  . exact h1 h
  . exact h2 h
  . rw[h5]at hu;exact h (of_decide_eq_true hu)
 obtain⟨NU,yR,E1,E2,E4,E5,He⟩:=jT Aq nV e1 e2 e4 e5 he;clear Aq nV e1 e2 e4 e5 he hE hu hc ha hT hg hm hf hL;obtain⟨W,cg,Hb,Hg,Hm⟩:=iq w 39 [ag gs,ah gl,af ge] 39 [ag ms,ah ml,af me];obtain⟨g0,g1,g2⟩:=Hg.out.c3;obtain⟨m0,m1,m2⟩:=Hm.out.c3;go_enter Tryz.func21,Tryz.ntmps21;go_wp2_with fail;refine(NU.out _ Hb.out).mono ?_;rintro e w1 ⟨rfl,ae⟩;clear g0 g1 g2 m0 m1 m2;obtain⟨Hg,g0,g1,g2⟩:=aQ Hg ae;obtain⟨Hm,m0,m1,m2⟩:=aQ Hm ae;replace Hb:=aB Hb ae;clear ae;by_cases h1:c=1
 . obtain rfl:=E1.out h1;subst h1;go_wp2;exact bodyPost_ret (v:=.tuple #[af 0,af 1]) (by simp[results,Tryz.results21,go_sem]) rfl ⟨rfl,Hb.out⟩
 . have h1':(c==1)=false:=by simpa using h1
   have Ps:=ai h1;clear h1;by_cases h2:fX<0
   . obtain rfl:=E2.out h2;go_wp2;exact bodyPost_ret (v:=.tuple #[af 0,af 1]) (by simp[results,Tryz.results21,go_sem]) rfl ⟨rfl,Hb.out⟩
   . go_wp2_with fail;refine(yR.out _).mono ?_;rintro e w3 ⟨rfl,ae⟩;clear g0 g1 g2 m0 m1 m2;obtain⟨Hg,g0,g1,g2⟩:=aQ Hg ae;obtain⟨Hm,m0,m1,m2⟩:=aQ Hm ae;replace Hb:=aB Hb ae;clear ae;cases u with
     |false=>obtain rfl:=E4.out rfl;go_wp2;exact bodyPost_ret (v:=.tuple #[af 0,af 1]) (by simp[results,Tryz.results21,go_sem]) rfl ⟨rfl,Hb.out⟩
     | true=>
       obtain rfl:=E5.out Ps.out zo (by trivial);have h0:(E !=0)=true:=by simpa using He.out
       go_wp2;exact bodyPost_ret (v:=.tuple #[af 0,af E]) (by simp[results,Tryz.results21,go_sem]) rfl ⟨rfl,Hb.out⟩
end Go.Proofs.YtoopepmmepmfnaaGreatDoor
