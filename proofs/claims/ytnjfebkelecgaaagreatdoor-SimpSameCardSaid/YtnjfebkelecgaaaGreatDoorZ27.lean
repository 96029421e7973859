/- Plain: a form brought back to a polynomial. -/
import Derived.Test.YtnjfebkelecgaaaGreatDoorZ12
import Derived.Test.YtnjfebkelecgaaaGreatDoorZ17
import Derived.Test.YtnjfebkelecgaaaGreatDoorZ26
import Derived.Test.YtnjfebkelecgaaaGreatDoorZ21
import Derived.Test.YtnjfebkelecgaaaGreatDoorZ11
import Derived.Test.YtnjfebkelecgaaaGreatDoorZ13
set_option linter.all false
set_option maxRecDepth 100000
set_option maxHeartbeats 16000000
namespace Go.Proofs.YtnjfebkelecgaaaGreatDoor
def lw (b:Nat):List UInt8->Nat
 |[]=>0
 |c::l=>c.toNat*b^l.length+lw b l
def ach (b:Nat)(l:List UInt8)(h:∀c∈l,c.toNat<b):lw b l<b^l.length:=by
 induction l with
 |nil=>simp[lw]
 |cons c l ih=>have h1:=ih (λx hx=>h x (by simp[hx]));have h2:=h c zm;have h3:(c.toNat+1) *b^l.length<=b*b^l.length:=Nat.mul_le_mul_right _ h2;rw[lw,List.length_cons,Nat.pow_succ,Nat.mul_comm _ b];rw[Nat.succ_mul]at h3;omega
def aci (b:Nat)(x y:List UInt8)(hl:x.length=y.length)(hx:∀c∈x,c.toNat<b)(h:Op.bytesLess x y=true):lw b x<lw b y:=by
 induction x generalizing y with
 | nil=>cases y with
   |nil=>simp[Op.bytesLess]at h
   |cons d y=>simp at hl
 | cons c x ih=>cases y with
   |nil=>simp at hl
   | cons d y=>
     have hl2:x.length=y.length:=by simpa using hl
     simp only[Op.bytesLess,Bool.or_eq_true,Bool.and_eq_true,decide_eq_true_eq,beq_iff_eq]at h;rw[lw,lw];rcases h with h|⟨rfl,h⟩
     . have h1:=ach b x (λz hz=>hx z (by simp[hz]));have h2:(c.toNat+1) *b^y.length<=d.toNat*b^y.length:=Nat.mul_le_mul_right _ (by have:=UInt8.lt_iff_toNat_lt.1 h;omega);rw[Nat.succ_mul]at h2;rw[hl2]at h1⊢;omega
     . have:=ih y hl2 (λz hz=>hx z (by simp[hz])) h;rw[hl2];omega
def aua (N:Nat)(l:List Nat)(s:Nat)(h:l.Pairwise (·<·))(h1:∀x∈l,s<=x/\x<N)(hs:s<=N):l.length<=N-s:=by
 induction l generalizing s with
 |nil=>simp
 |cons x l ih=>obtain⟨h2,h3⟩:=List.pairwise_cons.1 h;have h4:=h1 x zm;have:=ih (x+1) h3 (λy hy=>⟨h2 y hy,(h1 y (by simp[hy])).2⟩) zo;rw[List.length_cons];omega
def arT {V D:Nat}{l:List aQ}(hg:Good l)(hd:fy V D l):l.length<=(D+1)^V:=by
 have hb:∀t∈l,∀c∈t.1,c.toNat<D+1:=λt ht c hc=>by obtain⟨i,hi,e⟩:=List.mem_iff_getElem.1 hc;have h1:=yw t.1 i;rw[show t.1.getD i 0=c by rw[<-e];simp[hi]]at h1;have:=(hd t ht).2;omega
 have h:=aua ((D+1)^V) (l.map λt=>lw (D+1) t.1) 0 (by
  rw[List.pairwise_map];refine hg.1.imp_of_mem (λ{x y} hx hy h=>aci (D+1) x.1 y.1 ?_ (hb x hx) h)
  rw[(se (hd x hx).1).1,(se (hd y hy).1).1]) (λx hx=>by
   obtain⟨t,ht,rfl⟩:=List.mem_map.1 hx;refine⟨Nat.zero_le _,?_⟩;have:=ach (D+1) t.1 (hb t ht)
   rwa [(se (hd t ht).1).1]at this) (Nat.zero_le _)
 rwa [List.length_map]at h
def XL {V D:Nat}(hV:V<=3)(hD:D<=5):(D+1)^V<=216:=Nat.le_trans (Nat.pow_le_pow_left (show D+1<=6 by omega) V) (Nat.pow_le_pow_right (n:=6) zd hV)
def aiZ (n:Nat):iY (jq n)=0:=by unfold iY jq;rw[List.map_replicate,List.sum_replicate_nat];simp
def YB (n k:Nat):iY (dV n k)<=1:=by
 unfold iY dV;by_cases h:k<n
 . have e:((List.replicate n (0:UInt8)).set k 1).map UInt8.toNat=(List.replicate n 0).set k 1:=by rw[List.map_set,List.map_replicate];rfl
   have h1:=Yu (List.replicate n 0) k 1 (by simpa using h);rw[e];rw[List.sum_replicate_nat]at h1;omega
 . rw[List.set_eq_of_length_le zi,List.map_replicate,List.sum_replicate_nat];simp
def ag1 (n:Nat)(c:Dyadic)(l:Nat->Dyadic)(k:Nat):fy n 1 (dP n c l k):=fy.clean (ts:=ir n c l k) λt ht=>by
 refine⟨WS n c l k t ht,?_⟩;unfold ir at ht;rcases List.mem_cons.1 ht with rfl|ht
 . have:=aiZ n;show iY (jq n)<=1;omega
 . obtain⟨j,_,rfl⟩:=List.mem_map.1 ht;exact YB n j
def auF (n:Nat)(c:Dyadic)(l:Nat->Dyadic):fy n 0 (dP n c l 0):=fy.clean (ts:=ir n c l 0) λt ht=>by refine⟨WS n c l 0 t ht,?_⟩;unfold ir at ht;rw[show List.range 0=[]from rfl,List.map_nil,List.mem_singleton]at ht;subst ht;have:=aiZ n;show iY (jq n)<=0;omega
def ac5 (n:Nat)(P:Nat->Nat->Dyadic)(i j:Nat):fy n 1 (fA n P i j):=by
 unfold fA;split
 . exact ag1 n _ _ n
 . exact ag1 n _ _ n
def nX :Nat->Dyadic:=λ_=>0
def CO (F part:List aQ):Nat->List aQ
 |0=>part
 |k+1=>bP (ia (CO F part k) F)
def uY (Fs:Nat->List aQ)(part:List aQ)(x:List Nat):Nat->List aQ
 |0=>part
 |j+1=>CO (Fs j) (uY Fs part x j) (x.getD j 0)
def pD (V:Nat)(Fs:Nat->List aQ)(R:List (List Nat))(cs:List Dyadic):Nat->List aQ
 |0=>dP V 0 nX 0
 |k+1=>bP (pD V Fs R cs k++uY Fs (dP V (cs.getD k 0) nX 0) (R.getD k []) (V+1))
def dJ (V B d:Nat)(ts:List aQ):Prop:=gj V B ts/\fy V d ts
def dJ.mono {V B d B' d':Nat}{ts:List aQ}(h:dJ V B d ts)(hB:B<=B')(hd:d<=d'):dJ V B' d' ts:=⟨h.1.mono hB,h.2.mono hd⟩
def dJ.len {V B d:Nat}{ts:List aQ}(h:dJ V B d ts)(hV:V<=3)(hd:d<=5):ts.length<=216:=Nat.le_trans (arT h.1.1.1 h.2) (XL hV hd)
def dJ.mul {V A B d e:Nat}{ta tb:List aQ}(ha:dJ V A d ta)(hb:dJ V B e tb)(hV:V<=3)(Og:d+e<=5)(hl:tb.length<=8)(hB:A+B+2000<=268435456):dJ V (A+B+2000) (d+e) (bP (ia ta tb)):=by
 have jX:=ha.len hV zo;have sY:(ia ta tb).length<=216*8:=by rw[Xk];exact Nat.mul_le_mul jX hl
 have hd:=ha.2.mul hb.2 zo;refine⟨(Eb (B:=A+B) zo (λt ht=>(hd t ht).1) zo (Xl (λt ht=>(ha.1.2 t ht).2) (λt ht=>(hb.1.2 t ht).2)) zo).mono zo,hd.clean⟩
def dJ.add {V A d:Nat}{ta tb:List aQ}(ha:dJ V A d ta)(hb:dJ V A d tb)(hV:V<=3)(hd:d<=5)(hB:A+500<=268435456):dJ V (A+500) d (bP (ta++tb)):=by
 have jX:=ha.len hV hd;have hlb:=hb.len hV hd;have hdd:=ha.2.append hb.2;refine⟨(Eb (B:=A) zo (λt ht=>(hdd t ht).1) zi (λt ht=>?_) zi).mono zi,hdd.clean⟩;rcases List.mem_append.1 ht with h|h
 . exact(ha.1.2 t h).2
 . exact(hb.1.2 t h).2
def XQ {V A B d:Nat}{F part:List aQ}(hF:dJ V B 1 F)(hl:F.length<=8)(hp:dJ V A d part)(hV:V<=3)(k:Nat)(hk:d+k<=5)(hB:A+5* (B+2000)<=268435456):dJ V (A+k* (B+2000)) (d+k) (CO F part k):=by
 induction k with
 |zero=>exact hp.mono zo zo
 |succ k ih=>have h9:k* (B+2000)<=4* (B+2000):=Nat.mul_le_mul_right _ zo;exact((ih zo).mul hF hV zo hl zo).mono (by rw[Nat.succ_mul];omega) zo
def Qd (x:List Nat)(j:Nat):(x.take (j+1)).sum=(x.take j).sum+x.getD j 0:=by
 by_cases h:j<x.length
 . rw[List.take_succ_eq_append_getElem h,List.sum_append];simp[h]
 . rw[List.take_of_length_le zo,List.take_of_length_le zo,List.getD_eq_getElem?_getD,List.getElem?_eq_none zo];rfl
def Qc (x:List Nat)(j:Nat):(x.take j).sum<=x.sum:=by have:=congrArg List.sum (List.take_append_drop j x);rw[List.sum_append]at this;omega
def XM {V A B D:Nat}{Fs:Nat->List aQ}{part:List aQ}{x:List Nat}(hF:∀j,j<=V->dJ V B 1 (Fs j)/\(Fs j).length<=8)(hp:dJ V A 0 part)(hV:V<=3)(hx:x.sum<=D)(hD:D<=5)(hB:A+10* (B+2000)<=268435456)(j:Nat)(hj:j<=V+1):dJ V (A+(x.take j).sum* (B+2000)) (x.take j).sum (uY Fs part x j):=by
 induction j with
 |zero=>exact hp.mono zm zm
 |succ j ih=>have h1:=Qd x j;have h2:=Qc x (j+1);have h9:(x.take j).sum* (B+2000)<=5* (B+2000):=Nat.mul_le_mul_right _ zo;obtain⟨h3,h4⟩:=hF j zo;exact(XQ h3 h4 (ih zo) hV (x.getD j 0) zo zo).mono (by rw[h1,Nat.add_mul];omega) zo
def HJ {V B:Nat}{c:Dyadic}(hV:V<=3)(hc:Sm B c)(hB:B+13<=268435456):dJ V (B+13) 0 (dP V c nX 0):=⟨Pg (k:=0) zo zo hc (λj hj=>by omega) hB,auF _ _ _⟩
def abY {V A B D:Nat}{Fs:Nat->List aQ}{R:List (List Nat)}{cs:List Dyadic}(hF:∀j,j<=V->dJ V B 1 (Fs j)/\(Fs j).length<=8)(hc:∀c∈cs,Sm A c)(hV:V<=3)(hR:∀k,k<R.length->(R.getD k []).sum<=D)(hD:D<=5)(hB:A+10* (B+2000)+300013<=268435456)(k:Nat)(hk:k<=R.length)(hk6:k<=600):dJ V (A+13+5* (B+2000)+k*500) D (pD V Fs R cs k):=by
 induction k with
 | zero=>
   show dJ V _ D (dP V 0 nX 0)
   refine dJ.mono (B:=A+13) (d:=0) (HJ hV (Sm.zero A) zo) ?_ ?_<;>omega
 | succ k ih=>
   have h1:=hR k zo;have h2:=XM (x:=R.getD k []) hF (HJ hV (rO hc k) zo) hV h1 hD zo (V+1) (Nat.le_refl _);have h3:=Qc (R.getD k []) (V+1);have h9:((R.getD k []).take (V+1)).sum* (B+2000)<=5* (B+2000):=Nat.mul_le_mul_right _ zo;have h4:dJ V (A+13+5* (B+2000)+k*500) D (uY Fs (dP V (cs.getD k 0) nX 0) (R.getD k []) (V+1)):=dJ.mono h2 zo zo;have h5:=(ih zo zo).add h4 hV hD zo;show dJ V _ D (bP (pD V Fs R cs k++uY Fs (dP V (cs.getD k 0) nX 0) (R.getD k []) (V+1)))
   generalize bP (pD V Fs R cs k++uY Fs (dP V (cs.getD k 0) nX 0) (R.getD k []) (V+1))=Y at*;refine dJ.mono h5 ?_ (Nat.le_refl _);clear h1 h2 h3 h4 h5 h9 ih hF hc hR hB hk hk6;rw[Nat.succ_mul k 500];exact Nat.le_of_eq (Nat.add_assoc _ _ _)
def axK (X:Nat->Dyadic){V A B d:Nat}{F part:List aQ}(hF:dJ V B 1 F)(hl:F.length<=8)(hp:dJ V A d part)(hV:V<=3)(hB:A+5* (B+2000)<=268435456)(k:Nat)(hk:d+k<=5):df (fD X V) (CO F part k)=df (fD X V) part*cP (df (fD X V) F) k:=by
 induction k with
 |zero=>show _=_*1;rw[CO];grind
 |succ k ih=>have h:=XQ hF hl hp hV k zo hB;rw[CO,Ea,arc X V (d+k) 1 _ _ h.2 hF.2 zo,ih zo,cP];grind
def axf (X:Nat->Dyadic){V A B D:Nat}{Fs:Nat->List aQ}{part:List aQ}{x:List Nat}(hF:∀j,j<=V->dJ V B 1 (Fs j)/\(Fs j).length<=8)(hp:dJ V A 0 part)(hV:V<=3)(hx:x.sum<=D)(hD:D<=5)(hB:A+10* (B+2000)<=268435456)(j:Nat)(hj:j<=V+1):df (fD X V) (uY Fs part x j)=df (fD X V) part*eZ (λj=>df (fD X V) (Fs j)) x j:=by
 induction j with
 |zero=>show _=_*1;rw[uY];grind
 |succ j ih=>have h1:=Qd x j;have h2:=Qc x (j+1);have h9:(x.take j).sum* (B+2000)<=5* (B+2000):=Nat.mul_le_mul_right _ zo;obtain⟨h3,h4⟩:=hF j zo;rw[uY,axK X h3 h4 (XM hF hp hV hx hD hB j zo) hV zo _ zo,ih zo,eZ];grind
def acn (X:Nat->Dyadic)(V:Nat)(c:Dyadic):df (fD X V) (dP V c nX 0)=c:=by
 unfold dP;rw[Ea];show aJ (canon c) *fJ X 1 (jq V) V+0=c
 rw[cp,ahu];grind
def api (X:Nat->Dyadic){V A B D:Nat}{Fs:Nat->List aQ}{R:List (List Nat)}{cs:List Dyadic}(hF:∀j,j<=V->dJ V B 1 (Fs j)/\(Fs j).length<=8)(hc:∀c∈cs,Sm A c)(hV:V<=3)(hR:∀k,k<R.length->(R.getD k []).sum<=D)(hD:D<=5)(hB:A+10* (B+2000)+300013<=268435456)(k:Nat)(hk:k<=R.length):df (fD X V) (pD V Fs R cs k)=sumTo (λk=>cs.getD k 0*eZ (λj=>df (fD X V) (Fs j)) (R.getD k []) (V+1)) k:=by
 induction k with
 |zero=>exact acn X V 0
 |succ k ih=>rw[pD,Ea,DZ,ih zo,axf X hF (HJ hV (rO hc k) zo) hV (hR k zo) hD zo (V+1) (Nat.le_refl _),acn];rfl
end Go.Proofs.YtnjfebkelecgaaaGreatDoor
namespace Go.Proofs.YtnjfebkelecgaaaGreatDoor
open Go.RowKit
attribute [local go_sem ↓] Go.wp_at_zero Go.wp_at_succ
def ail (V k:Nat)(w:World)(hV:V<=12)(hk:k<V):
 Cl 33 #[ah (V:Int),ah (k:Int)] w λex w'=>∃a' c',ex=.returned (.tuple #[.agg #[ah (V:Int),.slice a' (bP [(dV V k,canon 1)]).length c'],ah 0])/\bE w' a' c' (bP [(dV V k,canon 1)])/\Bw w w':=by
 obtain⟨C,hC⟩:=aK (bP [(dV V k,canon 1)]);rw[hC];obtain⟨O,hO⟩:∃O:Dyadic,(1:Dyadic)=O:=⟨_,rfl⟩;have hmk:=λW b (hb:au W b 67 [ai (dV V k),aj (aC (dN O)),ai (nt (dN O).natAbs),ah (dE O)])=>PQ V (some ⟨b,0,none⟩) 1 1 [(dV V k,canon 1)] 1 W rfl zo (by rw[hO];exact At.aFK hb) (by intro t ht;simp at ht;subst ht;exact Sm.aFO Sm.one zd) (by intro t ht;simp at ht;subst ht;show Sm 1 (aJ (canon 1));rw[cp];exact Sm.one) zo;rw[hC]at hmk;have hof:∀W,Cv 50 #[ah 1] W (cK O):=λW=>ax7 1 O hO W zd;have hmb:=λW=>uT (V:Int) V rfl zo W;have hcv:∀W b,Hid (au W b 5 (dw V λj=>if j=k then 1 else 0))->(convert 84 9 (.slice (some ⟨b,0,none⟩) V V)).run Tryz.prog W=.ok (ai (dV V k)) W:=λW b h=>by rw[<-ajh V k];exact vp h.out V
 have bD:=λb=>tq V V k (k:Int) (rfl:(some ⟨b,0,none⟩:Option Addr)=_) hk rfl;simp only[Nat.zero_add,Nat.mul_one]at bD;have hget:(dw V λ_=>0)[k]?=some (.int .u8 0):=mL _ _ _ hk;have pU:(dw V λ_=>0).set k (.int .u8 1)=dw V λj=>if j=k then 1 else 0:=CV V _ k 1
 obtain⟨mh,og⟩:=aZ hmk hof;clear hmk hof hC hO;have Cc:¬(k:Int)<0:=by omega
 have hVi:¬(V:Int)<0:=by omega
 have hV2:¬(12:Int)<(V:Int):=by omega
 have hkV:¬(V:Int)<=(k:Int):=by omega
 obtain⟨W,dK,Hb,Hr⟩:=jD w 24 [ah 0,.slice none 0 0];obtain⟨r0,aH,r1,aI⟩:=Hr.out.g2;go_enter Tryz.func33,Tryz.ntmps33;go_wp2_with fail;have hrl:=Hr.out.lt;obtain⟨R,hR⟩:∃R:World->Prop,(λW3=>au W3 W.heap.size 5 (dw V λj=>if j=k then 1 else 0)/\Bw W W3)=R:=⟨_,rfl⟩;first|refine cd R ?hR ?_|refine cw R ?hR ?_
 case hR=>subst hR;exact⟨au.newAt W _ _ (b:=W.heap.size) rfl,zl⟩
 subst hR;intro W3 ⟨qm,ag⟩;obtain⟨Hr,r0,aH,r1,aI⟩:=bA Hr ag;replace Hb:=ar (aO Hb.out ag);have Hm:=ar qm;clear qm ag hget pU bD hmb;have fe:∀w',dW W3 w'->(convert 84 9 (.slice (some ⟨W.heap.size,0,none⟩) V V)).run Tryz.prog w'=.ok (ai (dV V k)) w':=λw' h=>hcv w' _ (ar (Hm.out.below h));have bz:Hid (dW W3 W3):=Below.refl _ _;refine bV (λw'=>dW W3 w') (λi=>Nat.blt i 9) [(0,true),(1,true),(2,true),(3,false),(4,true),(5,false),(6,false),(7,true),(8,true),(9,false),(10,false)] zk zk rfl zk zc bz.out.drew ?_;iterate 3 (refine PN rfl rfl (v:=?_) (λw' hw'=>?_) ?_;rotate_left;(focus have hw':=fe w' hw';go_simp;try with_reducible rfl);try simp only[UU])
 refine aR rfl rfl (λK hK=>?_);go_simp;with_reducible refine(og.out _).mono ?_
 rintro e w4 ⟨rfl,hq⟩;have ag:Bw W3 w4:=by first|exact hq|exact bo hq
 replace bz:=ar (bz.out.below ag);obtain⟨Hr,r0,aH,r1,aI⟩:=bA Hr ag;replace Hb:=az Hb ag;refine hK _ _ (λ_=>bz.out) ?_;try simp only[UU]
 refine pT rfl rfl ?_;try simp only[UU]
 refine aR rfl rfl (λK hK=>?_);go_simp;refine hK _ _ (λ_=>by first|exact bz.out.alloc _|exact(bz.out.alloc _).drew|exact(bz.out.drew).alloc _) ?_;try simp only[UU]
 refine bZ (λW5=>au W5 (w4.heap.size) 67 [ai (dV V k),aj (aC (dN O)),ai (nt (dN O).natAbs),ah (dE O)]/\Bw w4 W5) (by first|exact eo|exact eu) ?_;rintro W5 ⟨qz,ag⟩;have Pm:=Hr.out.lt;replace bz:=ar (bz.out.below ag);replace Hr:=kB Hr ag;have Hz:=ar qz;clear qz;obtain⟨r0,aH,r1,aI⟩:=Hr.out.g2;obtain⟨z0,z1,z2,z3⟩:=Hz.out.c4;replace Hb:=az Hb ag;refine aR rfl rfl (λK hK=>?_);go_simp;with_reducible refine(mh.out _ _ Hz.out).mono ?_
 rintro e w6 ⟨a2,d2,rfl,eP,hq⟩;have ag:Bw W5 w6:=by first|exact hq|exact bo hq
 replace bz:=ar (bz.out.below ag);obtain⟨Hr,r0,aH,r1,aI⟩:=bA Hr ag;obtain⟨Hz,z0,z1,z2,z3⟩:=dZ Hz ag;replace Hb:=az Hb ag;refine hK _ _ (λ_=>bz.out) ?_;try simp only[UU]
 iterate 2 (refine pT rfl rfl ?_;try simp only[UU])
 refine aR rfl rfl (λK hK=>?_);go_simp;refine hK _ _ (by first|exact λh=>absurd h zd|exact λ_=>bz.out|exact λ_=>ij zg bz.out) ?_;try simp only[UU]
 refine aR rfl rfl (λK hK=>?_);go_simp;refine hK _ _ (λh=>absurd h zd) ?_;try simp only[UU]
 simp only[bu];go_wp2;have h9:=eP.store Hr.out zd (ah (V:Int)) (.slice a2 C.length d2);refine fP (λw9=>bE w9 a2 d2 C/\au w9 w.heap.size 24 [ah (V:Int),.slice a2 C.length d2]/\Bw w w9) ⟨h9,(Hr.out.set 0 _).set 1 _,(Hb.out.setCell (Nat.le_refl _) _).setCell (Nat.le_refl _) _⟩ ?_;rintro w9 ⟨q1,q2,q3⟩;obtain⟨p0,p1⟩:=q2.c2;exact bodyPost_ret (v:=.tuple #[.agg #[ah (V:Int),.slice a2 C.length d2],ah 0]) (by simp[results,Tryz.results33,go_sem,p0,p1]) rfl ⟨_,_,rfl,q1,q3⟩
def awQ {V:Nat}{ts:List aQ}(h:yY V ts)(k:Nat)(hk:k<ts.length):eQ ts[k].1 V=true/\aJ ts[k].2≠0/\ts[k].2=canon (aJ ts[k].2)/\(0<k->Op.bytesLess (ts[k-1]'zo).1 ts[k].1=true):=by obtain⟨⟨h1,h2⟩,h3,h4,h5⟩:=h;have hm:=List.getElem_mem hk;exact⟨h3 _ hm,(h2 _ hm).1,(h2 _ hm).2,λh0=>List.pairwise_iff_getElem.1 h1 (k-1) k zo hk zo⟩
def ayl (V:Nat)(a:Option Addr)(cap N:Nat)(ts:List aQ)(w:World)(hN:ts.length=N)(ha:At w a (ts.flatMap aY))(hp:yY V ts)(hf:∀t∈ts,ie t.2):
 Cv 47 #[.agg #[ah (V:Int),.slice a N cap]] w (ah 0):=by
 have hn:N<=4096:=by rw[<-hN];exact hp.2.2.1
 have hV:V<=12:=hp.2.2.2;have hg:=λk hk=>awQ hp k hk;obtain⟨Ha,Hg,HN,Hf⟩:=ej ha hg hN hf;clear ha hg hN hf hp;have hVi:¬(V:Int)<0:=by omega
 have hV2:¬(12:Int)<(V:Int):=by omega
 have cV:¬(4096:Int)<(N:Int):=by omega
 have aCY:decide ((4096:Int)<(N:Int))=false:=by simp;omega
 obtain⟨W,dK,Hb,Hp⟩:=jD w 24 [ah (V:Int),.slice a N cap];obtain⟨p0,p1⟩:=Hp.out.c2;go_enter Tryz.func47,Tryz.ntmps47;go_wp2_with fail;go_loopw[3] (λx wr=>∃k:Nat,k<=N/\x=ah (k:Int)/\au wr w.heap.size 24 [ah (V:Int),.slice a N cap]/\Bw w wr) (λx _=>N-(intOf x).toNat);case atStart=>exact⟨0,Nat.zero_le _,rfl,Hp.out,Hb.out⟩
 case round=>
  clear p0 p1 Hp Hb;obtain⟨k,hk,rfl,kw,pb⟩:=hrel;by_cases hlt:k<N
  . have hk2:k<ts.length:=by rw[HN.out];exact hlt
    obtain⟨l,s,m,e,hx⟩:∃l s m e,ts[k]=(l,s,m,e):=⟨_,_,_,_,rfl⟩;obtain⟨b,o,hab,cj⟩:=(Ha.out.below pb).term k hk2 hx;obtain⟨g1,g2,g3,g4⟩:=Hg.out k hk2;have dG:ie (s,m,e):=by have:=Hf.out _ (List.getElem_mem hk2);rw[hx]at this;exact this
    have hfl:m.length<=16384:=dG.1;rw[hx]at g1 g2 g3;simp only[hx]at g4;obtain⟨X,hX⟩:=aK (aJ (s,m,e));obtain⟨sg,lL⟩:=aK (eG X);have hs1:(sg==0)=false:=by rw[<-lL,xz,<-hX];exact g2
    have hne:=Xt X s m e false (by rw[<-hX];simpa using g3.symm);have pQ:=λW=>XW l (V:Int) W (by have hll:l.length=V:=ahm g1;omega);rw[g1]at pQ;have bD:=gJ N cap k (k:Int) hab hlt rfl;have vY:=λW=>PS s m e sg (by rw[hX];exact lL) W zo;have hfo:=λW=>Fw s m e X hX W dG;obtain⟨mO,Bc,Rm,bj,pj,Hp⟩:=iq pQ vY hfo pb hab kw;have jO:Hid (bH wr b (o+k*4) [ai l,aj s,ai m,ah e]):=cj;have sz:=pb.size;clear pQ vY hfo pb kw cj hX lL g1 g2 g3 dG hab;have Hb:=hbz wr;obtain⟨p0,p1⟩:=Hp.out.c2;obtain⟨tC,tE,tF,tG⟩:=jO.out.w4;have P0:=tC;have P1:=tE;have P2:=tF;have P3:=tG;have Q1:=p1;have ahe:=Hp.out.lt;obtain⟨W4,ov,ag,Ht⟩:=cE wr 67 [ai l,aj s,ai m,ah e];replace Hp:=kB Hp ag;replace jO:=kW jO ag;obtain⟨p0,p1⟩:=Hp.out.c2;obtain⟨tC,tE,tF,tG⟩:=jO.out.w4;obtain⟨t0,t1,t2,t3⟩:=Ht.out.c4;replace Hb:=az Hb ag;go_wp2_with fail;clear P0 P1 P2 P3 Q1 tC tE tF tG jO;refine bV (λw'=>aF w' (w.heap.size) 0 (ah (V:Int))/\aF w' (w.heap.size) 1 (.slice a N cap)/\aF w' (wr.heap.size) 0 (ai l)/\aF w' (wr.heap.size) 1 (aj s)/\aF w' (wr.heap.size) 2 (ai m)/\aF w' (wr.heap.size) 3 (ah e)) (λi=>Nat.blt i 100000) [(0,true),(1,true),(2,true),(3,true),(4,false),(5,true),(6,true),(7,true),(8,true),(9,false),(10,true),(11,true),(12,true),(13,true),(14,true),(16,true),(17,true),(15,false),(18,true),(19,true)] zk zk rfl zk zc ⟨p0,p1,t0,t1,t2,t3⟩ ?_;iterate 4 (refine pT rfl rfl ?_ (by intro w' ⟨q0,q1,q2,q3,q4,q5⟩;go_simp;try with_reducible rfl);try simp only[UU])
    refine aR rfl rfl (λK hK=>?_);go_simp;with_reducible refine(mO.out _).mono ?_
    rintro e w5 ⟨rfl,hq⟩;have ag:Bw W4 w5:=by first|exact hq|exact bo hq
    obtain⟨Hp,p0,p1⟩:=bi Hp ag;obtain⟨Ht,t0,t1,t2,t3⟩:=dZ Ht ag;replace Hb:=az Hb ag;refine hK _ _ (λ_=>⟨p0,p1,t0,t1,t2,t3⟩) ?_;try simp only[UU]
    iterate 4 (refine pT rfl rfl ?_ (by intro w' ⟨q0,q1,q2,q3,q4,q5⟩;go_simp;try with_reducible rfl);try simp only[UU])
    refine aR rfl rfl (λK hK=>?_);go_simp;with_reducible refine(Bc.out _).mono ?_
    rintro e w6 ⟨rfl,hq⟩;have ag:Bw w5 w6:=by first|exact hq|exact bo hq
    obtain⟨Hp,p0,p1⟩:=bi Hp ag;obtain⟨Ht,t0,t1,t2,t3⟩:=dZ Ht ag;replace Hb:=az Hb ag;refine hK _ _ (λ_=>⟨p0,p1,t0,t1,t2,t3⟩) ?_;try simp only[UU]
    iterate 7 (refine pT rfl rfl ?_ (by intro w' ⟨q0,q1,q2,q3,q4,q5⟩;go_simp;try with_reducible rfl);try simp only[UU])
    refine aR rfl rfl (λK hK=>?_);go_simp;with_reducible refine(Rm.out _).mono ?_
    rintro e w7 ⟨rfl,hq⟩;have ag:Bw w6 w7:=by first|exact hq|exact bo hq
    obtain⟨Hp,p0,p1⟩:=bi Hp ag;obtain⟨Ht,t0,t1,t2,t3⟩:=dZ Ht ag;replace Hb:=az Hb ag;refine hK _ _ (λ_=>⟨p0,p1,t0,t1,t2,t3⟩) ?_;try simp only[UU]
    iterate 2 (refine pT rfl rfl ?_;try simp only[UU])
    simp only[bu];by_cases nu:k=0
    . have hk1:decide (0<k)=false:=by simp;omega
      have as5:decide ((0:Int)<(k:Int))=false:=by simp;omega
      clear nu g4;go_wp2_with fail;refine bV (λw'=>aF w' (w.heap.size) 0 (ah (V:Int))/\aF w' (w.heap.size) 1 (.slice a N cap)/\aF w' (wr.heap.size) 0 (ai l)/\aF w' (wr.heap.size) 1 (aj s)/\aF w' (wr.heap.size) 2 (ai m)/\aF w' (wr.heap.size) 3 (ah e)) (λi=>Nat.blt i 100000) [(0,true),(1,true),(2,true),(3,true),(4,true),(5,true),(6,true),(7,true),(8,true),(9,true),(10,true),(11,true),(12,true),(13,true)] zk zk rfl zk zc ⟨p0,p1,t0,t1,t2,t3⟩ ?_;iterate 3 (refine pT rfl rfl ?_;try simp only[UU])
      refine bJ rfl rfl ?_;try simp only[UU]
      refine bJ rfl rfl ?_;try simp only[UU]
      refine bJ rfl rfl ?_;try simp only[UU]
      refine bJ rfl rfl ?_;try simp only[UU]
      refine bJ rfl rfl ?_;try simp only[UU]
      refine bJ rfl rfl ?_;try simp only[UU]
      refine bJ rfl rfl ?_;try simp only[UU]
      refine bJ rfl rfl ?_;try simp only[UU]
      refine bJ rfl rfl ?_;try simp only[UU]
      refine bJ rfl rfl ?_;try simp only[UU]
      refine pT rfl rfl ?_;try simp only[UU]
      simp only[bu];go_wp2;go_roundw;case rel=>exact⟨k+1,by omega,by go_num,Hp.out,(aO bj.out Hb.out).drew⟩
      case measure=>exact bI
    . have vT:=g4 zo;have vQ:k-1<ts.length:=by omega
      obtain⟨l',s',m',e',hx'⟩:∃l s m e,ts[k-1]=(l,s,m,e):=⟨_,_,_,_,rfl⟩;obtain⟨b',o',rQ,kO⟩:=(Ha.out.below (aO bj.out Hb.out)).term (k-1) vQ hx';have hab:=pj.out;rw[hab]at rQ;simp only[Option.some.injEq,Addr.mk.injEq,and_true]at rQ;obtain⟨rfl,rfl⟩:=rQ;rw[hx']at vT;have ez:Op.bytesLess (bs l').toList (bs l).toList=true:=by rw[gX,gX];exact vT
      have hge:Op.bytesLess (bs l).toList (bs l').toList=false:=by
       rw[gX,gX];cases hc:Op.bytesLess l l' with
       |false=>rfl
       |true=>have:=DL vT hc;rw[DK]at this;cases this
      have as5:decide ((0:Int)<(k:Int))=true:=by simp;omega
      have hk1:decide (0<k)=true:=by simp;omega
      have vR:IntKind.i64.wrap ((k:Int)-1)=((k-1:Nat):Int):=by rw[IntKind.wrap_i64];omega
      have Vz:=gJ N cap (k-1) ((k-1:Nat):Int) hab zo rfl;obtain⟨kp,EG⟩:=aK (k-1);rw[EG]at Vz vR kO;have as8:kp<N:=by omega
      have eK:Hid (bH w7 b (o+kp*4) [ai l',aj s',ai m',ah e']):=kO;clear kO nu hx' EG hab vT g4 vQ;obtain⟨p0,p1⟩:=Hp.out.c2;obtain⟨t0,t1,t2,t3⟩:=Ht.out.c4;have nQ:w7.cell? ⟨b,o+kp*4,none⟩=some (ai l'):=eK.out.cell 0 zm;go_wp2_with fail;refine bV (λw'=>aF w' (w.heap.size) 0 (ah (V:Int))/\aF w' (w.heap.size) 1 (.slice a N cap)/\aF w' (wr.heap.size) 0 (ai l)/\aF w' b (o+kp*4) (ai l')) (λi=>Nat.blt i 100000) [(0,true),(1,true),(2,true),(3,true),(4,true),(5,true),(6,true),(7,true),(8,true),(9,true),(10,true),(11,true),(12,true),(13,true)] zk zk rfl zk zc ⟨p0,p1,t0,nQ⟩ ?_;iterate 14 (refine pT rfl rfl ?_ (by intro w' ⟨q0,q1,q2,q3⟩;go_simp;try with_reducible rfl);try simp only[UU])
      simp only[bu];go_wp2;go_roundw;case rel=>exact⟨k+1,by omega,by go_num,Hp.out,(aO bj.out Hb.out).drew⟩
      case measure=>exact bI
  . obtain rfl:k=N:=by omega
    obtain⟨Hp,bj⟩:=aZ kw pb;obtain⟨p0,p1⟩:=Hp.out.c2;go_wp2;refine bodyPost_ret (results_tmp rfl _ _ _) rfl ⟨rfl,bj.out⟩
def ayu (V:Nat)(a:Option Addr)(cap:Nat)(ts:List aQ)(s:Bool)(m:List UInt8)(e:Int)(D:Dyadic)(B:Nat)(w:World)(hp:gj V B ts)(ha:bE w a cap ts)(dG:ie (s,m,e))(Af:Sm B (aJ (s,m,e)))(hB:2*B+4096<=16384)(hD:aJ (s,m,e)=D):
 Cl 37 #[.agg #[ah (V:Int),.slice a ts.length cap],.agg #[aj s,ai m,ah e]] w λex w'=>∃a' c',ex=.returned (.tuple #[.agg #[ah (V:Int),.slice a' (bP (dA D ts)).length c'],ah 0])/\bE w' a' c' (bP (dA D ts))/\Bw w w':=by
 obtain⟨i0,hi,hz0,hz1,hz2⟩:=info_parts Tryz.aFP;obtain⟨n,hn⟩:=aK ts.length;have hnl:n<=4096:=by have:=hp.1.2.2.1;omega
 have mA:(dA D ts).length=n:=by unfold dA;rw[List.length_map,hn]
 have hsm:∀t∈ts,Sm B (aJ t.2):=λt ht=>(hp.2 t ht).2;have jz:∀t∈ts,ie t.2:=λt ht=>by rw[(hp.1.1.2 t ht).2];exact(hsm t ht).aFO zo
 rw[hD]at Af;have iL:∀t∈dA D ts,Sm (2*B) (aJ t.2):=by
  intro t ht;unfold dA at ht;obtain⟨x,hx,rfl⟩:=List.mem_map.1 ht;show Sm _ (aJ (canon _))
  rw[cp];exact(Sm.mul (hsm x hx) Af).mono zo
 have zN:∀t∈dA D ts,ie t.2:=by
  intro t ht;have h1:=iL t ht;unfold dA at ht;obtain⟨x,hx,rfl⟩:=List.mem_map.1 ht;have h2:Sm (2*B) (aJ x.2*D):=by have h3:aJ (canon (aJ x.2*D))=aJ x.2*D:=cp _;rw[<-h3];exact h1
  exact h2.aFO zo
 have fp:=λW (hW:Bw w W)=>ayl V a cap n ts W hn (ha.1.below hW) hp.1 jz;have mD:=λW a' c' (h:At W a' ((dA D ts).flatMap aY))=>PQ V a' n c' (dA D ts) (2*B) W mA hnl h zN iL zo;obtain⟨C,hC⟩:=aK (bP (dA D ts));obtain⟨Q,hQ⟩:=aK (dA D ts);rw[hC]at mD⊢;have hQg:∀k (h:k<ts.length) (h2:k<Q.length),Q[k]=(ts[k].1,canon (aJ ts[k].2*D)):=λk h h2=>by subst hQ;simp[dA]
 rw[hQ]at mD mA;rw[hn];obtain⟨Hi,dF,dv,di,oc,rK,vw,Hn,fO,HD,Ha,HQg⟩:=gg hi hz0 hz1 hz2 fp mD jz hn dG hD ha.1 hQg;have ZH:=ar mA;clear hi hz0 hz1 hz2 fp mD jz hn dG hD hC hQ mA iL zN hsm ha hp Af hQg;have Hb:=hbz w;go_enter Tryz.func37,Tryz.ntmps37;go_wp2_with fail;have q:=uU w 24 [ah (V:Int),.slice a n cap] 48 [aj s,ai m,ah e] 24 [ah 0,.slice none 0 0];first|refine cd _ q ?_|refine cw _ q ?_
 clear q;rintro W ⟨Hp,Hc,Hr,ag⟩;obtain⟨p0,p1⟩:=Hp.out.c2;obtain⟨c0,c1,c2⟩:=Hc.out.c3;obtain⟨r0,aH,r1,aI⟩:=Hr.out.g2;replace Hb:=az Hb ag;go_wp2_with fail;refine(oc.out _ Hb.out).mono ?_;rintro e w1 ⟨rfl,ag⟩;obtain⟨Hp,p0,p1⟩:=bi Hp ag;obtain⟨Hc,c0,c1,c2⟩:=cm Hc ag;obtain⟨Hr,r0,aH,r1,aI⟩:=bA Hr ag;replace Hb:=az Hb ag;have mQ:=Hp;have Dj:=Hc;have jN:=Hr;have dY:=Hb;go_wp2_with fail;go_loopw[7,8] (λs7 x wr=>∃(k:Nat) (v:Value),k<=n/\x=ah (k:Int)/\v=s7/\wr.ownsRow w1.heap.size 67 4 v k ((Q.take k).flatMap aY)/\Bw w1 wr) (λ_ x _=>n-(intOf x).toNat);case atStart=>exact⟨0,_,Nat.zero_le _,rfl,rfl,World.ownsRow_nil _ _ _ _,Below.refl _ _⟩
 case round=>
  clear p0 p1 c0 c1 c2 r0 aH r1 aI Hp Hc Hr Hb;obtain⟨k,v,hk,rfl,rfl,ho,pb⟩:=hrel;obtain⟨Hp,Hc,Hr⟩:=cX (mQ.out.below pb) (Dj.out.below pb) (jN.out.below pb);have bQ:=aO dY.out pb;have sk:=dY.out.size;have lc1:=Dj.out.lt;have lr1:=jN.out.lt;by_cases hlt:k<n
  . have hk2:k<ts.length:=by rw[Hn.out];exact hlt
    have hkQ:k<Q.length:=by rw[ZH.out];exact hlt
    obtain⟨l,s1,q1,e1,hx⟩:∃l s m e,ts[k]=(l,s,m,e):=⟨_,_,_,_,rfl⟩;obtain⟨b,o,rfl,cj⟩:=(Ha.out.below bQ).term k hk2 hx;have lbt:b<w.heap.size:=by obtain⟨b3,o3,h3,hw3⟩:=Ha.out.term k hk2 hx;simp only[Option.some.injEq,Addr.mk.injEq,and_true]at h3;obtain⟨rfl,rfl⟩:=h3;exact World.block_lt_of_cell? w _ (hw3.cell 0 zm)
    have bD:=gJ n cap k (k:Int) (rfl:(some ⟨b,o,none⟩:Option Addr)=_) hlt rfl;have il:ie (s1,q1,e1):=by have:=vw.out _ (List.getElem_mem hk2);rw[hx]at this;exact this
    obtain⟨X,hX⟩:=aK (aJ (s1,q1,e1) *D);have hQk:(Q.take (k+1)).flatMap aY=(Q.take k).flatMap aY++[ai l,aj (aC (dN X)),ai (nt (dN X).natAbs),ah (dE X)]:=by
     rw[List.take_succ_eq_append_getElem hkQ,List.flatMap_append,HQg.out k hk2 hkQ,hx];show _++[Value.string (bs l),Value.bool (aC (dN (aJ (s1,q1,e1) *D))),_,_]=_
     rw[hX];rfl
    have HX:Hid (aJ (s1,q1,e1) *aJ (s,m,e)=X):=by show _=_;rw[HD.out];exact hX
    have Ht:Hid (bH wr b (o+k*4) [ai l,aj s1,ai q1,ah e1]):=cj;obtain⟨dQ,bj,HQk,mN⟩:=ej ho pb hQk il;have gM:=pb.size;clear ho pb hQk il hX hx cj bQ;have Hb:=hbz wr;obtain⟨p0,p1⟩:=Hp.out.c2;obtain⟨c0,c1,c2⟩:=Hc.out.c3;obtain⟨t0,t1,t2,t3⟩:=Ht.out.w4;go_wp2_with fail;refine bV (λw'=>aF w' (w.heap.size) 1 (.slice (some ⟨b,o,none⟩) n cap)/\aF w' (w.heap.size+1) 0 (aj s)/\aF w' (w.heap.size+1) 1 (ai m)/\aF w' (w.heap.size+1) 2 (ah e)/\aF w' b (o+k*4) (ai l)/\aF w' b (o+k*4+1) (aj s1)/\aF w' b (o+k*4+2) (ai q1)/\aF w' b (o+k*4+3) (ah e1)) (λi=>Nat.blt i 100000) [(0,true),(1,true),(2,true),(3,true),(4,true),(5,true),(6,true),(7,true),(8,true),(9,true),(10,true),(11,true),(12,true),(13,true),(14,false),(15,true),(16,false),(17,false),(18,true)] zk zk rfl zk zc ⟨p1,c0,c1,c2,t0,t1,t2,t3⟩ ?_;iterate 14 (refine pT rfl rfl ?_ (by intro w' ⟨q0,q1,q2,q3,q4,q5,q6,q7⟩;go_simp;try with_reducible rfl);try simp only[UU])
    refine aR rfl rfl (λK hK=>?_);go_simp;with_reducible refine(aij s1 q1 e1 s m e X HX.out _ mN.out fO.out).mono ?_
    rintro e w4 ⟨rfl,hq⟩;have ag:Bw wr w4:=by first|exact hq|exact bo hq
    obtain⟨Hp,p0,p1⟩:=bi Hp ag;obtain⟨Hc,c0,c1,c2⟩:=cm Hc ag;replace Ht:=kW Ht ag;obtain⟨t0,t1,t2,t3⟩:=Ht.out.w4;replace Hb:=az Hb ag;refine hK _ _ (λ_=>⟨p1,c0,c1,c2,t0,t1,t2,t3⟩) ?_;try simp only[UU]
    refine pT rfl rfl ?_;try simp only[UU]
    refine aR rfl rfl (λK hK=>?_);go_simp;refine hK _ _ (λ_=>⟨aV p1,aV c0,aV c1,aV c2,aV t0,aV t1,aV t2,aV t3⟩) ?_;try simp only[UU]
    refine bZ (λW5=>au W5 (w4.heap.size) 67 [ai l,aj (aC (dN X)),ai (nt (dN X).natAbs),ah (dE X)]/\Bw w4 W5) (by first|exact eo|exact eu) ?_;rintro W5 ⟨qd,ag⟩;have aEp:=Hp.out.lt;have aDP:=Hc.out.lt;replace Hp:=kB Hp ag;replace Hc:=kB Hc ag;replace Ht:=kW Ht ag;have Hd:=ar qd;clear qd;obtain⟨p0,p1⟩:=Hp.out.c2;obtain⟨c0,c1,c2⟩:=Hc.out.c3;obtain⟨t0,t1,t2,t3⟩:=Ht.out.w4;obtain⟨d0,d1,d2,d3⟩:=Hd.out.c4;replace Hb:=az Hb ag;refine aR rfl rfl (λK hK=>?_);have eD:=ownsRow_below dQ.out Hb.out;have hs3:=Hb.out.size;refine wp_append_own _ _ _ 22 rfl w1.heap.size 67 i0 _ 4 48 Tryz.underlying22 Hi.out dF.out dv.out di.out rfl zd v k ((Q.take k).flatMap aY) rfl eD ⟨w4.heap.size,0,none⟩ 1 1 [ai l,aj (aC (dN X)),ai (nt (dN X).natAbs),ah (dE X)] rfl rfl (gW Hd.out) zy zx zo zo ?_;intro v' w8 eV bM _;have nb:∀b,b<w1.heap.size->some b≠v.ownBlock:=λb hb e=>by have:=dX eD b e.symm;omega
    refine hK _ _ (λ_=>⟨dc bM p1 (nb _ zp),dc bM c0 (nb _ zp),dc bM c1 (nb _ zp),dc bM c2 (nb _ zp),dc bM t0 (nb _ zp),dc bM t1 (nb _ zp),dc bM t2 (nb _ zp),dc bM t3 (nb _ zp)⟩) ?_;try simp only[UU]
    have fG:=(aO bj.out Hb.out).grown bM zo (λj e=>dX eD j e);rw[<-HQk.out]at eV;obtain⟨gD,jb⟩:=aZ fG eV;refine pT rfl rfl ?_;try simp only[UU]
    simp only[bu];clear nb eD eV bM fG p0 p1 c0 c1 c2 t0 t1 t2 t3 d0 d1 d2 d3;go_wp2;go_roundw;case rel=>exact⟨k+1,v',by omega,by go_num,rfl,jb.out,gD.out⟩
    case measure=>exact bI
  . obtain rfl:k=n:=by omega
    have htk:Q.take k=Q:=List.take_of_length_le (by rw[ZH.out];exact Nat.le_refl _);rw[htk]at ho;obtain⟨a2,c2,rfl,hat,_⟩:=dS ho;have fW:=ar hat;have Hb:Hid (Bw w wr):=bQ;have Rq:=ar (rK.out wr a2 c2 hat);clear ho pb bQ htk hat Hc;obtain⟨p0,p1⟩:=Hp.out.c2;obtain⟨r0,aH,r1,aI⟩:=Hr.out.g2;go_wp2_with fail;refine(Rq.out).mono ?_;rintro e w6 ⟨a9,d9,rfl,gZ,ag⟩;obtain⟨Hp,p0,p1⟩:=bi Hp ag;obtain⟨Hr,r0,aH,r1,aI⟩:=bA Hr ag;replace Hb:=az Hb ag;have xf:=ar gZ;clear gZ;go_wp2;have h9:=xf.out.store Hr.out zd (ah (V:Int)) (.slice a9 C.length d9);refine fP (λw9=>bE w9 a9 d9 C/\au w9 (w.heap.size+1+1) 24 [ah (V:Int),.slice a9 C.length d9]/\Bw w w9) ⟨h9,(Hr.out.set 0 _).set 1 _,(Hb.out.setCell zp _).setCell zp _⟩ ?_;rintro w9 ⟨q1,q2,q3⟩;obtain⟨x0,x1⟩:=q2.c2;exact bodyPost_ret (v:=.tuple #[.agg #[ah (V:Int),.slice a9 C.length d9],ah 0]) (by simp[results,Tryz.results37,go_sem,x0,x1]) rfl ⟨_,_,rfl,q1,q3⟩
def ayz (ts:List aQ)(a a':Option Addr)(n cap cap':Nat)(w:World)(hn:ts.length=n)(hl:n<=65536)(ha:At w a (ts.flatMap aY))(ha':At w a' (ts.flatMap aY)):
 Cv 52 #[.slice a n cap,.slice a' n cap'] w (aj true):=by
 obtain⟨Ha,qD,Hn⟩:=cX ha ha' hn;clear ha ha' hn;have Hb:=hbz w;go_enter Tryz.func52,Tryz.ntmps52;go_wp2_with fail;go_loopw[5] (λx wr=>∃k:Nat,k<=n/\x=ah (k:Int)/\Bw w wr) (λx _=>n-(intOf x).toNat);case atStart=>exact⟨0,Nat.zero_le _,rfl,Hb.out⟩
 case round=>
  clear Hb;obtain⟨k,hk,rfl,pb⟩:=hrel;by_cases hlt:k<n
  . have hk2:k<ts.length:=by rw[Hn.out];exact hlt
    obtain⟨l,s,m,e,hx⟩:∃l s m e,ts[k]=(l,s,m,e):=⟨_,_,_,_,rfl⟩;obtain⟨b,o,rfl,cj⟩:=(Ha.out.below pb).term k hk2 hx;obtain⟨b',o',rfl,kO⟩:=(qD.out.below pb).term k hk2 hx;have bD:=gJ n cap k (k:Int) (rfl:(some ⟨b,o,none⟩:Option Addr)=_) hlt rfl;have Ov:=gJ n cap' k (k:Int) (rfl:(some ⟨b',o',none⟩:Option Addr)=_) hlt rfl;have Hx:Hid (bH wr b (o+k*4) [ai l,aj s,ai m,ah e]):=cj;have Hy:Hid (bH wr b' (o'+k*4) [ai l,aj s,ai m,ah e]):=kO;have bj:=ar pb;clear pb cj kO hx;have Hb:=hbz wr;obtain⟨x0,x1,x2,x3⟩:=Hx.out.w4;obtain⟨y0,y1,y2,y3⟩:=Hy.out.w4;go_wp2_with fail;refine bV (λw'=>aF w' b (o+k*4) (ai l)/\aF w' b (o+k*4+1) (aj s)/\aF w' b (o+k*4+2) (ai m)/\aF w' b (o+k*4+3) (ah e)/\aF w' b' (o'+k*4) (ai l)/\aF w' b' (o'+k*4+1) (aj s)/\aF w' b' (o'+k*4+2) (ai m)/\aF w' b' (o'+k*4+3) (ah e)) (λi=>Nat.blt i 100000) [(0,true),(1,true),(2,true),(3,true),(4,true),(5,true),(6,true),(7,true),(8,true)] zk zk rfl zk zc ⟨x0,x1,x2,x3,y0,y1,y2,y3⟩ ?_;iterate 9 (refine pT rfl rfl ?_ (by intro w' ⟨q0,q1,q2,q3,q4,q5,q6,q7⟩;go_simp;try with_reducible rfl);try simp only[UU])
    simp only[bu];go_wp2;go_roundw;case rel=>exact⟨k+1,by omega,by go_num,bj.out.drew⟩
    case measure=>exact bI
  . obtain rfl:k=n:=by omega
    have bj:=ar pb;go_wp2;refine bodyPost_ret (results_tmp rfl _ _ _) rfl ⟨rfl,bj.out⟩
def ayr (V:Int)(ts:List aQ)(a a':Option Addr)(cap cap':Nat)(w:World)(hl:ts.length<=65536)(ha:At w a (ts.flatMap aY))(ha':At w a' (ts.flatMap aY)):
 Cv 15 #[.agg #[ah V,.slice a ts.length cap],.agg #[ah V,.slice a' ts.length cap']] w (aj true):=by
 obtain⟨n,hn⟩:=aK ts.length;have h1:=λW (hW:Bw w W)=>ayz ts a a' n cap cap' W hn zo (ha.below hW) (ha'.below hW);rw[hn];have H1:=ar h1;clear h1 ha ha' hn hl;have Hb:=hbz w;go_enter Tryz.func15,Tryz.ntmps15;go_wp2_with fail;have q:=lQ w 24 [ah V,.slice a n cap] 24 [ah V,.slice a' n cap'];first|refine cd _ q ?_|refine cw _ q ?_
 clear q;rintro W ⟨Hp,Hq,ag⟩;obtain⟨p0,p1⟩:=Hp.out.c2;obtain⟨q0,q1⟩:=Hq.out.c2;replace Hb:=az Hb ag;go_wp2_with fail;refine(H1.out _ Hb.out).mono ?_;rintro e w1 ⟨rfl,ag⟩;obtain⟨Hp,p0,p1⟩:=bi Hp ag;obtain⟨Hq,q0,q1⟩:=bi Hq ag;replace Hb:=az Hb ag;go_wp2;go_ret;exact⟨rfl,Hb.out⟩
def Aw (n:Nat)(x:Int)(D:Dyadic)(hD:Dyadic.ofIntWithPrec (n:Int) (-x)=D)(w:World)(hn:n<=1000000)(hx: -1000<=x/\x<=1000):
 Cv 36 #[ah (n:Int),ah x] w (cK D):=by
 have h1:=λW=>XX n W zo;have h2:=λW=>KN false (nt n) x D (by unfold aJ;simp only[pY];exact hD) W (Nat.le_trans (kd (k:=4) zo) zd) zo;clear hD;generalize nt n=m at*;obtain⟨H1,H2⟩:=aZ h1 h2;clear h1 h2;obtain⟨W,dK,Hb,Hr⟩:=jD w 48 [aj false,.string ⟨#[]⟩,ah 0];obtain⟨r0,aH,r1,aI,r2,aX⟩:=Hr.out.g3;go_enter Tryz.func36,Tryz.ntmps36;go_wp2_with fail;refine(H1.out _).mono ?_;rintro e w1 ⟨rfl,ag⟩;obtain⟨Hr,r0,aH,r1,aI,r2,aX⟩:=bg Hr ag;replace Hb:=az Hb ag;go_wp2_with fail;refine(H2.out _).mono ?_;rintro e w2 ⟨rfl,ag⟩;obtain⟨Hr,r0,aH,r1,aI,r2,aX⟩:=bg Hr ag;replace Hb:=az Hb ag;go_wp2;refine fP (bY w2 (w.heap.size) 0 [aj (aC (dN D)),ai (nt (dN D).natAbs),ah (dE D)]) cC ?_;intro w9 hs;replace Hr:=dt Hr hs;obtain⟨r0,aH,r1,aI,r2,aX⟩:=Hr.out.g3;replace Hb:=bS Hb hs ZS;clear hs;refine bodyPost_ret (v:=cK D) (by simp[results,Tryz.results36,go_sem,r0,r1,r2]) rfl ⟨rfl,Hb.out⟩
def aqk (A B C:Dyadic)(hA:dI 0=A)(hB:dI 4=B)(hC:dI 2=C)(w:World):
 Cl 38 #[] w λe w'=>∃a c,e=.returned (.slice a 3 c)/\3<=c/\cZ w' a [[canon A,canon A],[canon B,canon A],[canon A,canon C]]/\Bw w w':=by
 have h0:=λW=>Aw 0 0 A hA W zd zd;have h4:=λW=>Aw 4 0 B hB W zd zd;have h2:=λW=>Aw 2 0 C hC W zd zd;obtain⟨H0,H4,H2⟩:=cX h0 h4 h2;clear h0 h4 h2 hA hB hC;have Hb:=hbz w;go_enter Tryz.func38,Tryz.ntmps38;go_wp2_with fail;refine(H0.out _).mono ?_;rintro e w1 ⟨rfl,ag⟩;replace Hb:=az Hb ag;go_wp2_with fail;refine(H0.out _).mono ?_;rintro e w2 ⟨rfl,ag⟩;replace Hb:=az Hb ag;obtain⟨W3,Et,ag,Hp⟩:=cE w2 48 [aj (aC (dN A)),ai (nt (dN A).natAbs),ah (dE A),aj (aC (dN A)),ai (nt (dN A).natAbs),ah (dE A)];obtain⟨p0,p1,p2,p3,p4,p5⟩:=Hp.out.c6;replace Hb:=az Hb ag;go_wp2_with fail;refine(H4.out _).mono ?_;rintro e w4 ⟨rfl,ag⟩;obtain⟨Hp,p0,p1,p2,p3,p4,p5⟩:=kR Hp ag;replace Hb:=az Hb ag;go_wp2_with fail;refine(H0.out _).mono ?_;rintro e w5 ⟨rfl,ag⟩;obtain⟨Hp,p0,p1,p2,p3,p4,p5⟩:=kR Hp ag;replace Hb:=az Hb ag;have aEq:=Hp.out.lt;obtain⟨W6,uz,ag,Hq⟩:=cE w5 48 [aj (aC (dN B)),ai (nt (dN B).natAbs),ah (dE B),aj (aC (dN A)),ai (nt (dN A).natAbs),ah (dE A)];obtain⟨Hp,p0,p1,p2,p3,p4,p5⟩:=kR Hp ag;obtain⟨q0,q1,q2,q3,q4,q5⟩:=Hq.out.c6;replace Hb:=az Hb ag;go_wp2_with fail;refine(H0.out _).mono ?_;rintro e w7 ⟨rfl,ag⟩;obtain⟨Hp,p0,p1,p2,p3,p4,p5⟩:=kR Hp ag;obtain⟨Hq,q0,q1,q2,q3,q4,q5⟩:=kR Hq ag;replace Hb:=az Hb ag;go_wp2_with fail;refine(H2.out _).mono ?_;rintro e w8 ⟨rfl,ag⟩;obtain⟨Hp,p0,p1,p2,p3,p4,p5⟩:=kR Hp ag;obtain⟨Hq,q0,q1,q2,q3,q4,q5⟩:=kR Hq ag;replace Hb:=az Hb ag;have aEs:=Hp.out.lt;have aEC:=Hq.out.lt;obtain⟨W9,UR,ag,Hr⟩:=cE w8 48 [aj (aC (dN A)),ai (nt (dN A).natAbs),ah (dE A),aj (aC (dN C)),ai (nt (dN C).natAbs),ah (dE C)];replace Hp:=kB Hp ag;obtain⟨Hq,q0,q1,q2,q3,q4,q5⟩:=kR Hq ag;obtain⟨p0,p1,p2,p3,p4,p5⟩:=Hp.out.c6;obtain⟨r0,r1,r2,r3,r4,r5⟩:=Hr.out.c6;replace Hb:=az Hb ag;have aEk:=Hp.out.lt;have aEv:=Hq.out.lt;have aED:=Hr.out.lt;obtain⟨W10,aCt,ag,Ht⟩:=cE W9 56 [.slice (some ⟨w2.heap.size,0,none⟩) 2 2,.slice (some ⟨w5.heap.size,0,none⟩) 2 2,.slice (some ⟨w8.heap.size,0,none⟩) 2 2];replace Hp:=kB Hp ag;replace Hq:=kB Hq ag;obtain⟨Hr,r0,r1,r2,r3,r4,r5⟩:=kR Hr ag;obtain⟨p0,p1,p2,p3,p4,p5⟩:=Hp.out.c6;obtain⟨q0,q1,q2,q3,q4,q5⟩:=Hq.out.c6;obtain⟨t0,t1,t2⟩:=Ht.out.c3;replace Hb:=az Hb ag;go_wp2;refine bodyPost_ret (results_tmp rfl _ _ _) rfl ⟨_,_,rfl,by decide,⟨_,rfl,At.aFK Ht.out,λi h h'=>?_⟩,Hb.out⟩;have hi:i=0\/i=1\/i=2:=by simp at h;omega
 rcases hi with rfl|rfl|rfl
 . exact⟨_,_,rfl,At.aFK Hp.out⟩
 . exact⟨_,_,rfl,At.aFK Hq.out⟩
 . exact⟨_,_,rfl,At.aFK Hr.out⟩
def ayt (V D:Int)(a a':Option Addr)(n cap cap':Nat)(cJ:List Raw)(w:World)(hn:cJ.length=n)(hl:n<=1000)(ha:At w a (cJ.flatMap bG))(ha':At w a' (cJ.flatMap bG)):
 Cv 13 #[.agg #[ah V,ah D,.slice a n cap],.agg #[ah V,ah D,.slice a' n cap']] w (aj true):=by
 obtain⟨Ha,qD,Hn⟩:=cX ha ha' hn;clear ha ha' hn;have Hb:=hbz w;go_enter Tryz.func13,Tryz.ntmps13;go_wp2_with fail;have q:=lQ w 34 [ah V,ah D,.slice a n cap] 34 [ah V,ah D,.slice a' n cap'];first|refine cd _ q ?_|refine cw _ q ?_
 clear q;rintro W ⟨Hp,Hq,ag⟩;obtain⟨p0,p1,p2⟩:=Hp.out.c3;obtain⟨q0,q1,q2⟩:=Hq.out.c3;replace Hb:=az Hb ag;have mQ:=Hp;have yQ:=Hq;have dY:=Hb;go_wp2_with fail;go_loopw[5] (λx wr=>∃k:Nat,k<=n/\x=ah (k:Int)/\Bw W wr) (λx _=>n-(intOf x).toNat);case atStart=>exact⟨0,Nat.zero_le _,rfl,Below.refl _ _⟩
 case round=>
  clear Hb Hp Hq p0 p1 p2 q0 q1 q2;obtain⟨k,hk,rfl,pb⟩:=hrel;have bQ:=aO dY.out pb;obtain⟨Hp,Hq⟩:=aZ (mQ.out.below pb) (yQ.out.below pb);by_cases hlt:k<n
  . have hk2:k<cJ.length:=by rw[Hn.out];exact hlt
    obtain⟨s,m,e,hx⟩:=pJ (cJ[k]);obtain⟨b,o,rfl,n0,n1,n2⟩:=(Ha.out.below bQ).num k hk2 hx;obtain⟨b',o',rfl,m0,m1,m2⟩:=(qD.out.below bQ).num k hk2 hx;have bD:=kP n cap k (k:Int) (rfl:(some ⟨b,o,none⟩:Option Addr)=_) hlt rfl;have Ov:=kP n cap' k (k:Int) (rfl:(some ⟨b',o',none⟩:Option Addr)=_) hlt rfl;have Hx:Hid (bH wr b (o+k*3) [aj s,ai m,ah e]):=jH n0 n1 n2;have Hy:Hid (bH wr b' (o'+k*3) [aj s,ai m,ah e]):=jH m0 m1 m2;have bj:=ar pb;clear pb n0 n1 n2 m0 m1 m2 hx bQ;have Hb:=hbz wr;obtain⟨p0,p1,p2⟩:=Hp.out.c3;obtain⟨q0,q1,q2⟩:=Hq.out.c3;obtain⟨x0,x1,x2⟩:=Hx.out.w3;obtain⟨y0,y1,y2⟩:=Hy.out.w3;go_wp2_with fail;refine bV (λw'=>aF w' (w.heap.size) 2 (.slice (some ⟨b,o,none⟩) n cap)/\aF w' (w.heap.size+1) 2 (.slice (some ⟨b',o',none⟩) n cap')/\aF w' b (o+k*3) (aj s)/\aF w' b (o+k*3+1) (ai m)/\aF w' b (o+k*3+2) (ah e)/\aF w' b' (o'+k*3) (aj s)/\aF w' b' (o'+k*3+1) (ai m)/\aF w' b' (o'+k*3+2) (ah e)) (λi=>Nat.blt i 100000) [(0,true),(1,true),(2,true),(3,true),(4,true),(5,true),(6,true),(7,true),(8,true),(9,true),(10,true)] zk zk rfl zk zc ⟨p2,q2,x0,x1,x2,y0,y1,y2⟩ ?_;iterate 11 (refine pT rfl rfl ?_ (by intro w' ⟨q0,q1,q2,q3,q4,q5,q6,q7⟩;go_simp;try with_reducible rfl);try simp only[UU])
    simp only[bu];go_wp2;go_roundw;case rel=>exact⟨k+1,by omega,by go_num,bj.out.drew⟩
    case measure=>exact bI
  . obtain rfl:k=n:=by omega
    have eJ:=ar bQ;clear pb bQ;obtain⟨p0,p1,p2⟩:=Hp.out.c3;obtain⟨q0,q1,q2⟩:=Hq.out.c3;go_wp2;refine bodyPost_ret (results_tmp rfl _ _ _) rfl ⟨rfl,eJ.out⟩
def is16 (D:Int)(a:Option Addr)(ns:List Nat)(N cap:Nat)(al:Option Addr)(ab6:Nat)(w:World)(hN:ns.length=N)(hl:N<=1000)(hn:∀n∈ns,n<=1000000)(hf:At w a (dC (ns.map dI)))(ha:At w al (ns.map λ(n:Nat)=>Value.int .i64 (n:Int))):
 Cv 39 #[.agg #[ah 2,ah D,.slice a N cap],ah 0,ah D,.slice al N ab6] w (aj true):=by
 obtain⟨i0,hi,hz0,hz1,hz2⟩:=info_parts Tryz.aFN;have hsm:=λa' c' W (hW:Bw w W) (h:At W a' (dC (ns.map dI)))=>ayt 2 D a a' N cap c' ((ns.map dI).map canon) W (by simp[hN]) hl (by rw[<-oh];exact hf.below hW) (by rw[<-oh];exact h);obtain⟨HN,HA,Hn,Hi,dF,dv,di⟩:=mE hN ha hn hi hz0 hz1 hz2;obtain⟨Z,hZ⟩:=aK (ns.map dI);rw[hZ]at hsm;obtain⟨HZ,eF⟩:=aZ hZ hsm;clear hN ha hn hi hz0 hz1 hz2 hZ hsm hf;obtain⟨W,dK,Hb,Hf,Ho⟩:=mG w 34 [ah 2,ah D,.slice a N cap] 34 [ah 2,ah D,.slice none 0 0];obtain⟨f0,f1,f2⟩:=Hf.out.c3;obtain⟨o0,gm,o1,gu,o2,Ed⟩:=Ho.out.g3;go_enter Tryz.func39,Tryz.ntmps39;go_wp2_with fail;first|refine cd (bY W (w.heap.size+1) 2 [.slice none 0 0]) cC ?_|refine cw (bY W (w.heap.size+1) 2 [.slice none 0 0]) cC ?_
 intro w1 hs;replace Hf:=kS Hf hs zo;replace Ho:Hid (au w1 (w.heap.size+1) 34 [ah 2,ah D,.slice none 0 0]):=Ak Ho hs;obtain⟨f0,f1,f2⟩:=Hf.out.c3;obtain⟨o0,gm,o1,gu,o2,Ed⟩:=Ho.out.g3;replace Hb:=bS Hb hs ZS;clear hs;have lf:=Hf.out.lt;have lo:=Ho.out.lt;go_loopw[10] (λi wr=>∃k:Nat,k<=N/\i=ah (k:Int)/\∃v,wr.ownsRow w.heap.size 48 3 v k (dC (Z.take k))/\au wr w.heap.size 34 [ah 2,ah D,.slice a N cap]/\au wr (w.heap.size+1) 34 [ah 2,ah D,v]/\Bw w wr) (λi _=>N-(intOf i).toNat);case atStart=>exact⟨0,Nat.zero_le _,rfl,_,World.ownsRow_nil _ _ _ _,Hf.out,Ho.out,Hb.out⟩
 case round=>
  obtain⟨k,hk,rfl,v,pv,pR,pO,pb⟩:=hrel;by_cases hlt:k<N
  . have h1:k<ns.length:=by rw[HN.out];exact hlt
    obtain⟨n,hx⟩:=aK (ns[k]);have hnn:n<=1000000:=by rw[<-hx];exact Hn.out _ (List.getElem_mem h1)
    obtain⟨X,hX⟩:=aK (dI n);have EJ:=λW=>Aw n 0 X hX W hnn zd;have cn:Hid (dC (Z.take (k+1))=dC (Z.take k)++[aj (aC (dN X)),ai (nt (dN X).natAbs),ah (dE X)]):=by
     show _=_
     rw[<-HZ.out,List.take_succ_eq_append_getElem (by simpa using h1),BA];congr 1;simp only[List.getElem_map,hx,hX];rfl
    have hat:At w al (ns.flatMap λ(n:Nat)=>[Value.int .i64 (n:Int)]):=by rw[Ec];exact HA.out
    obtain⟨b1,oa,sU,hcs⟩:=hat.elem (f:=λ(n:Nat)=>[Value.int .i64 (n:Int)]) (sz:=1) (λ_=>rfl) zd k h1;have p0:w.cell? ⟨b1,oa+k,none⟩=some (ah (n:Int)):=by rw[<-hx];simpa using hcs 0 zd
    have rD:b1<w.heap.size:=World.block_lt_of_cell? w _ p0;replace p0:=cell_later pb p0;have sV:=atT N ab6 k (k:Int) sU hlt rfl;rw[Nat.mul_one]at sV;have Hp:Hid (bH wr b1 (oa+k) [ah (n:Int)]):=λj hj=>by
     obtain rfl:j=0:=by simp at hj;omega
     exact p0
    replace Hf:=ar pR;replace Ho:=ar pO;obtain⟨Hv,AQ⟩:=aZ pv pb;have aDd:w.heap.size<=wr.heap.size:=pb.size;obtain⟨y,hy⟩:∃y:Int,(n:Int)=y:=⟨_,rfl⟩;rw[hy]at Hp EJ;have Mb:=ar EJ;clear pR pO pv hx hX sU p0 Hb pb hat hcs EJ hnn hy;have Hb:=hbz wr;go_wp2_with fail;obtain⟨o0,gm,o1,gu,o2,Ed⟩:=Ho.out.g3;have p0:=Hp.out.w1;refine bV (λw'=>aF w' (w.heap.size+1) 2 (v)/\aF w' b1 (oa+k) (ah y)) (λi=>Nat.blt i 10) [(0,true),(1,true),(2,true),(3,true),(4,true),(5,true),(6,false),(7,false),(8,false),(9,true),(10,false)] zk zk rfl zk zc ⟨o2,p0⟩ ?_;iterate 6 (refine pT rfl rfl ?_ (by intro w' ⟨q0,q1⟩;go_simp;try with_reducible rfl);try simp only[UU])
    refine aR rfl rfl (λK hK=>?_);go_simp;with_reducible refine(Mb.out _).mono ?_
    rintro e w5 ⟨rfl,hq⟩;have ag:Bw wr w5:=by first|exact hq|exact bo hq
    obtain⟨Ho,o0,gm,o1,gu,o2,Ed⟩:=bg Ho ag;replace Hp:=kW Hp ag;have p0:=Hp.out.w1;replace Hb:=az Hb ag;refine hK _ _ (λ_=>⟨o2,p0⟩) ?_;try simp only[UU]
    refine aR rfl rfl (λK hK=>?_);go_simp;refine hK _ _ (λ_=>⟨aV o2,aV p0⟩) ?_;try simp only[UU]
    refine bZ (λw6=>au w6 (w5.heap.size) 48 [aj (aC (dN X)),ai (nt (dN X).natAbs),ah (dE X)]/\Bw w5 w6) (by first|exact eo|exact eu) ?_;rintro w6 ⟨qc,ag⟩;have aEi:=Ho.out.lt;replace Ho:=kB Ho ag;replace Hp:=kW Hp ag;have Hc:=ar qc;clear qc;obtain⟨o0,gm,o1,gu,o2,Ed⟩:=Ho.out.g3;have p0:=Hp.out.w1;obtain⟨c0,c1,c2⟩:=Hc.out.c3;replace Hb:=az Hb ag;refine aR rfl rfl (λK hK=>?_);have dR:=ownsRow_below Hv.out Hb.out;have ky:=Hb.out.size;refine wp_append_own _ _ _ 32 rfl w.heap.size 48 i0 _ 3 32 Tryz.underlying32 Hi.out dF.out dv.out di.out rfl zd v k (dC (Z.take k)) rfl dR ⟨w5.heap.size,0,none⟩ 1 1 [aj (aC (dN X)),ai (nt (dN X).natAbs),ah (dE X)] rfl rfl (gW Hc.out) zy zx zo zo ?_;intro v' w7 fg fM _;obtain⟨g',cq,rfl⟩:=ownsRow_succ fg;have nb:∀b,b<w.heap.size->some b≠v.ownBlock:=λb hb e=>by have:=dX dR b e.symm;omega
    have eP:=Ho.out.row zd dR fM;have hr2:=(Hf.out.below Hb.out).row zd dR fM;refine hK _ _ (λ_=>⟨eP.cell 2,dc fM p0 (nb _ rD)⟩) ?_;clear hK K o0 o1 o2 gm gu Ed p0 c0 c1 c2;try simp only[UU]
    refine pT rfl rfl ?_;try simp only[UU]
    refine aR rfl rfl (λK hK=>?_);have o2:w7.cell? ⟨w.heap.size+1,2,none⟩=some v:=eP.cell 2;have Ed:w7.frozen? ⟨w.heap.size+1,2,none⟩=false:=eP.free 2;obtain⟨Hnr,H1,H4,H5,H6,H7⟩:=iq (eP.not_row zd fg) eP hr2 fg fM dR;clear eP hr2 fg fM dR;go_simp;refine hK _ _ (λh=>absurd h zd) ?_;simp only[bu];go_wp2;go_roundw;case rel=>
     refine⟨k+1,by omega,by go_num,.slice (some ⟨g',0,none⟩) (k+1) cq,?_,?_,?_,?_⟩
     . rw[cn.out];exact H5.out.kept (grownBy_set (w:=w7) (a:=⟨w.heap.size+1,2,none⟩) (w.heap.size+1) rfl _) (.inr Hnr.out.symm)
     . exact H4.out.aFJ ⟨w.heap.size+1,2,none⟩ zp _
     . exact H1.out.set 2 _
     . refine Below.setCell ?_ zp _;exact(aO AQ.out Hb.out).grown H6.out zo (λj e=>dX H7.out j e)
    case measure=>exact bI
  . obtain rfl:k=N:=by omega
    have rf:Z.take k=Z:=by rw[List.take_of_length_le];rw[<-HZ.out];simp[HN.out]
    rw[rf]at pv;obtain⟨a2,cap2,rfl,hat,hab⟩:=dS pv;have HSm:=ar (eF.out a2 cap2 wr pb hat);replace Hf:=ar pR;replace Ho:=ar pO;replace Hb:=ar pb;clear pv pR pO pb hat hab rf;obtain⟨f0,f1,f2⟩:=Hf.out.c3;obtain⟨o0,o1,o2⟩:=Ho.out.c3;go_wp2_with fail;refine(HSm.out).mono ?_;rintro e w8 ⟨rfl,ag⟩;obtain⟨Hf,f0,f1,f2⟩:=cm Hf ag;obtain⟨Ho,o0,o1,o2⟩:=cm Ho ag;replace Hb:=az Hb ag;go_wp2;refine bodyPost_ret (results_tmp rfl _ _ _) rfl ⟨rfl,Hb.out⟩
def axW (V B:Nat)(s:Bool)(m:List UInt8)(e:Int)(D:Dyadic)(l:Nat->Dyadic)(w:World)(hV:V<=12)(hf:tL B (s,m,e))(hB:B<=16000)(hD:aJ (s,m,e)=D):
 Cl 35 #[ah (V:Int),.agg #[aj s,ai m,ah e]] w λex w'=>∃a' c',ex=.returned (.tuple #[.agg #[ah (V:Int),.slice a' (dP V D l 0).length c'],ah 0])/\bE w' a' c' (dP V D l 0)/\Bw w w':=by
 have hC:=ag3 V D (s,m,e) l hD;obtain⟨C,Eg⟩:=aK (dP V D l 0);rw[Eg]at hC⊢;have hmk:=λW b (hb:au W b 67 [ai (jq V),aj s,ai m,ah e])=>PQ V (some ⟨b,0,none⟩) 1 1 [(jq V,(s,m,e))] B W rfl zo (At.aFK hb) (by intro t ht;simp at ht;subst ht;exact hf.1) (by intro t ht;simp at ht;subst ht;exact hf.2) zo;rw[hC]at hmk;have hmb:=λW=>uT (V:Int) V rfl zo W;have hcv:∀W b,Hid (au W b 5 (dw V λ_=>0))->(convert 84 9 (.slice (some ⟨b,0,none⟩) V V)).run Tryz.prog W=.ok (ai (jq V)) W:=λW b h=>by rw[<-ajL];exact vp h.out V
 have mh:=ar hmk;clear hmk hC Eg hf hD;have hVi:¬(V:Int)<0:=by omega
 have hV2:¬(12:Int)<(V:Int):=by omega
 obtain⟨W,dK,Hb,Hc,Hr⟩:=mG w 48 [aj s,ai m,ah e] 24 [ah 0,.slice none 0 0];obtain⟨c0,c1,c2⟩:=Hc.out.c3;obtain⟨r0,aH,r1,aI⟩:=Hr.out.g2;go_enter Tryz.func35,Tryz.ntmps35;go_wp2_with fail;refine bV (λw'=>aF w' (w.heap.size) 0 (aj s)/\aF w' (w.heap.size) 1 (ai m)/\aF w' (w.heap.size) 2 (ah e)) (λi=>Nat.blt i 10) [(0,true),(1,true),(4,true),(2,false),(3,false),(5,true),(6,false),(7,false),(8,true),(9,true),(10,false),(11,false)] zk zk rfl zk zc ⟨c0,c1,c2⟩ ?_;iterate 3 (refine pT rfl rfl ?_ (by intro w' ⟨q0,q1,q2⟩;go_simp;try with_reducible rfl);try simp only[UU])
 refine aR rfl rfl (λK hK=>?_);go_simp;refine hK _ _ (λ_=>⟨aV c0,aV c1,aV c2⟩) ?_;try simp only[UU]
 refine bZ (λW3=>au W3 (W.heap.size) 5 (dw V (λ_=>0))/\Bw W W3) (by first|exact eo|exact eu) ?_;rintro W3 ⟨qq,ag⟩;have Pk:=Hc.out.lt;have Kh:=Hr.out.lt;replace Hc:=kB Hc ag;replace Hr:=kB Hr ag;have Hq:=ar qq;clear qq;obtain⟨c0,c1,c2⟩:=Hc.out.c3;obtain⟨r0,aH,r1,aI⟩:=Hr.out.g2;replace Hb:=az Hb ag;refine aR rfl rfl (λK hK=>?_);go_simp;refine hK _ _ (λ_=>⟨c0,c1,c2⟩) ?_;try simp only[UU]
 refine pT rfl rfl ?_;try simp only[UU]
 refine aR rfl rfl (λK hK=>?_);go_simp;refine hK _ _ (λ_=>⟨aV c0,aV c1,aV c2⟩) ?_;try simp only[UU]
 refine bZ (λW4=>au W4 (W3.heap.size) 67 [ai (jq V),aj s,ai m,ah e]/\Bw W3 W4) (by first|exact eo|exact eu) ?_;rintro W4 ⟨qz,ag⟩;have Xa:=Hc.out.lt;have Xb:=Hr.out.lt;have avb:=Hq.out.lt;replace Hc:=kB Hc ag;replace Hr:=kB Hr ag;replace Hq:=kB Hq ag;have Hz:=ar qz;clear qz;obtain⟨c0,c1,c2⟩:=Hc.out.c3;obtain⟨r0,aH,r1,aI⟩:=Hr.out.g2;obtain⟨z0,z1,z2,z3⟩:=Hz.out.c4;replace Hb:=az Hb ag;refine aR rfl rfl (λK hK=>?_);go_simp;with_reducible refine(mh.out _ _ Hz.out).mono ?_
 rintro e w5 ⟨a2,d2,rfl,eP,hq⟩;have ag:Bw W4 w5:=by first|exact hq|exact bo hq
 obtain⟨Hc,c0,c1,c2⟩:=cm Hc ag;obtain⟨Hr,r0,aH,r1,aI⟩:=bA Hr ag;replace Hq:=kB Hq ag;obtain⟨Hz,z0,z1,z2,z3⟩:=dZ Hz ag;replace Hb:=az Hb ag;refine hK _ _ (λ_=>⟨c0,c1,c2⟩) ?_;try simp only[UU]
 iterate 2 (refine pT rfl rfl ?_;try simp only[UU])
 refine aR rfl rfl (λK hK=>?_);go_simp;refine hK _ _ (by first|exact λh=>absurd h zd|exact λ_=>⟨c0,c1,c2⟩ |exact λ_=>⟨(by first|exact c0|exact aU zf c0|exact aU zf (aU zf c0) |exact aU zf (aU zf (aU zf c0))),(by first|exact c1|exact aU zf c1|exact aU zf (aU zf c1) |exact aU zf (aU zf (aU zf c1))),(by first|exact c2|exact aU zf c2|exact aU zf (aU zf c2) |exact aU zf (aU zf (aU zf c2)))⟩) ?_;try simp only[UU]
 refine aR rfl rfl (λK hK=>?_);go_simp;refine hK _ _ (λh=>absurd h zd) ?_;try simp only[UU]
 simp only[bu];go_wp2;have h9:=eP.store Hr.out zd (ah (V:Int)) (.slice a2 C.length d2);refine fP (λw9=>bE w9 a2 d2 C/\au w9 (w.heap.size+1) 24 [ah (V:Int),.slice a2 C.length d2]/\Bw w w9) ⟨h9,(Hr.out.set 0 _).set 1 _,(Hb.out.setCell zp _).setCell zp _⟩ ?_;rintro w9 ⟨q1,q2,q3⟩;obtain⟨p0,p1⟩:=q2.c2;exact bodyPost_ret (v:=.tuple #[.agg #[ah (V:Int),.slice a2 C.length d2],ah 0]) (by simp[results,Tryz.results35,go_sem,p0,p1]) rfl ⟨_,_,rfl,q1,q3⟩
end Go.Proofs.YtnjfebkelecgaaaGreatDoor
namespace Go.Proofs.YtnjfebkelecgaaaGreatDoor
def wG (e:Nat):Dyadic:=Dyadic.ofIntWithPrec 1 (-(e:Int))
def ai2 (a b:Nat):wG a*wG b=wG (a+b):=by unfold wG;rw[wz];congr 1;rw[Int.natCast_add];omega
def ai3 :wG 0=1:=by decide+kernel
def azS (e k:Nat):cP (wG e) k=wG (e*k):=by
 induction k with
 |zero=>rw[Nat.mul_zero,ai3];rfl
 |succ k ih=>rw[cP,ih,ai2,Nat.mul_succ]
def Fy (n V:Nat)(k:Nat):Dyadic:=wG (n*128^(V-1-k))
def wB (V:Nat)(m:List UInt8):Nat->Nat
 |0=>0
 |k+1=>wB V m k+(m.getD k 0).toNat*128^(V-1-k)
def awO (V:Nat)(c:UInt8)(m:List UInt8)(k:Nat):wB (V+1) (c::m) (k+1)=c.toNat*128^V+wB V m k:=by
 induction k with
 |zero=>simp[wB]
 |succ k ih=>rw[wB,ih,wB,List.getD_cons_succ,show V+1-1-(k+1)=V-1-k by omega];omega
def awN (V:Nat)(m:List UInt8)(h:m.length=V):wB V m V=lw 128 m:=by
 induction m generalizing V with
 |nil=>subst h;rfl
 | cons c m ih=>
   obtain rfl:V=m.length+1:=by simpa using h.symm
   rw[awO,lw,ih m.length rfl]
def azA (n V:Nat)(m:List UInt8)(k:Nat):fJ (Fy n V) 1 m k=wG (n*wB V m k):=by
 induction k with
 |zero=>rw[wB,Nat.mul_zero,ai3];rfl
 |succ k ih=>rw[fJ,ih,Fy,azS,ai2,wB,Nat.mul_add,Nat.mul_assoc,Nat.mul_comm (128^(V-1-k))]
def aiQ {B:Nat}(n V e:Nat)(m:List UInt8)(d:Dyadic)(hd:Sm B d)(hm:m.length=V)(he:e<=lw 128 m):∃M:Int,d*fD (Fy n V) V m=Dyadic.ofIntWithPrec (M*2^(n*e)) B/\(e=lw 128 m->d=Dyadic.ofIntWithPrec M B/\M.natAbs<2^(2*B)):=by
 obtain⟨z,hz,hz2⟩:=hd;obtain⟨c,hc⟩:=aK (lw 128 m);rw[hc]at he⊢;have h1:d*fD (Fy n V) V m=Dyadic.ofIntWithPrec (z*2^(n*c)) B:=by unfold fD;rw[azA,awN V m hm,hc,hz];unfold wG;rw[wz,Int.mul_one,<-wA z (n*c)];congr 1;omega
 refine⟨z*2^(n* (c-e)),?_,λh=>?_⟩
 . rw[h1,Int.mul_assoc,<-Int.pow_add];congr 3;rw[<-Nat.mul_add];congr 1;omega
 . rw[show c-e=0 by omega,Nat.mul_zero,Int.pow_zero,Int.mul_one];exact⟨hz,hz2⟩
def azB {B:Nat}(n V e:Nat)(l:List aQ)(hs:∀t∈l,Sm B (aJ t.2))(hm:∀t∈l,t.1.length=V)(he:∀t∈l,e<=lw 128 t.1):∃M:Int,df (fD (Fy n V) V) l=Dyadic.ofIntWithPrec (M*2^(n*e)) B:=by
 induction l with
 |nil=>exact⟨0,by rw[Int.zero_mul,uW];rfl⟩
 |cons t l ih=>obtain⟨M,hM⟩:=ih (λu hu=>hs u (by simp[hu])) (λu hu=>hm u (by simp[hu])) (λu hu=>he u (by simp[hu]));obtain⟨K,hK,_⟩:=aiQ (B:=B) n V e t.1 (aJ t.2) (hs t zm) (hm t zm) (he t zm);exact⟨K+M,by rw[df,hK,hM,Ay,Int.add_mul]⟩
def arU {V B:Nat}{l:List aQ}(hg:Good l)(hm:∀t∈l,eQ t.1 (V:Int)=true)(hs:∀t∈l,Sm B (aJ t.2))(h:∀X,df (fD X V) l=0):l=[]:=by
 cases l with
 |nil=>rfl
 | cons t l=>
   exfalso
   have sY:∀u∈t::l,u.1.length=V/\∀c∈u.1,c.toNat<128:=λu hu=>by obtain⟨h1,h2⟩:=se (hm u hu);exact⟨h1,λc hc=>by have:=h2 c hc;omega⟩
   obtain⟨hup,_⟩:=List.pairwise_cons.1 hg.1;obtain⟨K,hK,hK2⟩:=aiQ (B:=B) (2*B) V (lw 128 t.1) t.1 (aJ t.2) (hs t zm) (sY t zm).1 (Nat.le_refl _);obtain⟨M,hM⟩:=azB (B:=B) (2*B) V (lw 128 t.1+1) l (λu hu=>hs u (by simp[hu])) (λu hu=>(sY u (by simp[hu])).1) (λu hu=>aci 128 t.1 u.1 (by rw[(sY t zm).1,(sY u (by simp[hu])).1]) (sY t zm).2 (hup u hu));obtain⟨hd,hb⟩:=hK2 rfl;have h0:=h (Fy (2*B) V);rw[df,hK,hM,Ay,awC,Nat.mul_add,Nat.mul_one,Int.pow_add,<-Int.mul_assoc]at h0;have h1:(K+M*2^(2*B)) *2^(2*B*lw 128 t.1)=0:=by rw[Int.add_mul,<-h0];congr 1;rw[Int.mul_assoc,Int.mul_assoc,Int.mul_comm (2^(2*B))]
   have h2:K+M*2^(2*B)=0:=by
    rcases Int.mul_eq_zero.1 h1 with h|h
    . exact h
    . exact absurd h (by have:(0:Int)<2^(2*B*lw 128 t.1):=Int.pow_pos zd;omega)
   have h3:K= -M*2^(2*B):=by rw[Int.neg_mul];omega
   have h4:K.natAbs=M.natAbs*2^(2*B):=by rw[h3,Int.natAbs_mul,Int.natAbs_neg,Int.natAbs_pow];rfl
   have h5:M.natAbs=0:=by
    rcases Nat.eq_zero_or_pos M.natAbs with h|h
    . exact h
    . have:=Nat.mul_le_mul_right (2^(2*B)) h;omega
   have h6:K=0:=by rw[h5,Nat.zero_mul]at h4;omega
   exact(hg.2 t zm).1 (by rw[hd,h6,uW])
def acU (f:List UInt8->Dyadic)(c:Dyadic)(l:List aQ):df f (dA c l)=c*df f l:=by
 induction l with
 |nil=>show(0:Dyadic)=c*0;grind
 |cons t l ih=>have e:dA c (t::l)=(t.1,canon (aJ t.2*c))::dA c l:=rfl;rw[e,df,ih,cp,df];grind
def arW {V B:Nat}{a b:List aQ}(ha:yY V a)(hb:yY V b)(sa:∀t∈a,Sm B (aJ t.2))(sb:∀t∈b,Sm B (aJ t.2))(h:∀X,df (fD X V) a=df (fD X V) b):a=b:=by
 have hc:bP (a++dA (-1) b)=[]:=by
  have hsm:∀t∈a++dA (-1) b,Sm B (aJ t.2):=λt ht=>by
   rcases List.mem_append.1 ht with h|h
   . exact sa t h
   . obtain⟨u,hu,rfl⟩:=List.mem_map.1 (show t∈b.map λx=>(x.1,canon (aJ x.2* (-1)))from h);show Sm B (aJ (canon _))
     rw[cp,show aJ u.2* (-1)= -aJ u.2 by grind];exact(sb u hu).neg
  refine arU (V:=V) (B:=B+(a++dA (-1) b).length) (Bq _) (λt ht=>?_) (acb hsm) (λX=>?_)
  . obtain⟨y,hy,e⟩:=TA _ t ht;rw[<-e];rcases List.mem_append.1 hy with h|h
    . exact ha.2.1 y h
    . obtain⟨u,hu,rfl⟩:=List.mem_map.1 (show y∈b.map λx=>(x.1,canon (aJ x.2* (-1)))from h);exact hb.2.1 u hu
  . rw[Ea,DZ,acU,h X];grind
 refine Um ha.1 hb.1 (λm=>?_);have h1:cL (bP (a++dA (-1) b)) m=0:=by rw[hc];rfl
 rw[uo,zu,TE]at h1;grind
end Go.Proofs.YtnjfebkelecgaaaGreatDoor
namespace Go.Proofs.YtnjfebkelecgaaaGreatDoor
open Go.RowKit
attribute [local go_sem ↓] Go.wp_at_zero Go.wp_at_succ
def aq7 (ts:List aQ)(a a':Option Addr)(n cap cap':Nat)(w:World)(hn:ts.length=n)(hl:n<=65536)(ha:At w a (ts.flatMap aY))(ha':At w a' (ts.flatMap aY)):
 Cv 77 #[.slice a n cap,.slice a' n cap'] w (aj true):=by
 obtain⟨Ha,qD,Hn⟩:=cX ha ha' hn;clear ha ha' hn;have Hb:=hbz w;go_enter Tryz.func77,Tryz.ntmps77;go_wp2_with fail;go_loopw[5,13] (λ_ x wr=>∃k:Nat,k<=n/\x=ah (k:Int)/\Bw w wr) (λ_ x _=>n-(intOf x).toNat);case atStart=>exact⟨0,Nat.zero_le _,rfl,Hb.out⟩
 case round=>
  clear Hb;obtain⟨k,hk,rfl,pb⟩:=hrel;by_cases hlt:k<n
  . have hk2:k<ts.length:=by rw[Hn.out];exact hlt
    obtain⟨l,s,m,e,hx⟩:∃l s m e,ts[k]=(l,s,m,e):=⟨_,_,_,_,rfl⟩;obtain⟨b,o,rfl,cj⟩:=(Ha.out.below pb).term k hk2 hx;obtain⟨b',o',rfl,kO⟩:=(qD.out.below pb).term k hk2 hx;have bD:=gJ n cap k (k:Int) (rfl:(some ⟨b,o,none⟩:Option Addr)=_) hlt rfl;have Ov:=gJ n cap' k (k:Int) (rfl:(some ⟨b',o',none⟩:Option Addr)=_) hlt rfl;have Hx:Hid (bH wr b (o+k*4) [ai l,aj s,ai m,ah e]):=cj;have Hy:Hid (bH wr b' (o'+k*4) [ai l,aj s,ai m,ah e]):=kO;have bj:=ar pb;clear pb cj kO hx;have Hb:=hbz wr;obtain⟨x0,x1,x2,x3⟩:=Hx.out.w4;obtain⟨y0,y1,y2,y3⟩:=Hy.out.w4;go_wp2_with fail;refine bV (λw'=>aF w' b (o+k*4) (ai l)/\aF w' b (o+k*4+1) (aj s)/\aF w' b (o+k*4+2) (ai m)/\aF w' b (o+k*4+3) (ah e)/\aF w' b' (o'+k*4) (ai l)/\aF w' b' (o'+k*4+1) (aj s)/\aF w' b' (o'+k*4+2) (ai m)/\aF w' b' (o'+k*4+3) (ah e)) (λi=>Nat.blt i 100000) [(0,true),(1,true),(2,true),(3,true),(4,true),(5,true),(6,true),(7,true),(8,true)] zk zk rfl zk zc ⟨x0,x1,x2,x3,y0,y1,y2,y3⟩ ?_;iterate 9 (refine pT rfl rfl ?_ (by intro w' ⟨q0,q1,q2,q3,q4,q5,q6,q7⟩;go_simp;try with_reducible rfl);try simp only[UU])
    simp only[bu];go_wp2;go_roundw;case rel=>exact⟨k+1,by omega,by go_num,bj.out.drew⟩
    case measure=>exact bI
  . obtain rfl:k=n:=by omega
    have bj:=ar pb;go_wp2;refine bodyPost_ret (results_tmp rfl _ _ _) rfl ⟨rfl,bj.out⟩
def axo (V:Int)(ts:List aQ)(a a':Option Addr)(cap cap':Nat)(w:World)(hl:ts.length<=65536)(ha:At w a (ts.flatMap aY))(ha':At w a' (ts.flatMap aY)):
 Cv 28 #[.agg #[ah V,.slice a ts.length cap],.agg #[ah V,.slice a' ts.length cap']] w (aj true):=by
 obtain⟨n,hn⟩:=aK ts.length;have h1:=λW (hW:Bw w W)=>aq7 ts a a' n cap cap' W hn zo (ha.below hW) (ha'.below hW);rw[hn];have H1:=ar h1;clear h1 ha ha' hn hl;have Hb:=hbz w;go_enter Tryz.func28,Tryz.ntmps28;go_wp2_with fail;have q:=lQ w 24 [ah V,.slice a n cap] 24 [ah V,.slice a' n cap'];first|refine cd _ q ?_|refine cw _ q ?_
 clear q;rintro W ⟨Hp,Hq,ag⟩;obtain⟨p0,p1⟩:=Hp.out.c2;obtain⟨q0,q1⟩:=Hq.out.c2;replace Hb:=az Hb ag;go_wp2_with fail;refine(H1.out _ Hb.out).mono ?_;rintro e w1 ⟨rfl,ag⟩;obtain⟨Hp,p0,p1⟩:=bi Hp ag;obtain⟨Hq,q0,q1⟩:=bi Hq ag;replace Hb:=az Hb ag;go_wp2;go_ret;exact⟨rfl,Hb.out⟩
end Go.Proofs.YtnjfebkelecgaaaGreatDoor
