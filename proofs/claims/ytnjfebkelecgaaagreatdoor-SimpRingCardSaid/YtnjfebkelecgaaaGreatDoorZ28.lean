/- Plain: a form brought back to a polynomial. -/
import Derived.Test.YtnjfebkelecgaaaGreatDoorZ12
import Derived.Test.YtnjfebkelecgaaaGreatDoorZ17
import Derived.Test.YtnjfebkelecgaaaGreatDoorZ27
import Derived.Test.YtnjfebkelecgaaaGreatDoorZ20
import Derived.Test.YtnjfebkelecgaaaGreatDoorZ11
import Derived.Test.YtnjfebkelecgaaaGreatDoorZ13
set_option linter.unusedVariables false
set_option linter.unusedSimpArgs false
set_option maxRecDepth 100000
set_option maxHeartbeats 16000000
namespace Go.Proofs.YtnjfebkelecgaaaGreatDoor
def wJ (b:Nat):List UInt8->Nat
 |[]=>0
 |c::l=>c.toNat*b^l.length+wJ b l
theorem ZJ (b:Nat)(l:List UInt8)(h:∀c∈l,c.toNat<b):wJ b l<b^l.length:=by
 induction l with
 |nil=>simp[wJ]
 |cons c l ih=>have h1:=ih (λx hx=>h x (by simp[hx]));have h2:=h c zm;have h3:(c.toNat+1) *b^l.length<=b*b^l.length:=Nat.mul_le_mul_right _ h2;rw[wJ,List.length_cons,Nat.pow_succ,Nat.mul_comm _ b];rw[Nat.succ_mul]at h3;omega
theorem amG (b:Nat)(x y:List UInt8)(hl:x.length=y.length)(hx:∀c∈x,c.toNat<b)(h:Op.bytesLess x y=true):wJ b x<wJ b y:=by
 induction x generalizing y with
 | nil=>cases y with
   |nil=>simp[Op.bytesLess]at h
   |cons d y=>simp at hl
 | cons c x ih=>cases y with
   |nil=>simp at hl
   | cons d y=>
     have hl2:x.length=y.length:=by simpa using hl
     simp only[Op.bytesLess,Bool.or_eq_true,Bool.and_eq_true,decide_eq_true_eq,beq_iff_eq]at h;rw[wJ,wJ];rcases h with h|⟨rfl,h⟩
     . have h1:=ZJ b x (λz hz=>hx z (by simp[hz]));have h2:(c.toNat+1) *b^y.length<=d.toNat*b^y.length:=Nat.mul_le_mul_right _ (by have:=UInt8.lt_iff_toNat_lt.1 h;omega);rw[Nat.succ_mul]at h2;rw[hl2]at h1⊢;omega
     . have:=ih y hl2 (λz hz=>hx z (by simp[hz])) h;rw[hl2];omega
theorem aql (N:Nat)(l:List Nat)(s:Nat)(h:l.Pairwise (·<·))(h1:∀x∈l,s<=x/\x<N)(hs:s<=N):l.length<=N-s:=by
 induction l generalizing s with
 |nil=>simp
 |cons x l ih=>obtain⟨h2,h3⟩:=List.pairwise_cons.1 h;have h4:=h1 x zm;have:=ih (x+1) h3 (λy hy=>⟨h2 y hy,(h1 y (by simp[hy])).2⟩) zo;rw[List.length_cons];omega
theorem aos {V D:Nat}{l:List aR}(hg:Good l)(hd:fW V D l):l.length<=(D+1)^V:=by
 have hb:∀t∈l,∀c∈t.1,c.toNat<D+1:=λt ht c hc=>by obtain⟨i,hi,e⟩:=List.mem_iff_getElem.1 hc;have h1:=BO t.1 i;rw[show t.1.getD i 0=c by rw[<-e];simp[hi]]at h1;have:=(hd t ht).2;omega
 have h:=aql ((D+1)^V) (l.map λt=>wJ (D+1) t.1) 0 (by
  rw[List.pairwise_map];refine hg.1.imp_of_mem (λ{x y} hx hy h=>amG (D+1) x.1 y.1 ?_ (hb x hx) h)
  rw[(xu (hd x hx).1).1,(xu (hd y hy).1).1]) (λx hx=>by
   obtain⟨t,ht,rfl⟩:=List.mem_map.1 hx;refine⟨Nat.zero_le _,?_⟩;have:=ZJ (D+1) t.1 (hb t ht)
   rwa [(xu (hd t ht).1).1]at this) (Nat.zero_le _)
 rwa [List.length_map]at h
theorem ae8 {V D:Nat}(hV:V<=3)(hD:D<=5):(D+1)^V<=216:=Nat.le_trans (Nat.pow_le_pow_left (show D+1<=6 by omega) V) (Nat.pow_le_pow_right (n:=6) zd hV)
theorem af8 (n:Nat):iM (kY n)=0:=by unfold iM kY;rw[List.map_replicate,List.sum_replicate_nat];simp
theorem VT (n k:Nat):iM (dR n k)<=1:=by
 unfold iM dR;by_cases h:k<n
 . have e:((List.replicate n (0:UInt8)).set k 1).map UInt8.toNat=(List.replicate n 0).set k 1:=by rw[List.map_set,List.map_replicate];rfl
   have h1:=afU (List.replicate n 0) k 1 (by simpa using h);rw[e];rw[List.sum_replicate_nat]at h1;omega
 . rw[List.set_eq_of_length_le zi,List.map_replicate,List.sum_replicate_nat];simp
theorem aef (n:Nat)(c:Dyadic)(l:Nat->Dyadic)(k:Nat):fW n 1 (dF n c l k):=fW.clean (ts:=gQ n c l k) λt ht=>by
 refine⟨Uv n c l k t ht,?_⟩;unfold gQ at ht;rcases List.mem_cons.1 ht with rfl|ht
 . have:=af8 n;show iM (kY n)<=1;omega
 . obtain⟨j,_,rfl⟩:=List.mem_map.1 ht;exact VT n j
theorem aqT (n:Nat)(c:Dyadic)(l:Nat->Dyadic):fW n 0 (dF n c l 0):=fW.clean (ts:=gQ n c l 0) λt ht=>by refine⟨Uv n c l 0 t ht,?_⟩;unfold gQ at ht;rw[show List.range 0=[]from rfl,List.map_nil,List.mem_singleton]at ht;subst ht;have:=af8 n;show iM (kY n)<=0;omega
theorem an6 (n:Nat)(P:Nat->Nat->Dyadic)(i j:Nat):fW n 1 (jJ n P i j):=by
 unfold jJ;split
 . exact aef n _ _ n
 . exact aef n _ _ n
def ou :Nat->Dyadic:=λ_=>0
def NL (F part:List aR):Nat->List aR
 |0=>part
 |k+1=>bU (iL (NL F part k) F)
def zw (Fs:Nat->List aR)(part:List aR)(x:List Nat):Nat->List aR
 |0=>part
 |j+1=>NL (Fs j) (zw Fs part x j) (x.getD j 0)
def wH (V:Nat)(Fs:Nat->List aR)(R:List (List Nat))(cs:List Dyadic):Nat->List aR
 |0=>dF V 0 ou 0
 |k+1=>bU (wH V Fs R cs k++zw Fs (dF V (cs.getD k 0) ou 0) (R.getD k []) (V+1))
def dD (V B d:Nat)(ts:List aR):Prop:=iw V B ts/\fW V d ts
theorem dD.mono {V B d B' d':Nat}{ts:List aR}(h:dD V B d ts)(hB:B<=B')(hd:d<=d'):dD V B' d' ts:=⟨h.1.mono hB,h.2.mono hd⟩
theorem dD.len {V B d:Nat}{ts:List aR}(h:dD V B d ts)(hV:V<=3)(hd:d<=5):ts.length<=216:=Nat.le_trans (aos h.1.1.1 h.2) (ae8 hV hd)
theorem dD.mul {V A B d e:Nat}{ta tb:List aR}(ha:dD V A d ta)(hb:dD V B e tb)(hV:V<=3)(Mv:d+e<=5)(hl:tb.length<=8)(hB:A+B+2000<=268435456):dD V (A+B+2000) (d+e) (bU (iL ta tb)):=by
 have jN:=ha.len hV zo;have Dz:(iL ta tb).length<=216*8:=by rw[UJ];exact Nat.mul_le_mul jN hl
 have hd:=ha.2.mul hb.2 zo;refine⟨(Gh (B:=A+B) zo (λt ht=>(hd t ht).1) zo (UK (λt ht=>(ha.1.2 t ht).2) (λt ht=>(hb.1.2 t ht).2)) zo).mono zo,hd.clean⟩
theorem dD.add {V A d:Nat}{ta tb:List aR}(ha:dD V A d ta)(hb:dD V A d tb)(hV:V<=3)(hd:d<=5)(hB:A+500<=268435456):dD V (A+500) d (bU (ta++tb)):=by
 have jN:=ha.len hV hd;have hlb:=hb.len hV hd;have hdd:=ha.2.append hb.2;refine⟨(Gh (B:=A) zo (λt ht=>(hdd t ht).1) zi (λt ht=>?_) zi).mono zi,hdd.clean⟩;rcases List.mem_append.1 ht with h|h
 . exact(ha.1.2 t h).2
 . exact(hb.1.2 t h).2
theorem afg {V A B d:Nat}{F part:List aR}(hF:dD V B 1 F)(hl:F.length<=8)(hp:dD V A d part)(hV:V<=3)(k:Nat)(hk:d+k<=5)(hB:A+5* (B+2000)<=268435456):dD V (A+k* (B+2000)) (d+k) (NL F part k):=by
 induction k with
 |zero=>exact hp.mono zo zo
 |succ k ih=>have h9:k* (B+2000)<=4* (B+2000):=Nat.mul_le_mul_right _ zo;exact((ih zo).mul hF hV zo hl zo).mono (by rw[Nat.succ_mul];omega) zo
theorem afV (x:List Nat)(j:Nat):(x.take (j+1)).sum=(x.take j).sum+x.getD j 0:=by
 by_cases h:j<x.length
 . rw[List.take_succ_eq_append_getElem h,List.sum_append];simp[h]
 . rw[List.take_of_length_le zo,List.take_of_length_le zo,List.getD_eq_getElem?_getD,List.getElem?_eq_none zo];rfl
theorem VL (x:List Nat)(j:Nat):(x.take j).sum<=x.sum:=by have:=congrArg List.sum (List.take_append_drop j x);rw[List.sum_append]at this;omega
theorem ae9 {V A B D:Nat}{Fs:Nat->List aR}{part:List aR}{x:List Nat}(hF:∀j,j<=V->dD V B 1 (Fs j)/\(Fs j).length<=8)(hp:dD V A 0 part)(hV:V<=3)(hx:x.sum<=D)(hD:D<=5)(hB:A+10* (B+2000)<=268435456)(j:Nat)(hj:j<=V+1):dD V (A+(x.take j).sum* (B+2000)) (x.take j).sum (zw Fs part x j):=by
 induction j with
 |zero=>exact hp.mono zm zm
 |succ j ih=>have h1:=afV x j;have h2:=VL x (j+1);have h9:(x.take j).sum* (B+2000)<=5* (B+2000):=Nat.mul_le_mul_right _ zo;obtain⟨h3,h4⟩:=hF j zo;exact(afg h3 h4 (ih zo) hV (x.getD j 0) zo zo).mono (by rw[h1,Nat.add_mul];omega) zo
theorem Lq {V B:Nat}{c:Dyadic}(hV:V<=3)(hc:Sm B c)(hB:B+13<=268435456):dD V (B+13) 0 (dF V c ou 0):=⟨Nk (k:=0) zo zo hc (λj hj=>by omega) hB,aqT _ _ _⟩
theorem alW {V A B D:Nat}{Fs:Nat->List aR}{R:List (List Nat)}{cs:List Dyadic}(hF:∀j,j<=V->dD V B 1 (Fs j)/\(Fs j).length<=8)(hc:∀c∈cs,Sm A c)(hV:V<=3)(hR:∀k,k<R.length->(R.getD k []).sum<=D)(hD:D<=5)(hB:A+10* (B+2000)+300013<=268435456)(k:Nat)(hk:k<=R.length)(hk6:k<=600):dD V (A+13+5* (B+2000)+k*500) D (wH V Fs R cs k):=by
 induction k with
 | zero=>
   show dD V _ D (dF V 0 ou 0)
   refine dD.mono (B:=A+13) (d:=0) (Lq hV (Sm.zero A) zo) ?_ ?_<;>omega
 | succ k ih=>
   have h1:=hR k zo;have h2:=ae9 (x:=R.getD k []) hF (Lq hV (pU hc k) zo) hV h1 hD zo (V+1) (Nat.le_refl _);have h3:=VL (R.getD k []) (V+1);have h9:((R.getD k []).take (V+1)).sum* (B+2000)<=5* (B+2000):=Nat.mul_le_mul_right _ zo;have h4:dD V (A+13+5* (B+2000)+k*500) D (zw Fs (dF V (cs.getD k 0) ou 0) (R.getD k []) (V+1)):=dD.mono h2 zo zo;have h5:=(ih zo zo).add h4 hV hD zo;show dD V _ D (bU (wH V Fs R cs k++zw Fs (dF V (cs.getD k 0) ou 0) (R.getD k []) (V+1)))
   generalize bU (wH V Fs R cs k++zw Fs (dF V (cs.getD k 0) ou 0) (R.getD k []) (V+1))=Y at*;refine dD.mono h5 ?_ (Nat.le_refl _);clear h1 h2 h3 h4 h5 h9 ih hF hc hR hB hk hk6;rw[Nat.succ_mul k 500];exact Nat.le_of_eq (Nat.add_assoc _ _ _)
end Go.Proofs.YtnjfebkelecgaaaGreatDoor
namespace Go.Proofs.YtnjfebkelecgaaaGreatDoor
open Go.RowKit
attribute [local go_sem ↓] Go.wp_at_zero Go.wp_at_succ
theorem afz (V k:Nat)(w:World)(hV:V<=12)(hk:k<V):
 Calls Tryz.prog 33 #[ah (V:Int),ah (k:Int)] w λex w'=>∃a' c',ex=.returned (.tuple #[.agg #[ah (V:Int),.slice a' (bU [(dR V k,canon 1)]).length c'],ah 0])/\bJ w' a' c' (bU [(dR V k,canon 1)])/\Bw w w':=by
 obtain⟨C,hC⟩:=aK (bU [(dR V k,canon 1)]);rw[hC];obtain⟨O,hO⟩:∃O:Dyadic,(1:Dyadic)=O:=⟨_,rfl⟩;have hmk:=λW b (hb:aC W b 67 [ai (dR V k),ar (aI (dN O)),ai (nt (dN O).natAbs),ah (dE O)])=>NM V (some ⟨b,0,none⟩) 1 1 [(dR V k,canon 1)] 1 W rfl zo (by rw[hO];exact At.aBf hb) (by intro t ht;simp at ht;subst ht;exact Sm.aBj Sm.one zd) (by intro t ht;simp at ht;subst ht;show Sm 1 (aM (canon 1));rw[cN];exact Sm.one) zo;rw[hC]at hmk;have hof:∀W,Calls Tryz.prog 50 #[ah 1] W λe w'=>e=.returned (cP O)/\Bw W w':=λW=>auk 1 O hO W zd;have hmb:=λW=>uw (V:Int) V rfl zo W;have hcv:∀W b,Hid (aC W b 5 (cW V λj=>if j=k then 1 else 0))->(convert 84 9 (.slice (some ⟨b,0,none⟩) V V)).run Tryz.prog W=.ok (ai (dR V k)) W:=λW b h=>by rw[<-agp V k];exact uC h.out V
 have bK:=λb=>sF V V k (k:Int) (rfl:(some ⟨b,0,none⟩:Option Addr)=_) hk rfl;simp only[Nat.zero_add,Nat.mul_one]at bK;have hget:(cW V λ_=>0)[k]?=some (.int .u8 0):=lM _ _ _ hk;have qh:(cW V λ_=>0).set k (.int .u8 1)=cW V λj=>if j=k then 1 else 0:=BP V _ k 1
 obtain⟨lu,pI⟩:=aZ hmk hof;clear hmk hof hC hO;have GQ:¬(k:Int)<0:=by omega
 have hVi:¬(V:Int)<0:=by omega
 have hV2:¬(12:Int)<(V:Int):=by omega
 have hkV:¬(V:Int)<=(k:Int):=by omega
 obtain⟨W,dw,Hb,Hr⟩:=jT w 24 [ah 0,.slice none 0 0];obtain⟨r0,au,r1,az⟩:=Hr.out.g2;go_enter Tryz.func33,Tryz.ntmps33;go_wp2_with fail;have hrl:=Hr.out.lt;obtain⟨R,hR⟩:∃R:World->Prop,(λW3=>aC W3 W.heap.size 5 (cW V λj=>if j=k then 1 else 0)/\Bw W W3)=R:=⟨_,rfl⟩;first|refine cj R ?hR ?_|refine cu R ?hR ?_
 case hR=>subst hR;exact⟨aC.newAt W _ _ (b:=W.heap.size) rfl,zl⟩
 subst hR;intro W3 ⟨qm,ag⟩;clear r0 au r1 az;obtain⟨Hr,r0,au,r1,az⟩:=bE Hr ag;replace Hb:=aj (aV Hb.out ag);have Hm:=aj qm;clear qm ag hget qh bK hmb;have fE:∀w',eu W3 w'->(convert 84 9 (.slice (some ⟨W.heap.size,0,none⟩) V V)).run Tryz.prog w'=.ok (ai (dR V k)) w':=λw' h=>hcv w' _ (aj (Hm.out.below h));have bu:Hid (eu W3 W3):=Below.refl _ _;refine cg (λw'=>eu W3 w') (λi=>Nat.blt i 9) [(0,true),(1,true),(2,true),(3,false),(4,true),(5,false),(6,false),(7,true),(8,true),(9,false),(10,false)] zk zk rfl zk zc bu.out.drew ?_;iterate 3 (refine NJ rfl rfl (v:=?_) (λw' hw'=>?_) ?_;rotate_left;(focus have hw':=fE w' hw';go_simp;try with_reducible rfl);try simp only[UU])
 refine aW rfl rfl (λK hK=>?_);go_simp;with_reducible refine(pI.out _).mono ?_
 rintro e w4 ⟨rfl,hq⟩;have ag:Bw W3 w4:=by first|exact hq|exact bo hq
 clear r0 au r1 az;replace bu:=aj (bu.out.below ag);obtain⟨Hr,r0,au,r1,az⟩:=bE Hr ag;replace Hb:=aF Hb ag;clear ag;refine hK _ _ (λ_=>bu.out) ?_;clear hK K;try simp only[UU]
 refine pT rfl rfl ?_;try simp only[UU]
 refine aW rfl rfl (λK hK=>?_);go_simp;refine hK _ _ (λ_=>by first|exact bu.out.alloc _|exact(bu.out.alloc _).drew|exact(bu.out.drew).alloc _) ?_;clear hK K;try simp only[UU]
 refine cn (λW5=>aC W5 (w4.heap.size) 67 [ai (dR V k),ar (aI (dN O)),ai (nt (dN O).natAbs),ah (dE O)]/\Bw w4 W5) (by first|exact dZ|exact ej) ?_;rintro W5 ⟨qz,ag⟩;clear r0 au r1 az;have Nr:=Hr.out.lt;replace bu:=aj (bu.out.below ag);replace Hr:=kB Hr ag;have Hz:=aj qz;clear qz;obtain⟨r0,au,r1,az⟩:=Hr.out.g2;obtain⟨z0,z1,z2,z3⟩:=Hz.out.c4;replace Hb:=aF Hb ag;clear ag;refine aW rfl rfl (λK hK=>?_);go_simp;with_reducible refine(lu.out _ _ Hz.out).mono ?_
 rintro e w6 ⟨a2,d2,rfl,eD,hq⟩;have ag:Bw W5 w6:=by first|exact hq|exact bo hq
 clear r0 au r1 az z0 z1 z2 z3;replace bu:=aj (bu.out.below ag);obtain⟨Hr,r0,au,r1,az⟩:=bE Hr ag;obtain⟨Hz,z0,z1,z2,z3⟩:=dK Hz ag;replace Hb:=aF Hb ag;clear ag;refine hK _ _ (λ_=>bu.out) ?_;clear hK K;try simp only[UU]
 iterate 2 (refine pT rfl rfl ?_;try simp only[UU])
 refine aW rfl rfl (λK hK=>?_);go_simp;refine hK _ _ (by first|exact λh=>absurd h zd|exact λ_=>bu.out|exact λ_=>ie zg bu.out) ?_;clear hK K;try simp only[UU]
 refine aW rfl rfl (λK hK=>?_);go_simp;refine hK _ _ (λh=>absurd h zd) ?_;clear hK K;try simp only[UU]
 simp only[bD];go_wp2;have h9:=eD.store Hr.out zd (ah (V:Int)) (.slice a2 C.length d2);refine fJ (λw9=>bJ w9 a2 d2 C/\aC w9 w.heap.size 24 [ah (V:Int),.slice a2 C.length d2]/\Bw w w9) ⟨h9,(Hr.out.set 0 _).set 1 _,(Hb.out.setCell (Nat.le_refl _) _).setCell (Nat.le_refl _) _⟩ ?_;rintro w9 ⟨q1,q2,q3⟩;obtain⟨p0,p1⟩:=q2.c2;exact bodyPost_ret (v:=.tuple #[.agg #[ah (V:Int),.slice a2 C.length d2],ah 0]) (by simp[results,Tryz.results33,go_sem,p0,p1]) rfl ⟨_,_,rfl,q1,q3⟩
theorem as0 {V:Nat}{ts:List aR}(h:CF V ts)(k:Nat)(hk:k<ts.length):eU ts[k].1 V=true/\aM ts[k].2≠0/\ts[k].2=canon (aM ts[k].2)/\(0<k->Op.bytesLess (ts[k-1]'zo).1 ts[k].1=true):=by obtain⟨⟨h1,h2⟩,h3,h4,h5⟩:=h;have hm:=List.getElem_mem hk;exact⟨h3 _ hm,(h2 _ hm).1,(h2 _ hm).2,λh0=>List.pairwise_iff_getElem.1 h1 (k-1) k zo hk zo⟩
theorem auw (V:Nat)(a:Option Addr)(cap N:Nat)(ts:List aR)(w:World)(hN:ts.length=N)(ha:At w a (ts.flatMap aY))(hp:CF V ts)(hf:∀t∈ts,gB t.2):
 Calls Tryz.prog 47 #[.agg #[ah (V:Int),.slice a N cap]] w λe w'=>e=.returned (ah 0)/\Bw w w':=by
 have hn:N<=4096:=by rw[<-hN];exact hp.2.2.1
 have hV:V<=12:=hp.2.2.2;have hg:=λk hk=>as0 hp k hk;obtain⟨Ha,Hg,HN,Hf⟩:=eN ha hg hN hf;clear ha hg hN hf hp;have hVi:¬(V:Int)<0:=by omega
 have hV2:¬(12:Int)<(V:Int):=by omega
 have dv:¬(4096:Int)<(N:Int):=by omega
 have ays:decide ((4096:Int)<(N:Int))=false:=by simp;omega
 obtain⟨W,dw,Hb,Hp⟩:=jT w 24 [ah (V:Int),.slice a N cap];obtain⟨p0,p1⟩:=Hp.out.c2;go_enter Tryz.func47,Tryz.ntmps47;go_wp2_with fail;go_loopw[3] (λx wr=>∃k:Nat,k<=N/\x=ah (k:Int)/\aC wr w.heap.size 24 [ah (V:Int),.slice a N cap]/\Bw w wr) (λx _=>N-(intOf x).toNat);case atStart=>exact⟨0,Nat.zero_le _,rfl,Hp.out,Hb.out⟩
 case round=>
  clear p0 p1 Hp Hb;obtain⟨k,hk,rfl,ke,pb⟩:=hrel;by_cases hlt:k<N
  . have hk2:k<ts.length:=by rw[HN.out];exact hlt
    obtain⟨l,s,m,e,hx⟩:∃l s m e,ts[k]=(l,s,m,e):=⟨_,_,_,_,rfl⟩;obtain⟨b,o,hab,cw⟩:=(Ha.out.below pb).term k hk2 hx;obtain⟨g1,g2,g3,g4⟩:=Hg.out k hk2;have dP:gB (s,m,e):=by have:=Hf.out _ (List.getElem_mem hk2);rw[hx]at this;exact this
    have hfl:m.length<=16384:=dP.1;rw[hx]at g1 g2 g3;simp only[hx]at g4;obtain⟨X,hX⟩:=aK (aM (s,m,e));obtain⟨sg,kQ⟩:=aK (dY X);have hs1:(sg==0)=false:=by rw[<-kQ,wK,<-hX];exact g2
    have hne:=UT X s m e false (by rw[<-hX];simpa using g3.symm);have oV:=λW=>Vu l (V:Int) W (by have hll:l.length=V:=aeB g1;omega);rw[g1]at oV;have bK:=im N cap k (k:Int) hab hlt rfl;have vC:=λW=>NN s m e sg (by rw[hX];exact kQ) W zo;have hfo:=λW=>En s m e X hX W dP;obtain⟨lU,Aa,Pe,bj,qJ,Hp⟩:=gP oV vC hfo pb hab ke;have jH:Hid (bY wr b (o+k*4) [ai l,ar s,ai m,ah e]):=cw;have sz:=pb.size;clear oV vC hfo pb ke cw hX kQ g1 g2 g3 dP hab;have Hb:Hid (Bw wr wr):=Below.refl _ _;obtain⟨p0,p1⟩:=Hp.out.c2;obtain⟨nZ,oc,od,og⟩:=jH.out.w4;have P0:=nZ;have P1:=oc;have P2:=od;have P3:=og;have Q1:=p1;have aer:=Hp.out.lt;obtain⟨W4,rp,ag,Ht⟩:=cF wr 67 [ai l,ar s,ai m,ah e];clear p0 p1;replace Hp:=kB Hp ag;clear nZ oc od og;replace jH:=kW jH ag;obtain⟨p0,p1⟩:=Hp.out.c2;obtain⟨nZ,oc,od,og⟩:=jH.out.w4;obtain⟨t0,t1,t2,t3⟩:=Ht.out.c4;replace Hb:=aF Hb ag;clear ag;go_wp2_with fail;clear P0 P1 P2 P3 Q1 nZ oc od og jH;refine cg (λw'=>aH w' (w.heap.size) 0 (ah (V:Int))/\aH w' (w.heap.size) 1 (.slice a N cap)/\aH w' (wr.heap.size) 0 (ai l)/\aH w' (wr.heap.size) 1 (ar s)/\aH w' (wr.heap.size) 2 (ai m)/\aH w' (wr.heap.size) 3 (ah e)) (λi=>Nat.blt i 100000) [(0,true),(1,true),(2,true),(3,true),(4,false),(5,true),(6,true),(7,true),(8,true),(9,false),(10,true),(11,true),(12,true),(13,true),(14,true),(16,true),(17,true),(15,false),(18,true),(19,true)] zk zk rfl zk zc ⟨p0,p1,t0,t1,t2,t3⟩ ?_;iterate 4 (refine pT rfl rfl ?_ (by intro w' ⟨q0,q1,q2,q3,q4,q5⟩;go_simp;try with_reducible rfl);try simp only[UU])
    refine aW rfl rfl (λK hK=>?_);go_simp;with_reducible refine(lU.out _).mono ?_
    rintro e w5 ⟨rfl,hq⟩;have ag:Bw W4 w5:=by first|exact hq|exact bo hq
    clear p0 p1 t0 t1 t2 t3;obtain⟨Hp,p0,p1⟩:=bi Hp ag;obtain⟨Ht,t0,t1,t2,t3⟩:=dK Ht ag;replace Hb:=aF Hb ag;clear ag;refine hK _ _ (λ_=>⟨p0,p1,t0,t1,t2,t3⟩) ?_;clear hK K;try simp only[UU]
    iterate 4 (refine pT rfl rfl ?_ (by intro w' ⟨q0,q1,q2,q3,q4,q5⟩;go_simp;try with_reducible rfl);try simp only[UU])
    refine aW rfl rfl (λK hK=>?_);go_simp;with_reducible refine(Aa.out _).mono ?_
    rintro e w6 ⟨rfl,hq⟩;have ag:Bw w5 w6:=by first|exact hq|exact bo hq
    clear p0 p1 t0 t1 t2 t3;obtain⟨Hp,p0,p1⟩:=bi Hp ag;obtain⟨Ht,t0,t1,t2,t3⟩:=dK Ht ag;replace Hb:=aF Hb ag;clear ag;refine hK _ _ (λ_=>⟨p0,p1,t0,t1,t2,t3⟩) ?_;clear hK K;try simp only[UU]
    iterate 7 (refine pT rfl rfl ?_ (by intro w' ⟨q0,q1,q2,q3,q4,q5⟩;go_simp;try with_reducible rfl);try simp only[UU])
    refine aW rfl rfl (λK hK=>?_);go_simp;with_reducible refine(Pe.out _).mono ?_
    rintro e w7 ⟨rfl,hq⟩;have ag:Bw w6 w7:=by first|exact hq|exact bo hq
    clear p0 p1 t0 t1 t2 t3;obtain⟨Hp,p0,p1⟩:=bi Hp ag;obtain⟨Ht,t0,t1,t2,t3⟩:=dK Ht ag;replace Hb:=aF Hb ag;clear ag;refine hK _ _ (λ_=>⟨p0,p1,t0,t1,t2,t3⟩) ?_;clear hK K;try simp only[UU]
    iterate 2 (refine pT rfl rfl ?_;try simp only[UU])
    simp only[bD];by_cases mB:k=0
    . have hk1:decide (0<k)=false:=by simp;omega
      have apx:decide ((0:Int)<(k:Int))=false:=by simp;omega
      clear mB g4;go_wp2_with fail;refine cg (λw'=>aH w' (w.heap.size) 0 (ah (V:Int))/\aH w' (w.heap.size) 1 (.slice a N cap)/\aH w' (wr.heap.size) 0 (ai l)/\aH w' (wr.heap.size) 1 (ar s)/\aH w' (wr.heap.size) 2 (ai m)/\aH w' (wr.heap.size) 3 (ah e)) (λi=>Nat.blt i 100000) [(0,true),(1,true),(2,true),(3,true),(4,true),(5,true),(6,true),(7,true),(8,true),(9,true),(10,true),(11,true),(12,true),(13,true)] zk zk rfl zk zc ⟨p0,p1,t0,t1,t2,t3⟩ ?_;iterate 3 (refine pT rfl rfl ?_;try simp only[UU])
      refine bQ rfl rfl ?_;try simp only[UU]
      refine bQ rfl rfl ?_;try simp only[UU]
      refine bQ rfl rfl ?_;try simp only[UU]
      refine bQ rfl rfl ?_;try simp only[UU]
      refine bQ rfl rfl ?_;try simp only[UU]
      refine bQ rfl rfl ?_;try simp only[UU]
      refine bQ rfl rfl ?_;try simp only[UU]
      refine bQ rfl rfl ?_;try simp only[UU]
      refine bQ rfl rfl ?_;try simp only[UU]
      refine bQ rfl rfl ?_;try simp only[UU]
      refine pT rfl rfl ?_;try simp only[UU]
      simp only[bD];go_wp2;go_roundw;case rel=>exact⟨k+1,by omega,by go_num,Hp.out,(aV bj.out Hb.out).drew⟩
      case measure=>simp[intOf];omega
    . have vB:=g4 zo;have vz:k-1<ts.length:=by omega
      obtain⟨l',s',m',e',hx'⟩:∃l s m e,ts[k-1]=(l,s,m,e):=⟨_,_,_,_,rfl⟩;obtain⟨b',o',rq,mF⟩:=(Ha.out.below (aV bj.out Hb.out)).term (k-1) vz hx';have hab:=qJ.out;rw[hab]at rq;simp only[Option.some.injEq,Addr.mk.injEq,and_true]at rq;obtain⟨rfl,rfl⟩:=rq;rw[hx']at vB;have eQ:Op.bytesLess (bs l').toList (bs l).toList=true:=by rw[gm,gm];exact vB
      have hge:Op.bytesLess (bs l).toList (bs l').toList=false:=by
       rw[gm,gm];cases hc:Op.bytesLess l l' with
       |false=>rfl
       |true=>have:=CJ vB hc;rw[CI]at this;cases this
      have apx:decide ((0:Int)<(k:Int))=true:=by simp;omega
      have hk1:decide (0<k)=true:=by simp;omega
      have Tn:IntKind.i64.wrap ((k:Int)-1)=((k-1:Nat):Int):=by rw[IntKind.wrap_i64];omega
      have Tg:=im N cap (k-1) ((k-1:Nat):Int) hab zo rfl;obtain⟨kp,Dx⟩:=aK (k-1);rw[Dx]at Tg Tn mF;have apA:kp<N:=by omega
      have fc:Hid (bY w7 b (o+kp*4) [ai l',ar s',ai m',ah e']):=mF;clear mF mB hx' Dx hab vB g4 vz;obtain⟨p0,p1⟩:=Hp.out.c2;obtain⟨t0,t1,t2,t3⟩:=Ht.out.c4;have jB:w7.cell? ⟨b,o+kp*4,none⟩=some (ai l'):=fc.out.cell 0 zm;go_wp2_with fail;refine cg (λw'=>aH w' (w.heap.size) 0 (ah (V:Int))/\aH w' (w.heap.size) 1 (.slice a N cap)/\aH w' (wr.heap.size) 0 (ai l)/\aH w' b (o+kp*4) (ai l')) (λi=>Nat.blt i 100000) [(0,true),(1,true),(2,true),(3,true),(4,true),(5,true),(6,true),(7,true),(8,true),(9,true),(10,true),(11,true),(12,true),(13,true)] zk zk rfl zk zc ⟨p0,p1,t0,jB⟩ ?_;iterate 14 (refine pT rfl rfl ?_ (by intro w' ⟨q0,q1,q2,q3⟩;go_simp;try with_reducible rfl);try simp only[UU])
      simp only[bD];go_wp2;go_roundw;case rel=>exact⟨k+1,by omega,by go_num,Hp.out,(aV bj.out Hb.out).drew⟩
      case measure=>simp[intOf];omega
  . obtain rfl:k=N:=by omega
    obtain⟨Hp,bj⟩:=aZ ke pb;obtain⟨p0,p1⟩:=Hp.out.c2;go_wp2;refine bodyPost_ret (results_tmp rfl _ _ _) rfl ⟨rfl,bj.out⟩
theorem auF (V:Nat)(a:Option Addr)(cap:Nat)(ts:List aR)(s:Bool)(m:List UInt8)(e:Int)(D:Dyadic)(B:Nat)(w:World)(hp:iw V B ts)(ha:bJ w a cap ts)(dP:gB (s,m,e))(DK:Sm B (aM (s,m,e)))(hB:2*B+4096<=16384)(hD:aM (s,m,e)=D):
 Calls Tryz.prog 37 #[.agg #[ah (V:Int),.slice a ts.length cap],.agg #[ar s,ai m,ah e]] w λex w'=>∃a' c',ex=.returned (.tuple #[.agg #[ah (V:Int),.slice a' (bU (eo D ts)).length c'],ah 0])/\bJ w' a' c' (bU (eo D ts))/\Bw w w':=by
 obtain⟨i0,hi,hz0,hz1,hz2⟩:=info_parts Tryz.aBl;obtain⟨n,hn⟩:=aK ts.length;have hnl:n<=4096:=by have:=hp.1.2.2.1;omega
 have lA:(eo D ts).length=n:=by unfold eo;rw[List.length_map,hn]
 have hsm:∀t∈ts,Sm B (aM t.2):=λt ht=>(hp.2 t ht).2;have js:∀t∈ts,gB t.2:=λt ht=>by rw[(hp.1.1.2 t ht).2];exact(hsm t ht).aBj zo
 rw[hD]at DK;have kw:∀t∈eo D ts,Sm (2*B) (aM t.2):=by
  intro t ht;unfold eo at ht;obtain⟨x,hx,rfl⟩:=List.mem_map.1 ht;show Sm _ (aM (canon _))
  rw[cN];exact(Sm.mul (hsm x hx) DK).mono zo
 have yr:∀t∈eo D ts,gB t.2:=by
  intro t ht;have h1:=kw t ht;unfold eo at ht;obtain⟨x,hx,rfl⟩:=List.mem_map.1 ht;have h2:Sm (2*B) (aM x.2*D):=by have h3:aM (canon (aM x.2*D))=aM x.2*D:=cN _;rw[<-h3];exact h1
  exact h2.aBj zo
 have eZ:=λW (hW:Bw w W)=>auw V a cap n ts W hn (ha.1.below hW) hp.1 js;have lD:=λW a' c' (h:At W a' ((eo D ts).flatMap aY))=>NM V a' n c' (eo D ts) (2*B) W lA hnl h yr kw zo;obtain⟨C,hC⟩:=aK (bU (eo D ts));obtain⟨Q,hQ⟩:=aK (eo D ts);rw[hC]at lD⊢;have hQg:∀k (h:k<ts.length) (h2:k<Q.length),Q[k]=(ts[k].1,canon (aM ts[k].2*D)):=λk h h2=>by subst hQ;simp[eo]
 rw[hQ]at lD lA;rw[hn];obtain⟨Hi,dz,dA,dh,mW,qR,uG,Hn,fx,HD,Ha,HQg⟩:=gy hi hz0 hz1 hz2 eZ lD js hn dP hD ha.1 hQg;have WY:=aj lA;clear hi hz0 hz1 hz2 eZ lD js hn dP hD hC hQ lA kw yr hsm ha hp DK hQg;have Hb:Hid (Bw w w):=Below.refl _ _;go_enter Tryz.func37,Tryz.ntmps37;go_wp2_with fail;obtain⟨R,hR⟩:∃R:World->Prop,(λW=>aC W (w.heap.size) 24 [ah (V:Int),.slice a n cap]/\aC W (w.heap.size+1) 48 [ar s,ai m,ah e]/\aC W (w.heap.size+1+1) 24 [ah 0,.slice none 0 0]/\Bw w W)=R:=⟨_,rfl⟩;first|refine cj R ?hR ?_|refine cu R ?hR ?_
 case hR=>subst hR;exact⟨(((aC.newAt w _ _ (b:=w.heap.size) rfl).alloc _).alloc _),((aC.newAt (w.alloc _) _ _ (b:=w.heap.size+1) zm).alloc _),(aC.newAt ((w.alloc _).alloc _) _ _ (b:=w.heap.size+1+1) zm),((zl.alloc zj _).alloc zj _)⟩
 subst hR;rintro W ⟨qp,qc,qr,ag⟩;have Hp:=aj qp;clear qp;have Hc:=aj qc;clear qc;have Hr:=aj qr;clear qr;obtain⟨p0,p1⟩:=Hp.out.c2;obtain⟨c0,c1,c2⟩:=Hc.out.c3;obtain⟨r0,au,r1,az⟩:=Hr.out.g2;replace Hb:=aF Hb ag;clear ag;go_wp2_with fail;refine(mW.out _ Hb.out).mono ?_;rintro e w1 ⟨rfl,ag⟩;clear p0 p1 c0 c1 c2 r0 au r1 az;obtain⟨Hp,p0,p1⟩:=bi Hp ag;obtain⟨Hc,c0,c1,c2⟩:=bP Hc ag;obtain⟨Hr,r0,au,r1,az⟩:=bE Hr ag;replace Hb:=aF Hb ag;clear ag;have lV:=Hp;have Ch:=Hc;have jG:=Hr;have dG:=Hb;go_wp2_with fail;go_loopw[7,8] (λs7 x wr=>∃(k:Nat) (v:Value),k<=n/\x=ah (k:Int)/\v=s7/\wr.ownsRow w1.heap.size 67 4 v k ((Q.take k).flatMap aY)/\Bw w1 wr) (λ_ x _=>n-(intOf x).toNat);case atStart=>exact⟨0,_,Nat.zero_le _,rfl,rfl,World.ownsRow_nil _ _ _ _,Below.refl _ _⟩
 case round=>
  clear p0 p1 c0 c1 c2 r0 au r1 az Hp Hc Hr Hb;obtain⟨k,v,hk,rfl,rfl,ho,pb⟩:=hrel;obtain⟨Hp,Hc,Hr⟩:=dc (lV.out.below pb) (Ch.out.below pb) (jG.out.below pb);have bW:=aV dG.out pb;have zE:=dG.out.size;have lc1:=Ch.out.lt;have lr1:=jG.out.lt;by_cases hlt:k<n
  . have hk2:k<ts.length:=by rw[Hn.out];exact hlt
    have hkQ:k<Q.length:=by rw[WY.out];exact hlt
    obtain⟨l,s1,q1,e1,hx⟩:∃l s m e,ts[k]=(l,s,m,e):=⟨_,_,_,_,rfl⟩;obtain⟨b,o,rfl,cw⟩:=(Ha.out.below bW).term k hk2 hx;have lbt:b<w.heap.size:=by obtain⟨b3,o3,h3,hw3⟩:=Ha.out.term k hk2 hx;simp only[Option.some.injEq,Addr.mk.injEq,and_true]at h3;obtain⟨rfl,rfl⟩:=h3;exact World.block_lt_of_cell? w _ (hw3.cell 0 zm)
    have bK:=im n cap k (k:Int) (rfl:(some ⟨b,o,none⟩:Option Addr)=_) hlt rfl;have gJ:gB (s1,q1,e1):=by have:=uG.out _ (List.getElem_mem hk2);rw[hx]at this;exact this
    obtain⟨X,hX⟩:=aK (aM (s1,q1,e1) *D);have hQk:(Q.take (k+1)).flatMap aY=(Q.take k).flatMap aY++[ai l,ar (aI (dN X)),ai (nt (dN X).natAbs),ah (dE X)]:=by
     rw[List.take_succ_eq_append_getElem hkQ,List.flatMap_append,HQg.out k hk2 hkQ,hx];show _++[Value.string (bs l),Value.bool (aI (dN (aM (s1,q1,e1) *D))),_,_]=_
     rw[hX];rfl
    have HX:Hid (aM (s1,q1,e1) *aM (s,m,e)=X):=by show _=_;rw[HD.out];exact hX
    have Ht:Hid (bY wr b (o+k*4) [ai l,ar s1,ai q1,ah e1]):=cw;obtain⟨dH,bj,HQk,lS⟩:=eN ho pb hQk gJ;have iu:=pb.size;clear ho pb hQk gJ hX hx cw bW;have Hb:Hid (Bw wr wr):=Below.refl _ _;obtain⟨p0,p1⟩:=Hp.out.c2;obtain⟨c0,c1,c2⟩:=Hc.out.c3;obtain⟨t0,t1,t2,t3⟩:=Ht.out.w4;go_wp2_with fail;refine cg (λw'=>aH w' (w.heap.size) 1 (.slice (some ⟨b,o,none⟩) n cap)/\aH w' (w.heap.size+1) 0 (ar s)/\aH w' (w.heap.size+1) 1 (ai m)/\aH w' (w.heap.size+1) 2 (ah e)/\aH w' b (o+k*4) (ai l)/\aH w' b (o+k*4+1) (ar s1)/\aH w' b (o+k*4+2) (ai q1)/\aH w' b (o+k*4+3) (ah e1)) (λi=>Nat.blt i 100000) [(0,true),(1,true),(2,true),(3,true),(4,true),(5,true),(6,true),(7,true),(8,true),(9,true),(10,true),(11,true),(12,true),(13,true),(14,false),(15,true),(16,false),(17,false),(18,true)] zk zk rfl zk zc ⟨p1,c0,c1,c2,t0,t1,t2,t3⟩ ?_;iterate 14 (refine pT rfl rfl ?_ (by intro w' ⟨q0,q1,q2,q3,q4,q5,q6,q7⟩;go_simp;try with_reducible rfl);try simp only[UU])
    refine aW rfl rfl (λK hK=>?_);go_simp;with_reducible refine(afx s1 q1 e1 s m e X HX.out _ lS.out fx.out).mono ?_
    rintro e w4 ⟨rfl,hq⟩;have ag:Bw wr w4:=by first|exact hq|exact bo hq
    clear p0 p1 c0 c1 c2 t0 t1 t2 t3;obtain⟨Hp,p0,p1⟩:=bi Hp ag;obtain⟨Hc,c0,c1,c2⟩:=bP Hc ag;replace Ht:=kW Ht ag;obtain⟨t0,t1,t2,t3⟩:=Ht.out.w4;replace Hb:=aF Hb ag;clear ag;refine hK _ _ (λ_=>⟨p1,c0,c1,c2,t0,t1,t2,t3⟩) ?_;clear hK K;try simp only[UU]
    refine pT rfl rfl ?_;try simp only[UU]
    refine aW rfl rfl (λK hK=>?_);go_simp;refine hK _ _ (λ_=>⟨aX p1,aX c0,aX c1,aX c2,aX t0,aX t1,aX t2,aX t3⟩) ?_;clear hK K;try simp only[UU]
    refine cn (λW5=>aC W5 (w4.heap.size) 67 [ai l,ar (aI (dN X)),ai (nt (dN X).natAbs),ah (dE X)]/\Bw w4 W5) (by first|exact dZ|exact ej) ?_;rintro W5 ⟨qd,ag⟩;clear p0 p1 c0 c1 c2 t0 t1 t2 t3;have az5:=Hp.out.lt;have azc:=Hc.out.lt;replace Hp:=kB Hp ag;replace Hc:=kB Hc ag;replace Ht:=kW Ht ag;have Hd:=aj qd;clear qd;obtain⟨p0,p1⟩:=Hp.out.c2;obtain⟨c0,c1,c2⟩:=Hc.out.c3;obtain⟨t0,t1,t2,t3⟩:=Ht.out.w4;obtain⟨d0,d1,d2,d3⟩:=Hd.out.c4;replace Hb:=aF Hb ag;clear ag;refine aW rfl rfl (λK hK=>?_);have dQ:=ownsRow_below dH.out Hb.out;have hs3:=Hb.out.size;refine wp_append_own _ _ _ 22 rfl w1.heap.size 67 i0 _ 4 48 Tryz.underlying22 Hi.out dz.out dA.out dh.out rfl zd v k ((Q.take k).flatMap aY) rfl dQ ⟨w4.heap.size,0,none⟩ 1 1 [ai l,ar (aI (dN X)),ai (nt (dN X).natAbs),ah (dE X)] rfl rfl (iz Hd.out) zy zx zo zo ?_;intro v' w8 eV bT _;have nb:∀b,b<w1.heap.size->some b≠v.ownBlock:=λb hb e=>by have:=dL dQ b e.symm;omega
    refine hK _ _ (λ_=>⟨cV bT p1 (nb _ zp),cV bT c0 (nb _ zp),cV bT c1 (nb _ zp),cV bT c2 (nb _ zp),cV bT t0 (nb _ zp),cV bT t1 (nb _ zp),cV bT t2 (nb _ zp),cV bT t3 (nb _ zp)⟩) ?_;clear hK K;try simp only[UU]
    have fQ:=(aV bj.out Hb.out).grown bT zo (λj e=>dL dQ j e);rw[<-HQk.out]at eV;obtain⟨ja,iP⟩:=aZ fQ eV;refine pT rfl rfl ?_;try simp only[UU]
    simp only[bD];clear nb dQ eV bT fQ p0 p1 c0 c1 c2 t0 t1 t2 t3 d0 d1 d2 d3;go_wp2;go_roundw;case rel=>exact⟨k+1,v',by omega,by go_num,rfl,iP.out,ja.out⟩
    case measure=>simp[intOf];omega
  . obtain rfl:k=n:=by omega
    have htk:Q.take k=Q:=List.take_of_length_le (by rw[WY.out];exact Nat.le_refl _);rw[htk]at ho;obtain⟨a2,c2,rfl,hat,_⟩:=dU ho;have gF:=aj hat;have Hb:Hid (Bw w wr):=bW;have Pi:=aj (qR.out wr a2 c2 hat);clear ho pb bW htk hat Hc;obtain⟨p0,p1⟩:=Hp.out.c2;obtain⟨r0,au,r1,az⟩:=Hr.out.g2;go_wp2_with fail;refine(Pi.out).mono ?_;rintro e w6 ⟨a9,d9,rfl,jy,ag⟩;clear p0 p1 r0 au r1 az;obtain⟨Hp,p0,p1⟩:=bi Hp ag;obtain⟨Hr,r0,au,r1,az⟩:=bE Hr ag;replace Hb:=aF Hb ag;clear ag;have zY:=aj jy;clear jy;go_wp2;have h9:=zY.out.store Hr.out zd (ah (V:Int)) (.slice a9 C.length d9);refine fJ (λw9=>bJ w9 a9 d9 C/\aC w9 (w.heap.size+1+1) 24 [ah (V:Int),.slice a9 C.length d9]/\Bw w w9) ⟨h9,(Hr.out.set 0 _).set 1 _,(Hb.out.setCell zp _).setCell zp _⟩ ?_;rintro w9 ⟨q1,q2,q3⟩;obtain⟨x0,x1⟩:=q2.c2;exact bodyPost_ret (v:=.tuple #[.agg #[ah (V:Int),.slice a9 C.length d9],ah 0]) (by simp[results,Tryz.results37,go_sem,x0,x1]) rfl ⟨_,_,rfl,q1,q3⟩
theorem auK (ts:List aR)(a a':Option Addr)(n cap cap':Nat)(w:World)(hn:ts.length=n)(hl:n<=65536)(ha:At w a (ts.flatMap aY))(ha':At w a' (ts.flatMap aY)):
 Calls Tryz.prog 52 #[.slice a n cap,.slice a' n cap'] w λe w'=>e=.returned (ar true)/\Bw w w':=by
 obtain⟨Ha,rQ,Hn⟩:=dc ha ha' hn;clear ha ha' hn;have Hb:Hid (Bw w w):=Below.refl _ _;go_enter Tryz.func52,Tryz.ntmps52;go_wp2_with fail;go_loopw[5] (λx wr=>∃k:Nat,k<=n/\x=ah (k:Int)/\Bw w wr) (λx _=>n-(intOf x).toNat);case atStart=>exact⟨0,Nat.zero_le _,rfl,Hb.out⟩
 case round=>
  clear Hb;obtain⟨k,hk,rfl,pb⟩:=hrel;by_cases hlt:k<n
  . have hk2:k<ts.length:=by rw[Hn.out];exact hlt
    obtain⟨l,s,m,e,hx⟩:∃l s m e,ts[k]=(l,s,m,e):=⟨_,_,_,_,rfl⟩;obtain⟨b,o,rfl,cw⟩:=(Ha.out.below pb).term k hk2 hx;obtain⟨b',o',rfl,mF⟩:=(rQ.out.below pb).term k hk2 hx;have bK:=im n cap k (k:Int) (rfl:(some ⟨b,o,none⟩:Option Addr)=_) hlt rfl;have Tf:=im n cap' k (k:Int) (rfl:(some ⟨b',o',none⟩:Option Addr)=_) hlt rfl;have Hx:Hid (bY wr b (o+k*4) [ai l,ar s,ai m,ah e]):=cw;have Hy:Hid (bY wr b' (o'+k*4) [ai l,ar s,ai m,ah e]):=mF;have bj:=aj pb;clear pb cw mF hx;have Hb:Hid (Bw wr wr):=Below.refl _ _;obtain⟨x0,x1,x2,x3⟩:=Hx.out.w4;obtain⟨y0,y1,y2,y3⟩:=Hy.out.w4;go_wp2_with fail;refine cg (λw'=>aH w' b (o+k*4) (ai l)/\aH w' b (o+k*4+1) (ar s)/\aH w' b (o+k*4+2) (ai m)/\aH w' b (o+k*4+3) (ah e)/\aH w' b' (o'+k*4) (ai l)/\aH w' b' (o'+k*4+1) (ar s)/\aH w' b' (o'+k*4+2) (ai m)/\aH w' b' (o'+k*4+3) (ah e)) (λi=>Nat.blt i 100000) [(0,true),(1,true),(2,true),(3,true),(4,true),(5,true),(6,true),(7,true),(8,true)] zk zk rfl zk zc ⟨x0,x1,x2,x3,y0,y1,y2,y3⟩ ?_;iterate 9 (refine pT rfl rfl ?_ (by intro w' ⟨q0,q1,q2,q3,q4,q5,q6,q7⟩;go_simp;try with_reducible rfl);try simp only[UU])
    simp only[bD];go_wp2;go_roundw;case rel=>exact⟨k+1,by omega,by go_num,bj.out.drew⟩
    case measure=>simp[intOf];omega
  . obtain rfl:k=n:=by omega
    have bj:=aj pb;go_wp2;refine bodyPost_ret (results_tmp rfl _ _ _) rfl ⟨rfl,bj.out⟩
theorem auC (V:Int)(ts:List aR)(a a':Option Addr)(cap cap':Nat)(w:World)(hl:ts.length<=65536)(ha:At w a (ts.flatMap aY))(ha':At w a' (ts.flatMap aY)):
 Calls Tryz.prog 15 #[.agg #[ah V,.slice a ts.length cap],.agg #[ah V,.slice a' ts.length cap']] w λe w'=>e=.returned (ar true)/\Bw w w':=by
 obtain⟨n,hn⟩:=aK ts.length;have h1:=λW (hW:Bw w W)=>auK ts a a' n cap cap' W hn zo (ha.below hW) (ha'.below hW);rw[hn];have H1:=aj h1;clear h1 ha ha' hn hl;have Hb:Hid (Bw w w):=Below.refl _ _;go_enter Tryz.func15,Tryz.ntmps15;go_wp2_with fail;obtain⟨R,hR⟩:∃R:World->Prop,(λW=>aC W (w.heap.size) 24 [ah V,.slice a n cap]/\aC W (w.heap.size+1) 24 [ah V,.slice a' n cap']/\Bw w W)=R:=⟨_,rfl⟩;first|refine cj R ?hR ?_|refine cu R ?hR ?_
 case hR=>subst hR;exact⟨((aC.newAt w _ _ (b:=w.heap.size) rfl).alloc _),(aC.newAt (w.alloc _) _ _ (b:=w.heap.size+1) zm),(zl.alloc zj _)⟩
 subst hR;rintro W ⟨qp,qq,ag⟩;have Hp:=aj qp;clear qp;have Hq:=aj qq;clear qq;obtain⟨p0,p1⟩:=Hp.out.c2;obtain⟨q0,q1⟩:=Hq.out.c2;replace Hb:=aF Hb ag;clear ag;go_wp2_with fail;refine(H1.out _ Hb.out).mono ?_;rintro e w1 ⟨rfl,ag⟩;clear p0 p1 q0 q1;obtain⟨Hp,p0,p1⟩:=bi Hp ag;obtain⟨Hq,q0,q1⟩:=bi Hq ag;replace Hb:=aF Hb ag;clear ag;go_wp2;go_ret;exact⟨rfl,Hb.out⟩
theorem ze (n:Nat)(x:Int)(D:Dyadic)(hD:Dyadic.ofIntWithPrec (n:Int) (-x)=D)(w:World)(hn:n<=1000000)(hx: -1000<=x/\x<=1000):
 Calls Tryz.prog 36 #[ah (n:Int),ah x] w λe w'=>e=.returned (cP D)/\Bw w w':=by
 have h1:=λW=>Vv n W zo;have h2:=λW=>Jy false (nt n) x D (by unfold aM;simp only[oY];exact hD) W (Nat.le_trans (jR (k:=4) zo) zd) zo;clear hD;generalize nt n=m at*;obtain⟨H1,H2⟩:=aZ h1 h2;clear h1 h2;obtain⟨W,dw,Hb,Hr⟩:=jT w 48 [ar false,.string ⟨#[]⟩,ah 0];obtain⟨r0,au,r1,az,r2,aJ⟩:=Hr.out.g3;go_enter Tryz.func36,Tryz.ntmps36;go_wp2_with fail;refine(H1.out _).mono ?_;rintro e w1 ⟨rfl,ag⟩;clear r0 au r1 az r2 aJ;obtain⟨Hr,r0,au,r1,az,r2,aJ⟩:=bg Hr ag;replace Hb:=aF Hb ag;clear ag;go_wp2_with fail;refine(H2.out _).mono ?_;rintro e w2 ⟨rfl,ag⟩;clear r0 au r1 az r2 aJ;obtain⟨Hr,r0,au,r1,az,r2,aJ⟩:=bg Hr ag;replace Hb:=aF Hb ag;clear ag;go_wp2;clear r0 au r1 az r2 aJ;refine fJ (cm w2 (w.heap.size) 0 [ar (aI (dN D)),ai (nt (dN D).natAbs),ah (dE D)]) cC ?_;intro w9 hs;replace Hr:=cX Hr hs;obtain⟨r0,au,r1,az,r2,aJ⟩:=Hr.out.g3;replace Hb:=bS Hb hs ZS;clear hs;refine bodyPost_ret (v:=cP D) (by simp[results,Tryz.results36,go_sem,r0,r1,r2]) rfl ⟨rfl,Hb.out⟩
theorem amX (A B C:Dyadic)(hA:dI 0=A)(hB:dI 4=B)(hC:dI 2=C)(w:World):
 Calls Tryz.prog 38 #[] w λe w'=>∃a c,e=.returned (.slice a 3 c)/\3<=c/\cM w' a [[canon A,canon A],[canon B,canon A],[canon A,canon C]]/\Bw w w':=by
 have h0:=λW=>ze 0 0 A hA W zd zd;have h4:=λW=>ze 4 0 B hB W zd zd;have h2:=λW=>ze 2 0 C hC W zd zd;obtain⟨H0,H4,H2⟩:=dc h0 h4 h2;clear h0 h4 h2 hA hB hC;have Hb:Hid (Bw w w):=Below.refl _ _;go_enter Tryz.func38,Tryz.ntmps38;go_wp2_with fail;refine(H0.out _).mono ?_;rintro e w1 ⟨rfl,ag⟩;replace Hb:=aF Hb ag;clear ag;go_wp2_with fail;refine(H0.out _).mono ?_;rintro e w2 ⟨rfl,ag⟩;replace Hb:=aF Hb ag;clear ag;obtain⟨W3,Dl,ag,Hp⟩:=cF w2 48 [ar (aI (dN A)),ai (nt (dN A).natAbs),ah (dE A),ar (aI (dN A)),ai (nt (dN A).natAbs),ah (dE A)];obtain⟨p0,p1,p2,p3,p4,p5⟩:=Hp.out.c6;replace Hb:=aF Hb ag;clear ag;go_wp2_with fail;refine(H4.out _).mono ?_;rintro e w4 ⟨rfl,ag⟩;clear p0 p1 p2 p3 p4 p5;obtain⟨Hp,p0,p1,p2,p3,p4,p5⟩:=jO Hp ag;replace Hb:=aF Hb ag;clear ag;go_wp2_with fail;refine(H0.out _).mono ?_;rintro e w5 ⟨rfl,ag⟩;clear p0 p1 p2 p3 p4 p5;obtain⟨Hp,p0,p1,p2,p3,p4,p5⟩:=jO Hp ag;replace Hb:=aF Hb ag;clear ag;have az6:=Hp.out.lt;obtain⟨W6,vr,ag,Hq⟩:=cF w5 48 [ar (aI (dN B)),ai (nt (dN B).natAbs),ah (dE B),ar (aI (dN A)),ai (nt (dN A).natAbs),ah (dE A)];clear p0 p1 p2 p3 p4 p5;obtain⟨Hp,p0,p1,p2,p3,p4,p5⟩:=jO Hp ag;obtain⟨q0,q1,q2,q3,q4,q5⟩:=Hq.out.c6;replace Hb:=aF Hb ag;clear ag;go_wp2_with fail;refine(H0.out _).mono ?_;rintro e w7 ⟨rfl,ag⟩;clear p0 p1 p2 p3 p4 p5 q0 q1 q2 q3 q4 q5;obtain⟨Hp,p0,p1,p2,p3,p4,p5⟩:=jO Hp ag;obtain⟨Hq,q0,q1,q2,q3,q4,q5⟩:=jO Hq ag;replace Hb:=aF Hb ag;clear ag;go_wp2_with fail;refine(H2.out _).mono ?_;rintro e w8 ⟨rfl,ag⟩;clear p0 p1 p2 p3 p4 p5 q0 q1 q2 q3 q4 q5;obtain⟨Hp,p0,p1,p2,p3,p4,p5⟩:=jO Hp ag;obtain⟨Hq,q0,q1,q2,q3,q4,q5⟩:=jO Hq ag;replace Hb:=aF Hb ag;clear ag;have ars:=Hp.out.lt;have arx:=Hq.out.lt;obtain⟨W9,Ml,ag,Hr⟩:=cF w8 48 [ar (aI (dN A)),ai (nt (dN A).natAbs),ah (dE A),ar (aI (dN C)),ai (nt (dN C).natAbs),ah (dE C)];clear p0 p1 p2 p3 p4 p5;replace Hp:=kB Hp ag;clear q0 q1 q2 q3 q4 q5;obtain⟨Hq,q0,q1,q2,q3,q4,q5⟩:=jO Hq ag;obtain⟨p0,p1,p2,p3,p4,p5⟩:=Hp.out.c6;obtain⟨r0,r1,r2,r3,r4,r5⟩:=Hr.out.c6;replace Hb:=aF Hb ag;clear ag;have azW:=Hp.out.lt;have az9:=Hq.out.lt;have aAf:=Hr.out.lt;obtain⟨W10,ax0,ag,Ht⟩:=cF W9 56 [.slice (some ⟨w2.heap.size,0,none⟩) 2 2,.slice (some ⟨w5.heap.size,0,none⟩) 2 2,.slice (some ⟨w8.heap.size,0,none⟩) 2 2];clear p0 p1 p2 p3 p4 p5;replace Hp:=kB Hp ag;clear q0 q1 q2 q3 q4 q5;replace Hq:=kB Hq ag;clear r0 r1 r2 r3 r4 r5;obtain⟨Hr,r0,r1,r2,r3,r4,r5⟩:=jO Hr ag;obtain⟨p0,p1,p2,p3,p4,p5⟩:=Hp.out.c6;obtain⟨q0,q1,q2,q3,q4,q5⟩:=Hq.out.c6;obtain⟨t0,t1,t2⟩:=Ht.out.c3;replace Hb:=aF Hb ag;clear ag;go_wp2;refine bodyPost_ret (results_tmp rfl _ _ _) rfl ⟨_,_,rfl,by decide,⟨_,rfl,At.aBf Ht.out,λi h h'=>?_⟩,Hb.out⟩;have hi:i=0\/i=1\/i=2:=by simp at h;omega
 rcases hi with rfl|rfl|rfl
 . exact⟨_,_,rfl,At.aBf Hp.out⟩
 . exact⟨_,_,rfl,At.aBf Hq.out⟩
 . exact⟨_,_,rfl,At.aBf Hr.out⟩
theorem auE (V D:Int)(a a':Option Addr)(n cap cap':Nat)(cG:List Raw)(w:World)(hn:cG.length=n)(hl:n<=1000)(ha:At w a (cG.flatMap cz))(ha':At w a' (cG.flatMap cz)):
 Calls Tryz.prog 13 #[.agg #[ah V,ah D,.slice a n cap],.agg #[ah V,ah D,.slice a' n cap']] w λe w'=>e=.returned (ar true)/\Bw w w':=by
 obtain⟨Ha,rQ,Hn⟩:=dc ha ha' hn;clear ha ha' hn;have Hb:Hid (Bw w w):=Below.refl _ _;go_enter Tryz.func13,Tryz.ntmps13;go_wp2_with fail;obtain⟨R,hR⟩:∃R:World->Prop,(λW=>aC W (w.heap.size) 34 [ah V,ah D,.slice a n cap]/\aC W (w.heap.size+1) 34 [ah V,ah D,.slice a' n cap']/\Bw w W)=R:=⟨_,rfl⟩;first|refine cj R ?hR ?_|refine cu R ?hR ?_
 case hR=>subst hR;exact⟨((aC.newAt w _ _ (b:=w.heap.size) rfl).alloc _),(aC.newAt (w.alloc _) _ _ (b:=w.heap.size+1) zm),(zl.alloc zj _)⟩
 subst hR;rintro W ⟨qp,qq,ag⟩;have Hp:=aj qp;clear qp;have Hq:=aj qq;clear qq;obtain⟨p0,p1,p2⟩:=Hp.out.c3;obtain⟨q0,q1,q2⟩:=Hq.out.c3;replace Hb:=aF Hb ag;clear ag;have lV:=Hp;have xY:=Hq;have dG:=Hb;go_wp2_with fail;go_loopw[5] (λx wr=>∃k:Nat,k<=n/\x=ah (k:Int)/\Bw W wr) (λx _=>n-(intOf x).toNat);case atStart=>exact⟨0,Nat.zero_le _,rfl,Below.refl _ _⟩
 case round=>
  clear Hb Hp Hq p0 p1 p2 q0 q1 q2;obtain⟨k,hk,rfl,pb⟩:=hrel;have bW:=aV dG.out pb;obtain⟨Hp,Hq⟩:=aZ (lV.out.below pb) (xY.out.below pb);by_cases hlt:k<n
  . have hk2:k<cG.length:=by rw[Hn.out];exact hlt
    obtain⟨s,m,e,hx⟩:=rZ (cG[k]);obtain⟨b,o,rfl,n0,n1,n2⟩:=(Ha.out.below bW).num k hk2 hx;obtain⟨b',o',rfl,m0,m1,m2⟩:=(rQ.out.below bW).num k hk2 hx;have bK:=mG n cap k (k:Int) (rfl:(some ⟨b,o,none⟩:Option Addr)=_) hlt rfl;have Tf:=mG n cap' k (k:Int) (rfl:(some ⟨b',o',none⟩:Option Addr)=_) hlt rfl;have Hx:Hid (bY wr b (o+k*3) [ar s,ai m,ah e]):=kX n0 n1 n2;have Hy:Hid (bY wr b' (o'+k*3) [ar s,ai m,ah e]):=kX m0 m1 m2;have bj:=aj pb;clear pb n0 n1 n2 m0 m1 m2 hx bW;have Hb:Hid (Bw wr wr):=Below.refl _ _;obtain⟨p0,p1,p2⟩:=Hp.out.c3;obtain⟨q0,q1,q2⟩:=Hq.out.c3;obtain⟨x0,x1,x2⟩:=Hx.out.w3;obtain⟨y0,y1,y2⟩:=Hy.out.w3;go_wp2_with fail;refine cg (λw'=>aH w' (w.heap.size) 2 (.slice (some ⟨b,o,none⟩) n cap)/\aH w' (w.heap.size+1) 2 (.slice (some ⟨b',o',none⟩) n cap')/\aH w' b (o+k*3) (ar s)/\aH w' b (o+k*3+1) (ai m)/\aH w' b (o+k*3+2) (ah e)/\aH w' b' (o'+k*3) (ar s)/\aH w' b' (o'+k*3+1) (ai m)/\aH w' b' (o'+k*3+2) (ah e)) (λi=>Nat.blt i 100000) [(0,true),(1,true),(2,true),(3,true),(4,true),(5,true),(6,true),(7,true),(8,true),(9,true),(10,true)] zk zk rfl zk zc ⟨p2,q2,x0,x1,x2,y0,y1,y2⟩ ?_;iterate 11 (refine pT rfl rfl ?_ (by intro w' ⟨q0,q1,q2,q3,q4,q5,q6,q7⟩;go_simp;try with_reducible rfl);try simp only[UU])
    simp only[bD];go_wp2;go_roundw;case rel=>exact⟨k+1,by omega,by go_num,bj.out.drew⟩
    case measure=>simp[intOf];omega
  . obtain rfl:k=n:=by omega
    have eP:=aj bW;clear pb bW;obtain⟨p0,p1,p2⟩:=Hp.out.c3;obtain⟨q0,q1,q2⟩:=Hq.out.c3;go_wp2;refine bodyPost_ret (results_tmp rfl _ _ _) rfl ⟨rfl,eP.out⟩
theorem is16 (D:Int)(a:Option Addr)(ns:List Nat)(N cap:Nat)(al:Option Addr)(ZA:Nat)(w:World)(hN:ns.length=N)(hl:N<=1000)(hn:∀n∈ns,n<=1000000)(hf:At w a (dC (ns.map dI)))(ha:At w al (ns.map λ(n:Nat)=>Value.int .i64 (n:Int))):
 Calls Tryz.prog 39 #[.agg #[ah 2,ah D,.slice a N cap],ah 0,ah D,.slice al N ZA] w λe w'=>e=.returned (ar true)/\Bw w w':=by
 obtain⟨i0,hi,hz0,hz1,hz2⟩:=info_parts Tryz.aBk;have hsm:=λa' c' W (hW:Bw w W) (h:At W a' (dC (ns.map dI)))=>auE 2 D a a' N cap c' ((ns.map dI).map canon) W (by simp[hN]) hl (by rw[<-qX];exact hf.below hW) (by rw[<-qX];exact h);obtain⟨HN,HA,Hn,Hi,dz,dA,dh⟩:=lG hN ha hn hi hz0 hz1 hz2;obtain⟨Z,hZ⟩:=aK (ns.map dI);rw[hZ]at hsm;obtain⟨HZ,dS⟩:=aZ hZ hsm;clear hN ha hn hi hz0 hz1 hz2 hZ hsm hf;obtain⟨W,dw,Hb,Hf,Ho⟩:=mK w 34 [ah 2,ah D,.slice a N cap] 34 [ah 2,ah D,.slice none 0 0];obtain⟨f0,f1,f2⟩:=Hf.out.c3;obtain⟨o0,dM,o1,dO,o2,vh⟩:=Ho.out.g3;go_enter Tryz.func39,Tryz.ntmps39;go_wp2_with fail;clear f0 f1 f2 o0 dM o1 dO o2 vh;first|refine cj (cm W (w.heap.size+1) 2 [.slice none 0 0]) cC ?_|refine cu (cm W (w.heap.size+1) 2 [.slice none 0 0]) cC ?_
 intro w1 hs;replace Hf:=kS Hf hs zo;replace Ho:Hid (aC w1 (w.heap.size+1) 34 [ah 2,ah D,.slice none 0 0]):=yR Ho hs;obtain⟨f0,f1,f2⟩:=Hf.out.c3;obtain⟨o0,dM,o1,dO,o2,vh⟩:=Ho.out.g3;replace Hb:=bS Hb hs ZS;clear hs;have lf:=Hf.out.lt;have lo:=Ho.out.lt;go_loopw[10] (λi wr=>∃k:Nat,k<=N/\i=ah (k:Int)/\∃v,wr.ownsRow w.heap.size 48 3 v k (dC (Z.take k))/\aC wr w.heap.size 34 [ah 2,ah D,.slice a N cap]/\aC wr (w.heap.size+1) 34 [ah 2,ah D,v]/\Bw w wr) (λi _=>N-(intOf i).toNat);case atStart=>exact⟨0,Nat.zero_le _,rfl,_,World.ownsRow_nil _ _ _ _,Hf.out,Ho.out,Hb.out⟩
 case round=>
  clear f0 f1 f2 o0 o1 o2 dM dO vh;obtain⟨k,hk,rfl,v,pv,pR,pO,pb⟩:=hrel;by_cases hlt:k<N
  . have h1:k<ns.length:=by rw[HN.out];exact hlt
    obtain⟨n,hx⟩:=aK (ns[k]);have hnn:n<=1000000:=by rw[<-hx];exact Hn.out _ (List.getElem_mem h1)
    obtain⟨X,hX⟩:=aK (dI n);have TA:=λW=>ze n 0 X hX W hnn zd;have cB:Hid (dC (Z.take (k+1))=dC (Z.take k)++[ar (aI (dN X)),ai (nt (dN X).natAbs),ah (dE X)]):=by
     show _=_
     rw[<-HZ.out,List.take_succ_eq_append_getElem (by simpa using h1),Gc];congr 1;simp only[List.getElem_map,hx,hX];rfl
    have hat:At w al (ns.flatMap λ(n:Nat)=>[Value.int .i64 (n:Int)]):=by rw[Gi];exact HA.out
    obtain⟨b1,oa,sk,hcs⟩:=hat.elem (f:=λ(n:Nat)=>[Value.int .i64 (n:Int)]) (sz:=1) (λ_=>rfl) zd k h1;have p0:w.cell? ⟨b1,oa+k,none⟩=some (ah (n:Int)):=by rw[<-hx];simpa using hcs 0 zd
    have qw:b1<w.heap.size:=World.block_lt_of_cell? w _ p0;replace p0:=cell_later pb p0;have sw:=aqa N ZA k (k:Int) sk hlt rfl;rw[Nat.mul_one]at sw;have Hp:Hid (bY wr b1 (oa+k) [ah (n:Int)]):=λj hj=>by
     obtain rfl:j=0:=by simp at hj;omega
     exact p0
    replace Hf:=aj pR;replace Ho:=aj pO;obtain⟨Hv,zQ⟩:=aZ pv pb;have ayE:w.heap.size<=wr.heap.size:=pb.size;obtain⟨y,hy⟩:∃y:Int,(n:Int)=y:=⟨_,rfl⟩;rw[hy]at Hp TA;have ajd:=aj TA;clear pR pO pv hx hX sk p0 Hb pb hat hcs TA hnn hy;have Hb:Hid (Bw wr wr):=Below.refl _ _;go_wp2_with fail;obtain⟨o0,dM,o1,dO,o2,vh⟩:=Ho.out.g3;have p0:=Hp.out.w1;refine cg (λw'=>aH w' (w.heap.size+1) 2 (v)/\aH w' b1 (oa+k) (ah y)) (λi=>Nat.blt i 10) [(0,true),(1,true),(2,true),(3,true),(4,true),(5,true),(6,false),(7,false),(8,false),(9,true),(10,false)] zk zk rfl zk zc ⟨o2,p0⟩ ?_;iterate 6 (refine pT rfl rfl ?_ (by intro w' ⟨q0,q1⟩;go_simp;try with_reducible rfl);try simp only[UU])
    refine aW rfl rfl (λK hK=>?_);go_simp;with_reducible refine(ajd.out _).mono ?_
    rintro e w5 ⟨rfl,hq⟩;have ag:Bw wr w5:=by first|exact hq|exact bo hq
    clear o0 dM o1 dO o2 vh p0;obtain⟨Ho,o0,dM,o1,dO,o2,vh⟩:=bg Ho ag;replace Hp:=kW Hp ag;have p0:=Hp.out.w1;replace Hb:=aF Hb ag;clear ag;refine hK _ _ (λ_=>⟨o2,p0⟩) ?_;clear hK K;try simp only[UU]
    refine aW rfl rfl (λK hK=>?_);go_simp;refine hK _ _ (λ_=>⟨aX o2,aX p0⟩) ?_;clear hK K;try simp only[UU]
    refine cn (λw6=>aC w6 (w5.heap.size) 48 [ar (aI (dN X)),ai (nt (dN X).natAbs),ah (dE X)]/\Bw w5 w6) (by first|exact dZ|exact ej) ?_;rintro w6 ⟨qc,ag⟩;clear o0 dM o1 dO o2 vh p0;have azU:=Ho.out.lt;replace Ho:=kB Ho ag;replace Hp:=kW Hp ag;have Hc:=aj qc;clear qc;obtain⟨o0,dM,o1,dO,o2,vh⟩:=Ho.out.g3;have p0:=Hp.out.w1;obtain⟨c0,c1,c2⟩:=Hc.out.c3;replace Hb:=aF Hb ag;clear ag;refine aW rfl rfl (λK hK=>?_);have eF:=ownsRow_below Hv.out Hb.out;have nD:=Hb.out.size;refine wp_append_own _ _ _ 32 rfl w.heap.size 48 i0 _ 3 32 Tryz.underlying32 Hi.out dz.out dA.out dh.out rfl zd v k (dC (Z.take k)) rfl eF ⟨w5.heap.size,0,none⟩ 1 1 [ar (aI (dN X)),ai (nt (dN X).natAbs),ah (dE X)] rfl rfl (iz Hc.out) zy zx zo zo ?_;intro v' w7 fA fR _;obtain⟨g',cq,rfl⟩:=ownsRow_succ fA;have nb:∀b,b<w.heap.size->some b≠v.ownBlock:=λb hb e=>by have:=dL eF b e.symm;omega
    have eD:=Ho.out.row zd eF fR;have hr2:=(Hf.out.below Hb.out).row zd eF fR;refine hK _ _ (λ_=>⟨eD.cell 2,cV fR p0 (nb _ qw)⟩) ?_;clear hK K o0 o1 o2 dM dO vh p0 c0 c1 c2;try simp only[UU]
    refine pT rfl rfl ?_;try simp only[UU]
    refine aW rfl rfl (λK hK=>?_);have o2:w7.cell? ⟨w.heap.size+1,2,none⟩=some v:=eD.cell 2;have vh:w7.frozen? ⟨w.heap.size+1,2,none⟩=false:=eD.free 2;obtain⟨Hnr,H1,H4,H5,H6,H7⟩:=gP (eD.not_row zd fA) eD hr2 fA fR eF;clear eD hr2 fA fR eF;go_simp;refine hK _ _ (λh=>absurd h zd) ?_;clear hK K;simp only[bD];go_wp2;go_roundw;case rel=>
     refine⟨k+1,by omega,by go_num,.slice (some ⟨g',0,none⟩) (k+1) cq,?_,?_,?_,?_⟩
     . rw[cB.out];exact H5.out.kept (grownBy_set (w:=w7) (a:=⟨w.heap.size+1,2,none⟩) (w.heap.size+1) rfl _) (.inr Hnr.out.symm)
     . exact H4.out.aBg ⟨w.heap.size+1,2,none⟩ zp _
     . exact H1.out.set 2 _
     . refine Below.setCell ?_ zp _;exact(aV zQ.out Hb.out).grown H6.out zo (λj e=>dL H7.out j e)
    case measure=>simp[intOf];omega
  . obtain rfl:k=N:=by omega
    have AK:Z.take k=Z:=by rw[List.take_of_length_le];rw[<-HZ.out];simp[HN.out]
    rw[AK]at pv;obtain⟨a2,cap2,rfl,hat,hab⟩:=dU pv;have HSm:=aj (dS.out a2 cap2 wr pb hat);replace Hf:=aj pR;replace Ho:=aj pO;replace Hb:=aj pb;clear pv pR pO pb hat hab AK;obtain⟨f0,f1,f2⟩:=Hf.out.c3;obtain⟨o0,o1,o2⟩:=Ho.out.c3;go_wp2_with fail;refine(HSm.out).mono ?_;rintro e w8 ⟨rfl,ag⟩;clear f0 f1 f2 o0 o1 o2;obtain⟨Hf,f0,f1,f2⟩:=bP Hf ag;obtain⟨Ho,o0,o1,o2⟩:=bP Ho ag;replace Hb:=aF Hb ag;clear ag;go_wp2;refine bodyPost_ret (results_tmp rfl _ _ _) rfl ⟨rfl,Hb.out⟩
theorem at1 (V B:Nat)(s:Bool)(m:List UInt8)(e:Int)(D:Dyadic)(l:Nat->Dyadic)(w:World)(hV:V<=12)(hf:sP B (s,m,e))(hB:B<=16000)(hD:aM (s,m,e)=D):
 Calls Tryz.prog 35 #[ah (V:Int),.agg #[ar s,ai m,ah e]] w λex w'=>∃a' c',ex=.returned (.tuple #[.agg #[ah (V:Int),.slice a' (dF V D l 0).length c'],ah 0])/\bJ w' a' c' (dF V D l 0)/\Bw w w':=by
 have hC:=aeh V D (s,m,e) l hD;obtain⟨C,De⟩:=aK (dF V D l 0);rw[De]at hC⊢;have hmk:=λW b (hb:aC W b 67 [ai (kY V),ar s,ai m,ah e])=>NM V (some ⟨b,0,none⟩) 1 1 [(kY V,(s,m,e))] B W rfl zo (At.aBf hb) (by intro t ht;simp at ht;subst ht;exact hf.1) (by intro t ht;simp at ht;subst ht;exact hf.2) zo;rw[hC]at hmk;have hmb:=λW=>uw (V:Int) V rfl zo W;have hcv:∀W b,Hid (aC W b 5 (cW V λ_=>0))->(convert 84 9 (.slice (some ⟨b,0,none⟩) V V)).run Tryz.prog W=.ok (ai (kY V)) W:=λW b h=>by rw[<-agM];exact uC h.out V
 have lu:=aj hmk;clear hmk hC De hf hD;have hVi:¬(V:Int)<0:=by omega
 have hV2:¬(12:Int)<(V:Int):=by omega
 obtain⟨W,dw,Hb,Hc,Hr⟩:=mK w 48 [ar s,ai m,ah e] 24 [ah 0,.slice none 0 0];obtain⟨c0,c1,c2⟩:=Hc.out.c3;obtain⟨r0,au,r1,az⟩:=Hr.out.g2;go_enter Tryz.func35,Tryz.ntmps35;go_wp2_with fail;refine cg (λw'=>aH w' (w.heap.size) 0 (ar s)/\aH w' (w.heap.size) 1 (ai m)/\aH w' (w.heap.size) 2 (ah e)) (λi=>Nat.blt i 10) [(0,true),(1,true),(4,true),(2,false),(3,false),(5,true),(6,false),(7,false),(8,true),(9,true),(10,false),(11,false)] zk zk rfl zk zc ⟨c0,c1,c2⟩ ?_;iterate 3 (refine pT rfl rfl ?_ (by intro w' ⟨q0,q1,q2⟩;go_simp;try with_reducible rfl);try simp only[UU])
 refine aW rfl rfl (λK hK=>?_);go_simp;refine hK _ _ (λ_=>⟨aX c0,aX c1,aX c2⟩) ?_;clear hK K;try simp only[UU]
 refine cn (λW3=>aC W3 (W.heap.size) 5 (cW V (λ_=>0))/\Bw W W3) (by first|exact dZ|exact ej) ?_;rintro W3 ⟨qq,ag⟩;clear c0 c1 c2 r0 au r1 az;have Nq:=Hc.out.lt;have IZ:=Hr.out.lt;replace Hc:=kB Hc ag;replace Hr:=kB Hr ag;have Hq:=aj qq;clear qq;obtain⟨c0,c1,c2⟩:=Hc.out.c3;obtain⟨r0,au,r1,az⟩:=Hr.out.g2;replace Hb:=aF Hb ag;clear ag;refine aW rfl rfl (λK hK=>?_);go_simp;refine hK _ _ (λ_=>⟨c0,c1,c2⟩) ?_;clear hK K;try simp only[UU]
 refine pT rfl rfl ?_;try simp only[UU]
 refine aW rfl rfl (λK hK=>?_);go_simp;refine hK _ _ (λ_=>⟨aX c0,aX c1,aX c2⟩) ?_;clear hK K;try simp only[UU]
 refine cn (λW4=>aC W4 (W3.heap.size) 67 [ai (kY V),ar s,ai m,ah e]/\Bw W3 W4) (by first|exact dZ|exact ej) ?_;rintro W4 ⟨qz,ag⟩;clear c0 c1 c2 r0 au r1 az;have aep:=Hc.out.lt;have UB:=Hr.out.lt;have arv:=Hq.out.lt;replace Hc:=kB Hc ag;replace Hr:=kB Hr ag;replace Hq:=kB Hq ag;have Hz:=aj qz;clear qz;obtain⟨c0,c1,c2⟩:=Hc.out.c3;obtain⟨r0,au,r1,az⟩:=Hr.out.g2;obtain⟨z0,z1,z2,z3⟩:=Hz.out.c4;replace Hb:=aF Hb ag;clear ag;refine aW rfl rfl (λK hK=>?_);go_simp;with_reducible refine(lu.out _ _ Hz.out).mono ?_
 rintro e w5 ⟨a2,d2,rfl,eD,hq⟩;have ag:Bw W4 w5:=by first|exact hq|exact bo hq
 clear c0 c1 c2 r0 au r1 az z0 z1 z2 z3;obtain⟨Hc,c0,c1,c2⟩:=bP Hc ag;obtain⟨Hr,r0,au,r1,az⟩:=bE Hr ag;replace Hq:=kB Hq ag;obtain⟨Hz,z0,z1,z2,z3⟩:=dK Hz ag;replace Hb:=aF Hb ag;clear ag;refine hK _ _ (λ_=>⟨c0,c1,c2⟩) ?_;clear hK K;try simp only[UU]
 iterate 2 (refine pT rfl rfl ?_;try simp only[UU])
 refine aW rfl rfl (λK hK=>?_);go_simp;refine hK _ _ (by first|exact λh=>absurd h zd|exact λ_=>⟨c0,c1,c2⟩ |exact λ_=>⟨(by first|exact c0|exact aU zf c0|exact aU zf (aU zf c0) |exact aU zf (aU zf (aU zf c0))),(by first|exact c1|exact aU zf c1|exact aU zf (aU zf c1) |exact aU zf (aU zf (aU zf c1))),(by first|exact c2|exact aU zf c2|exact aU zf (aU zf c2) |exact aU zf (aU zf (aU zf c2)))⟩) ?_;clear hK K;try simp only[UU]
 refine aW rfl rfl (λK hK=>?_);go_simp;refine hK _ _ (λh=>absurd h zd) ?_;clear hK K;try simp only[UU]
 simp only[bD];go_wp2;have h9:=eD.store Hr.out zd (ah (V:Int)) (.slice a2 C.length d2);refine fJ (λw9=>bJ w9 a2 d2 C/\aC w9 (w.heap.size+1) 24 [ah (V:Int),.slice a2 C.length d2]/\Bw w w9) ⟨h9,(Hr.out.set 0 _).set 1 _,(Hb.out.setCell zp _).setCell zp _⟩ ?_;rintro w9 ⟨q1,q2,q3⟩;obtain⟨p0,p1⟩:=q2.c2;exact bodyPost_ret (v:=.tuple #[.agg #[ah (V:Int),.slice a2 C.length d2],ah 0]) (by simp[results,Tryz.results35,go_sem,p0,p1]) rfl ⟨_,_,rfl,q1,q3⟩
end Go.Proofs.YtnjfebkelecgaaaGreatDoor
