/- Package bound: Simplices. -/
import Derived.Test.YtbkopgdpcijfbaaGreatDoorZ7
import Derived.Test.YtbkopgdpcijfbaaGreatDoorZ26
import Derived.Test.YtbkopgdpcijfbaaGreatDoorZ31
import Derived.Test.YtbkopgdpcijfbaaGreatDoorZ13
set_option linter.all false
set_option maxRecDepth 100000
set_option maxHeartbeats 16000000
namespace Go.Proofs.YtbkopgdpcijfbaaGreatDoor
open Go.RowKit
attribute [local go_sem ↓] Go.wp_at_zero Go.wp_at_succ
def CS (d:Int):Dyadic:=Dyadic.ofIntWithPrec d 0
def Fy (d:Int)(G:Dyadic)(n:Nat)(E l:Dyadic):Dyadic:=(CS d*G) * ((CS d*G) * (CS (n+1) * (E* (l*1))))
def Fz (M S:Dyadic):Dyadic:=(M* (M* (S* (S*1)))) *pZ 2
def un (d:Int)(G M:Dyadic)(n:Nat)(E l S:Dyadic):Option Nat:=if bg (G-M)<0 then some 0 else CH (AW (Fy d G n E l) (Fz M S)) n
def fe (n:Nat)(l:List UInt8):Bool:=decide (l≠iN n)
def TB (n:Nat)(P:Nat->Nat->Dyadic)(i j:Nat):∀t∈dP n P i j,t.1=iN n\/∃k,k<n/\t.1=cN n k:=by
 have hl:∀c l,∀t∈eD n c l n,t.1=iN n\/∃k,k<n/\t.1=cN n k:=λc l t ht=>by
  unfold eD cg at ht;obtain⟨u,hu,rfl⟩:=List.mem_map.1 ht;obtain⟨y,hy,e⟩:=ai9 _ u (List.mem_filter.1 hu).1;rw[<-e];unfold iW at hy;rcases List.mem_cons.1 hy with rfl|hy
  . exact .inl rfl
  . obtain⟨k,hk,rfl⟩:=List.mem_map.1 hy;exact .inr ⟨k,List.mem_range.1 hk,rfl⟩
 intro t ht;unfold dP lQ pL at ht;split at ht
 . exact hl _ _ t ht
 . exact hl _ _ t ht
def acZ (n:Nat)(P:Nat->Nat->Dyadic)(i j:Nat):(dP n P i j).length<=n+1:=by
 have hl:∀c l,(eD n c l n).length<=n+1:=λc l=>by unfold eD cg;rw[List.length_map];exact Nat.le_trans (List.length_filter_le _ _) (Nat.le_trans (KQ _) (by rw[EZ];exact Nat.le_refl _))
 unfold dP lQ pL;split<;>exact hl _ _
def ack (n:Nat):gN (iN n)=0:=by unfold gN iN;simp
def acj (n k:Nat)(hk:k<n):gN (cN n k)=1:=by
 unfold gN cN;induction n generalizing k with
 |zero=>omega
 | succ n ih=>
   cases k with
   |zero=>simp[List.replicate_succ]
   |succ k=>rw[List.replicate_succ,List.set_cons_succ,List.map_cons,List.sum_cons,ih k zo];rfl
def asi (n:Nat)(P:Nat->Nat->Dyadic)(i j:Nat):∀t∈dP n P i j,(gN t.1=1↔fe n t.1=true):=by
 intro t ht;unfold fe;rcases TB n P i j t ht with h|⟨k,hk,h⟩
 . rw[h,ack];simp
 . rw[h,acj n k hk];have:cN n k≠iN n:=λe=>by have h1:=acj n k hk;rw[e,ack]at h1;omega
   simp[this]
def aiW {C:Nat}(a:Option Addr)(cap n:Nat)(rows:List (List Raw))(B:Nat)(xV:Int)(gs:Bool)(gl:List UInt8)(ge:Int)(ms:Bool)(ml:List UInt8)(me:Int)(w:World)(hn:1<=n)(bZ:n<=4)(hr:Rw n B rows)(hcap:n+1<=cap)(ha:bJ w a rows)(hB:B<=10000)(hT:aC w)
 (hg:Fit C (gs,gl,ge)) (hm:Fit C (ms,ml,me)) (hc:jy rows=0) (hg0:0<=bg (au (gs,gl,ge))) (hm0:0<bg (au (ms,ml,me))) (hd0:0<=xV) (hd1:xV<18446744073709551616/4) (hC:300<=C:=by decide) (TT:C<=100000:=by decide):
 Cv 15 #[.slice a (n+1) cap,af xV,.agg #[ag gs,ah gl,af ge],.agg #[ag ms,ah ml,af me]] w (.tuple #[af (((un xV (au (gs,gl,ge)) (au (ms,ml,me)) n (stA (fe n) (dP n (cm rows) n) (n+1)) (cZ (cH rows n) (n+1)).2.2 (bK n (cm rows))).getD 0:Nat):Int),af (if un xV (au (gs,gl,ge)) (au (ms,ml,me)) n (stA (fe n) (dP n (cm rows) n) (n+1)) (cZ (cH rows n) (n+1)).2.2 (bK n (cm rows))=none then 3 else 0)]):=by
 have Au:=PQ hr.1 hr.2.1 hn zo;have vA:=λW (hW:Bw w W)=>PP a (n+1) cap rows B W hr.1 zo hcap (ha.below hW) hr.2.2 zo (hT.below hW);rw[hc]at vA;have mZ:=λW=>SL gs gl ge ms ml me W hg.1 hm.1;rw[decide_eq_true (show 0<=bg (au (gs,gl,ge))/\0<bg (au (ms,ml,me))from⟨hg0,hm0⟩)]at mZ;obtain⟨c,hcc⟩:=aB (bg (au (gs,gl,ge)-au (ms,ml,me)));have hcm:=λW (hW:Bw w W)=>wu gs gl ge ms ml me c hcc W hg.1 hm.1 (hT.below hW);obtain⟨S,hS⟩:=aB (bK n (cm rows));have hsz:=λW (hW:Bw w W)=>aiX a cap n rows B S W hn bZ hr.1 hr.2.1 hcap (ha.below hW) hr.2.2 zo (hT.below hW) hS;have jW:Sm (4*B+10) S:=by
  rw[<-hS,Iz];refine(Ti (B:=B+1) hn bZ (λi j hi hj=>?_)).mono zo;have h0:0<rows.length:=by have:=hr.1;omega
  have h1:i+1<rows.length:=by have:=hr.1;omega
  have l0:=hr.2.1 _ (List.getElem_mem h0);have l1:=hr.2.1 _ (List.getElem_mem h1);rw[xa rows (i+1) j h1 zo,xa rows 0 j h0 zo];exact Sm.sub (hr.2.2 _ (List.getElem_mem h1) _ (List.getElem_mem _)).2 (hr.2.2 _ (List.getElem_mem h0) _ (List.getElem_mem _)).2
 have hfo:∀W,Bw w W->Cl 60 #[.slice a (n+1) cap] W (YI W n B (cm rows)):=λW hW=>by obtain⟨m,rfl⟩:∃m,n=m+1:=⟨n-1,by omega⟩;exact asm a cap m rows B W bZ hr hcap (ha.below hW) zo (hT.below hW) hc
 obtain⟨l,hl⟩:=aB ((cZ (cH rows n) (n+1)).2.2);obtain⟨i0,hi0⟩:∃i,(cZ (cH rows n) (n+1)).1=i:=⟨_,rfl⟩;obtain⟨j0,Vh⟩:∃i,(cZ (cH rows n) (n+1)).2.1=i:=⟨_,rfl⟩;have Co:=λW (hW:Bw w W)=>Wz a (n+1) cap n rows B W hr.1 Au hn (ha.below hW) hr.2.2 zo (hT.below hW);have hls:=avE (n:=n) (L:=n+1) hr.2.2 zo;rw[hl]at hls;simp only[hl,hi0,Vh]at Co;obtain⟨E,hE⟩:=aB (stA (fe n) (dP n (cm rows) n) (n+1));have VL:=λfa fc ps W (h1:ps.length=n+1) (h2:At W fa (ps.flatMap mD)) (h3:jg W n (5*B+33) ps (dP n (cm rows) n)) (hT:aC W)=>az0 (fe n) fa (n+1) fc n (5*B+33) ps (dP n (cm rows) n) W h1 zo zo h2 h3 zo (λj _=>asi n (cm rows) n j) (λj _=>by have:=acZ n (cm rows) n j;omega) hT;simp only[hE]at VL;have rz:(∀j,j<n+1->(∀t∈dP n (cm rows) n j,Sm (5*B+33) (au t.2)))->Sm (11*B+600) E:=λh=>by rw[<-hE];exact(aja (N:=5) (L:=n+1) (λj hj=>⟨h j hj,by have:=acZ n (cm rows) n j;omega⟩) (n+1) (Nat.le_refl _)).mono zo
 obtain⟨R,hR⟩:=aB (un xV (au (gs,gl,ge)) (au (ms,ml,me)) n E l S);rw[hE,hl,hS,hR];obtain⟨D,hD⟩:=aB (CS xV);obtain⟨I,hI⟩:=aB (CS ((n:Int)+1));obtain⟨G,hG⟩:=aB (au (gs,gl,ge));obtain⟨F,hF⟩:=aB (D*G);obtain⟨M,hM⟩:=aB (au (ms,ml,me));obtain⟨X,hX⟩:=aB (F* (F* (I* (E* (l*1)))));obtain⟨Z,hZ⟩:=aB (M* (M* (S* (S*1))));obtain⟨Y,hY⟩:=aB (Z*pZ 2);have iU:Sm 128 D:=by rw[<-hD];exact Po _ zo
 have Ua:Sm 128 I:=by rw[<-hI];exact Po _ zo
 have hGs:Sm C G:=by rw[<-hG];exact hg.2
 have Ub:Sm C M:=by rw[<-hM];exact hm.2
 have Ca:Sm (C+128) F:=by rw[<-hF];exact(Sm.mul iU hGs).mono zo
 have Eu:Sm (8*B+30+2*C) Z:=by
  rw[<-hZ];have h1:S*1=S:=by grind
  rw[h1];exact(Sm.mul Ub (Sm.mul Ub (Sm.mul jW jW))).mono zo
 have lS:Sm (13*B+3000+2*C) Y:=by rw[<-hY];exact(Sm.mul Eu (ajN 2)).mono zo
 have fK:Sm (11*B+600) E->Sm (13*B+3000+2*C) X:=λh=>by
  rw[<-hX];have h1:l*1=l:=by grind
  rw[h1];exact(Sm.mul Ca (Sm.mul Ca (Sm.mul Ua (Sm.mul h hls)))).mono zo
 have zY:c<0->R=some 0:=λh=>by rw[<-hR];unfold un;rw[if_pos (by rw[hcc];exact h)]
 have IZ:0<=c->CH (AW X Y) n=R:=λh=>by rw[<-hR];unfold un;rw[if_neg (by rw[hcc];omega)];unfold Fy Fz;rw[hD,hG,hF,hI,hX,hM,hZ,hY]
 have qD:Hid (Dyadic.ofIntWithPrec xV 0=D):=hD;have qI:Hid (Dyadic.ofIntWithPrec ((n:Int)+1) 0=I):=hI;have qF:Hid (au (bE D) *au (gs,gl,ge)=F):=by show au (canon D) *_=F;rw[bF,hG];exact hF
 have qX:Hid (jU [(bE F),(bE F),(bE I),(bE E),(bE l)]=X):=by
  show au (canon F) * (au (canon F) * (au (canon I) * (au (canon E) * (au (canon l) *1))))=X
  rw[bF,bF,bF,bF];exact hX
 have qZ:Hid (jU [(ms,ml,me),(ms,ml,me),(bE S),(bE S)]=Z):=by
  show au (ms,ml,me) * (au (ms,ml,me) * (au (canon S) * (au (canon S) *1)))=Z
  rw[bF,hM];exact hZ
 have qY:Hid (au (az (dN Z),nt (dN Z).natAbs,dE Z+2)=Y):=by show _=Y;rw[<-hY];exact aiU Z 2
 have fD:Hid (Fit C (bE D)):=(iU.mono zo).fit zo;have fG:Hid (Fit C (gs,gl,ge)):=hg;have fF:Hid (Fit (11*B+1000+C) (bE F)):=(Ca.mono zo).fit zo;have fI:Hid (Fit (11*B+1000+C) (bE I)):=(Ua.mono zo).fit zo;have fl:Hid (Fit (11*B+1000+C) (bE l)):=(hls.mono zo).fit zo;have fE:Hid (Sm (11*B+600) E->Fit (11*B+1000+C) (bE E)):=λh=>(h.mono zo).fit zo;have fM:Hid (Fit (11*B+1000+C) (ms,ml,me)):=hm.mono zo;have fS:Hid (Fit (11*B+1000+C) (bE S)):=(jW.mono zo).fit zo;have fZ:Hid (Ok (bE Z)):=(Eu.fit zo).1;obtain⟨nv,vv⟩:∃nv:Int,((R.getD 0:Nat):Int)=nv:=⟨_,rfl⟩;obtain⟨er,her⟩:∃er:Int,(if R=none then 3 else 0)=er:=⟨_,rfl⟩;rw[vv,her];obtain⟨GP,GA,xJ,yX,uu,qR,QY,Hln,anu,Qb,Dk,Gp⟩:=ie vv her vA mZ hcm hsz hfo Co VL rz fK lS;obtain⟨Gh,Qg,HT⟩:=cw zY IZ hT;clear vv her vA mZ hcm hsz hfo Co VL rz fK lS zY IZ hT hD hI hG hF hM hX hZ hY iU Ua hGs Ub Ca Eu jW hls hS hl hi0 Vh hE hR hcc hc hg hm hg0 hm0 Au hr ha;obtain⟨W,cE,Hb,Hg,Hm⟩:=axh w 30 [ag gs,ah gl,af ge] 30 [ag ms,ah ml,af me];obtain⟨g0,g1,g2⟩:=Hg.out.c3;obtain⟨m0,m1,m2⟩:=Hm.out.c3;go_enter Tryz.func15,Tryz.ntmps15;go_wp2_with fail;refine(xJ.out _ Hb.out).mono ?_;rintro e w1 ⟨rfl,ai⟩;obtain⟨Hg,g0,g1,g2⟩:=gD Hg ai;obtain⟨Hm,m0,m1,m2⟩:=gD Hm ai;replace Hb:=aW Hb ai;go_wp2_with fail;refine(yX.out _).mono ?_;rintro e w2 ⟨rfl,ai⟩;obtain⟨Hg,g0,g1,g2⟩:=gD Hg ai;obtain⟨Hm,m0,m1,m2⟩:=gD Hm ai;replace Hb:=aW Hb ai;go_wp2_with fail;refine(uu.out _ Hb.out).mono ?_;rintro e w3 ⟨rfl,ai⟩;obtain⟨Hg,g0,g1,g2⟩:=gD Hg ai;obtain⟨Hm,m0,m1,m2⟩:=gD Hm ai;replace Hb:=aW Hb ai;by_cases hc0:c<0
 . have hR:=Gh.out hc0;subst hR;go_wp2;exact bodyPost_ret (v:=.tuple #[af 0,af 0]) (by simp[results,Tryz.results15,go_sem]) rfl ⟨by rw[<-GP.out,<-GA.out];rfl,Hb.out⟩
 . have hR:=Qg.out zo;have qu:=aj hR;clear hR;have lg:=Hg.out.lt;have lm:=Hm.out.lt;go_wp2_with fail;refine(qR.out _ Hb.out).mono ?_;rintro e w4 ⟨rfl,ai⟩;obtain⟨Hg,g0,g1,g2⟩:=gD Hg ai;obtain⟨Hm,m0,m1,m2⟩:=gD Hm ai;replace Hb:=aW Hb ai;have aE5:=Hg.out.lt;have aFb:=Hm.out.lt;obtain⟨W4,kV,ai,Hz⟩:=CR w4 30 (bG S);replace Hg:=kB Hg ai;obtain⟨Hm,m0,m1,m2⟩:=gD Hm ai;obtain⟨g0,g1,g2⟩:=Hg.out.c3;obtain⟨z0,z1,z2⟩:=Hz.out.c3;replace Hb:=aW Hb ai;go_wp2_with fail;refine(QY.out _ Hb.out).mono ?_;rintro e w5 ⟨fa,fc,ps,rfl,hfc,hpl,hat,hpo,ai⟩;obtain⟨Hg,g0,g1,g2⟩:=gD Hg ai;obtain⟨Hm,m0,m1,m2⟩:=gD Hm ai;obtain⟨Hz,z0,z1,z2⟩:=gD Hz ai;replace Hb:=aW Hb ai;have HA:Hid (At w5 fa (ps.flatMap mD)):=hat;have HO:Hid (jg w5 n (5*B+33) ps (dP n (cm rows) n)):=hpo;have rz:=Qb.out (λj hj t ht=>by obtain⟨_,_,_,_,h⟩:=hpo j zo;exact(h.2 t ht).2);obtain⟨FE,FX,uA⟩:=cw (fE.out rz) (Dk.out rz) hpl;clear hat hpo rz hpl;go_wp2_with fail;refine(Hln.out _ Hb.out).mono ?_;rintro e w6 ⟨rfl,ai⟩;replace Hg:=kB Hg ai;replace Hm:=kB Hm ai;replace Hz:=kB Hz ai;replace HA:=kA HA ai;replace HO:=aj (HO.out.below ai);obtain⟨g0,g1,g2⟩:=Hg.out.c3;obtain⟨m0,m1,m2⟩:=Hm.out.c3;obtain⟨z0,z1,z2⟩:=Hz.out.c3;replace Hb:=aW Hb ai;have aE6:=Hg.out.lt;have aFc:=Hm.out.lt;have aFu:=Hz.out.lt;obtain⟨W6,pu,ai,He⟩:=CR w6 30 (bG l);replace Hg:=kB Hg ai;replace Hm:=kB Hm ai;replace Hz:=kB Hz ai;replace HA:=kA HA ai;replace HO:=aj (HO.out.below ai);obtain⟨g0,g1,g2⟩:=Hg.out.c3;obtain⟨m0,m1,m2⟩:=Hm.out.c3;obtain⟨z0,z1,z2⟩:=Hz.out.c3;obtain⟨e0,e1,e2⟩:=He.out.c3;replace Hb:=aW Hb ai;have hw1:IntKind.i64.wrap (((n+1:Nat):Int)-1)=(n:Int):=by rw[IntKind.wrap_i64];omega
   have hw2:IntKind.i64.wrap ((n:Int)+1)=(n:Int)+1:=by rw[IntKind.wrap_i64];omega
   have hz6:=Hb.out.size;have xz:=Hb;have Zo:=aj (HT.out.below Hb.out);have Jg:=Hg;have Jm:=Hm;have Jz:=Hz;have Je:=He;have JA:=HA;have JO:=HO;clear Hb;have Hb:=hbz W6;go_upto_region 12 with fail
   go_cut[20] (λs20 wx=>∃f:Nat,s20=.pointer (some ⟨f,0,none⟩)/\W6.heap.size<=f/\ar wx f 30 (bG F)/\Bw W6 wx);case first=>
    obtain⟨g0,g1,g2⟩:=Hg.out.c3;have gJ:∀w',ez W6 w'->aH w' (w.heap.size) 0 (ag gs)/\aH w' (w.heap.size) 1 (ah gl)/\aH w' (w.heap.size) 2 (af ge):=λw' h=>⟨cell_later h g0,cell_later h g1,cell_later h g2⟩;refine Bd (λw'=>ez W6 w') (λi=>Nat.blt i 6) 5 30 [ag false,.string ⟨#[]⟩,af 0] [(0,true),(2,true),(1,false),(3,false),(4,false)] [(6,false)] zk zk rfl rfl rfl zk zk zc zc (λK a w h=>AR rfl rfl (λK' hK=>by go_simp;exact hK _ _ h)) ?_;clear g0 g1 g2 Hg;intro W6f ai;replace Hb:=aj (aI Hb.out ai);refine⟨Hb.out,?_⟩;iterate 2 (refine rK rfl rfl (v:=?_) (λw' hw'=>?_) ?_;rotate_left;(focus have hw':=gJ w' hw';obtain⟨q0,q1,q2⟩:=hw';go_simp;try with_reducible rfl);try simp only[UU])
    refine oH rfl rfl (λK hK=>?_);go_simp;with_reducible refine(uP xV D qD.out _ zo (Zo.out.below Hb.out)).mono ?_
    rintro e w9 ⟨rfl,hq⟩;refine hK _ _ hq (λw8 ai hb2=>?_);replace Hb:=aj (aI Hb.out ai);refine⟨Hb.out,?_⟩;clear ai hb2 hq hK K;try simp only[UU]
    refine oH rfl rfl (λK hK=>?_);go_simp;refine hK _ _ zl (λW9 ai hb2=>?_);have qv:=(ar.new w8 30 [ag (az (dN D)),ah (nt (dN D).natAbs),af (dE D),ag gs,ah gl,af ge]).below hb2;replace Hb:=aj (aI Hb.out ai);refine⟨Hb.out,?_⟩;have Hv:=aj qv;clear qv ai hb2 hK K;try simp only[UU]
    refine oH rfl rfl (λK hK=>?_);go_simp;with_reducible refine(tB _ _ _ gs gl ge F C qF.out _ 2 30 _ fD.out fG.out zo Hv.out (Zo.out.below Hb.out)).mono ?_
    rintro e w9 ⟨rfl,hq⟩;refine hK _ _ hq (λdw ai hb2=>?_);replace Hb:=aj (aI Hb.out ai);replace Hv:=aj (Hv.out.below ai);refine⟨Hb.out,?_⟩;clear ai hb2 hq hK K;try simp only[UU]
    intro f_b hb0 qx;have Hf:=aj qx;clear qx;obtain⟨f0,ff0,f1,ff1,f2,ff2⟩:=Hf.out.g3;try simp only[U1]
    try simp only[Act.put,U2,U3]
    refine aM rfl rfl (λK hK=>?_);go_simp;refine hK _ _ (λh=>absurd h zd) ?_;try simp only[UU]
    simp only[bH];go_wp2_with fail;go_meet;exact⟨f_b,rfl,hb0,((Hf.out.set 0 _).set 1 _).set 2 _,((Hb.out.setCell zp _).setCell zp _).setCell zp _⟩
   case rest=>
    obtain⟨f,rfl,hf,qf,qb⟩:=hcut;have HlX:Hid (∀x∈[(bE F),(bE F),(bE I),(bE E),(bE l)],Fit (11*B+1000+C) x):=by
     intro x h;simp only[List.mem_cons,List.not_mem_nil,or_false]at h;rcases h with rfl|rfl|rfl|rfl|rfl
     . exact fF.out
     . exact fF.out
     . exact fI.out
     . exact FE.out
     . exact fl.out
    have HlZ:Hid (∀x∈[(ms,ml,me),(ms,ml,me),(bE S),(bE S)],Fit (11*B+1000+C) x):=by
     intro x h;simp only[List.mem_cons,List.not_mem_nil,or_false]at h;rcases h with rfl|rfl|rfl|rfl
     . exact fM.out
     . exact fM.out
     . exact fS.out
     . exact fS.out
    have HmX:Hid (∀W b,ar W b 30 [ag (az (dN F)),ah (nt (dN F).natAbs),af (dE F),ag (az (dN F)),ah (nt (dN F).natAbs),af (dE F),ag (az (dN I)),ah (nt (dN I).natAbs),af (dE I),ag (az (dN E)),ah (nt (dN E).natAbs),af (dE E),ag (az (dN l)),ah (nt (dN l).natAbs),af (dE l)]->aC W->Cv 61 #[.slice (some ⟨b,0,none⟩) 5 5] W (bT X)):=λW b hb hT=>MI [(bE F),(bE F),(bE I),(bE E),(bE l)] (11*B+1000+C) X qX.out _ 5 W HlX.out zi zm (At.aGr hb) hT;have HmZ:Hid (∀W b,ar W b 30 [ag ms,ah ml,af me,ag ms,ah ml,af me,ag (az (dN S)),ah (nt (dN S).natAbs),af (dE S),ag (az (dN S)),ah (nt (dN S).natAbs),af (dE S)]->aC W->Cv 61 #[.slice (some ⟨b,0,none⟩) 4 4] W (bT Z)):=λW b hb hT=>MI [(ms,ml,me),(ms,ml,me),(bE S),(bE S)] (11*B+1000+C) Z qZ.out _ 4 W HlZ.out zi zm (At.aGr hb) hT;have sY:=aj (aI xz.out qb);obtain⟨Qj,Jm7,Jz7,Je7,JA7,JO7,Hf⟩:=jL (HT.out.below sY.out) (Jm.out.below qb) (Jz.out.below qb) (Je.out.below qb) (JA.out.below qb) (JO.out.below qb) qf;have hzc:=qb.size;clear qf qb Hb Jg Jm Jz Je JA JO Hg Hm Hz He HA HO;obtain⟨W7,Et⟩:∃W7,W7=wc:=⟨_,rfl⟩;subst Et;have Hb:=hbz W7;go_upto_region 13 with fail
    go_cut[21] (λs21 wx=>∃x:Nat,s21=.pointer (some ⟨x,0,none⟩)/\W7.heap.size<=x/\ar wx x 30 (bG X)/\Bw W7 wx);case first=>
     have He:=Je7;obtain⟨f0,f1,f2⟩:=Hf.out.c3;obtain⟨e0,e1,e2⟩:=He.out.c3;have gJ:∀w',ez W7 w'->aH w' f 0 (ag (az (dN F)))/\aH w' f 1 (ah (nt (dN F).natAbs))/\aH w' f 2 (af (dE F))/\aH w' (w6.heap.size) 0 (ag (az (dN l)))/\aH w' (w6.heap.size) 1 (ah (nt (dN l).natAbs))/\aH w' (w6.heap.size) 2 (af (dE l)):=λw' h=>⟨cell_later h f0,cell_later h f1,cell_later h f2,cell_later h e0,cell_later h e1,cell_later h e2⟩;refine Bd (λw'=>ez W7 w') (λi=>Nat.blt i 11) 10 30 [ag false,.string ⟨#[]⟩,af 0] [(0,true),(1,true),(2,true),(3,true),(5,true),(7,true),(4,false),(6,false),(8,false),(9,false)] [(11,false)] zk zk rfl rfl rfl zk zk zc zc (λK a w h=>AR rfl rfl (λK' hK=>by go_simp;exact hK _ _ h)) ?_;clear f0 f1 f2 e0 e1 e2 Hf He;intro W7f ai;replace Hb:=aj (aI Hb.out ai);refine⟨Hb.out,?_⟩;iterate 6 (refine rK rfl rfl (v:=?_) (λw' hw'=>?_) ?_;rotate_left;(focus have hw':=gJ w' hw';obtain⟨q0,q1,q2,q3,q4,q5⟩:=hw';go_simp;try with_reducible rfl);try simp only[UU])
     refine oH rfl rfl (λK hK=>?_);go_simp;with_reducible refine(uP ((n:Int)+1) I qI.out _ zo (Qj.out.below Hb.out)).mono ?_
     rintro e w9 ⟨rfl,hq⟩;refine hK _ _ hq (λw8 ai hb2=>?_);replace Hb:=aj (aI Hb.out ai);refine⟨Hb.out,?_⟩;clear ai hb2 hq hK K;try simp only[UU]
     refine oH rfl rfl (λK hK=>?_);go_simp;with_reducible refine(anu.out fa fc ps _ uA.out (JA7.out.below Hb.out) (JO7.out.below Hb.out) (Qj.out.below Hb.out)).mono ?_
     rintro e w9 ⟨rfl,hq⟩;refine hK _ _ hq (λw9 ai hb2=>?_);replace Hb:=aj (aI Hb.out ai);refine⟨Hb.out,?_⟩;clear ai hb2 hq hK K;try simp only[UU]
     refine oH rfl rfl (λK hK=>?_);go_simp;refine hK _ _ zl (λW10 ai hb2=>?_);have qv:=(ar.new w9 30 [ag (az (dN F)),ah (nt (dN F).natAbs),af (dE F),ag (az (dN F)),ah (nt (dN F).natAbs),af (dE F),ag (az (dN I)),ah (nt (dN I).natAbs),af (dE I),ag (az (dN E)),ah (nt (dN E).natAbs),af (dE E),ag (az (dN l)),ah (nt (dN l).natAbs),af (dE l)]).below hb2;replace Hb:=aj (aI Hb.out ai);refine⟨Hb.out,?_⟩;have Hv:=aj qv;clear qv ai hb2 hK K;try simp only[UU]
     refine oH rfl rfl (λK hK=>?_);go_simp;with_reducible refine(HmX.out _ _ Hv.out (Qj.out.below Hb.out)).mono ?_
     rintro e w9 ⟨rfl,hq⟩;refine hK _ _ hq (λir ai hb2=>?_);replace Hb:=aj (aI Hb.out ai);replace Hv:=aj (Hv.out.below ai);refine⟨Hb.out,?_⟩;clear ai hb2 hq hK K;try simp only[UU]
     intro x_b hb0 qx;have Hx:=aj qx;clear qx;obtain⟨x0,gu,x1,gv,x2,iH⟩:=Hx.out.g3;try simp only[U1]
     try simp only[Act.put,U2,U3]
     refine aM rfl rfl (λK hK=>?_);go_simp;refine hK _ _ (λh=>absurd h zd) ?_;try simp only[UU]
     simp only[bH];go_wp2_with fail;go_meet;exact⟨x_b,rfl,hb0,((Hx.out.set 0 _).set 1 _).set 2 _,((Hb.out.setCell zp _).setCell zp _).setCell zp _⟩
    case rest=>
     obtain⟨x,rfl,hx,qx,qb⟩:=hcut;have nI:=aj (aI sY.out qb);obtain⟨HT8,Hm,Hz,Hx⟩:=dv (HT.out.below nI.out) (Jm7.out.below qb) (Jz7.out.below qb) qx;have hzx:=qx.lt;clear qx qb Hb Hf Jm7 Jz7 Je7 JA7 JO7 xz sY;obtain⟨W8,tH⟩:∃W8,W8=wc:=⟨_,rfl⟩;subst tH;have Hb:=nI;clear nI;obtain⟨m0,m1,m2⟩:=Hm.out.c3;obtain⟨z0,z1,z2⟩:=Hz.out.c3;obtain⟨x0,x1,x2⟩:=Hx.out.c3;have Km0:=m0;have Km1:=m1;have Km2:=m2;have Kz0:=z0;have Kz1:=z1;have Kz2:=z2;have aFd:=Hm.out.lt;have aFv:=Hz.out.lt;have aFo:=Hx.out.lt;obtain⟨W9,NE,ai,Hv⟩:=CR W8 30 [ag ms,ah ml,af me,ag ms,ah ml,af me,ag (az (dN S)),ah (nt (dN S).natAbs),af (dE S),ag (az (dN S)),ah (nt (dN S).natAbs),af (dE S)];replace Hm:=kB Hm ai;replace Hz:=kB Hz ai;obtain⟨Hx,x0,x1,x2⟩:=gD Hx ai;obtain⟨m0,m1,m2⟩:=Hm.out.c3;obtain⟨z0,z1,z2⟩:=Hz.out.c3;have v0:W9.cell? ⟨W8.heap.size,0,none⟩=some (ag ms):=Hv.out.cell 0;have v1:W9.cell? ⟨W8.heap.size,1,none⟩=some (ah ml):=Hv.out.cell 1;have v2:W9.cell? ⟨W8.heap.size,2,none⟩=some (af me):=Hv.out.cell 2;have v3:W9.cell? ⟨W8.heap.size,3,none⟩=some (ag ms):=Hv.out.cell 3;have v4:W9.cell? ⟨W8.heap.size,4,none⟩=some (ah ml):=Hv.out.cell 4;have v5:W9.cell? ⟨W8.heap.size,5,none⟩=some (af me):=Hv.out.cell 5;have v6:W9.cell? ⟨W8.heap.size,6,none⟩=some (ag (az (dN S))):=Hv.out.cell 6;have v7:W9.cell? ⟨W8.heap.size,7,none⟩=some (ah (nt (dN S).natAbs)):=Hv.out.cell 7;have v8:W9.cell? ⟨W8.heap.size,8,none⟩=some (af (dE S)):=Hv.out.cell 8;have v9:W9.cell? ⟨W8.heap.size,9,none⟩=some (ag (az (dN S))):=Hv.out.cell 9;have v10:W9.cell? ⟨W8.heap.size,10,none⟩=some (ah (nt (dN S).natAbs)):=Hv.out.cell 10;have v11:W9.cell? ⟨W8.heap.size,11,none⟩=some (af (dE S)):=Hv.out.cell 11;replace Hb:=aW Hb ai;go_wp2_with fail;refine(HmZ.out _ _ Hv.out (HT.out.below Hb.out)).mono ?_;rintro e dw ⟨rfl,ai⟩;obtain⟨Hm,m0,m1,m2⟩:=gD Hm ai;obtain⟨Hz,z0,z1,z2⟩:=gD Hz ai;obtain⟨Hx,x0,x1,x2⟩:=gD Hx ai;replace Hv:=kB Hv ai;have v0:dw.cell? ⟨W8.heap.size,0,none⟩=some (ag ms):=Hv.out.cell 0;have v1:dw.cell? ⟨W8.heap.size,1,none⟩=some (ah ml):=Hv.out.cell 1;have v2:dw.cell? ⟨W8.heap.size,2,none⟩=some (af me):=Hv.out.cell 2;have v3:dw.cell? ⟨W8.heap.size,3,none⟩=some (ag ms):=Hv.out.cell 3;have v4:dw.cell? ⟨W8.heap.size,4,none⟩=some (ah ml):=Hv.out.cell 4;have v5:dw.cell? ⟨W8.heap.size,5,none⟩=some (af me):=Hv.out.cell 5;have v6:dw.cell? ⟨W8.heap.size,6,none⟩=some (ag (az (dN S))):=Hv.out.cell 6;have v7:dw.cell? ⟨W8.heap.size,7,none⟩=some (ah (nt (dN S).natAbs)):=Hv.out.cell 7;have v8:dw.cell? ⟨W8.heap.size,8,none⟩=some (af (dE S)):=Hv.out.cell 8;have v9:dw.cell? ⟨W8.heap.size,9,none⟩=some (ag (az (dN S))):=Hv.out.cell 9;have v10:dw.cell? ⟨W8.heap.size,10,none⟩=some (ah (nt (dN S).natAbs)):=Hv.out.cell 10;have v11:dw.cell? ⟨W8.heap.size,11,none⟩=some (af (dE S)):=Hv.out.cell 11;replace Hb:=aW Hb ai;go_wp2_with fail;refine(Fx _ _ _ 2 Y qY.out _ fZ.out zd (HT.out.below Hb.out)).mono ?_;rintro e ir ⟨rfl,ai⟩;obtain⟨Hm,m0,m1,m2⟩:=gD Hm ai;obtain⟨Hz,z0,z1,z2⟩:=gD Hz ai;obtain⟨Hx,x0,x1,x2⟩:=gD Hx ai;replace Hv:=kB Hv ai;have v0:ir.cell? ⟨W8.heap.size,0,none⟩=some (ag ms):=Hv.out.cell 0;have v1:ir.cell? ⟨W8.heap.size,1,none⟩=some (ah ml):=Hv.out.cell 1
     have v2:ir.cell? ⟨W8.heap.size,2,none⟩=some (af me):=Hv.out.cell 2;have v3:ir.cell? ⟨W8.heap.size,3,none⟩=some (ag ms):=Hv.out.cell 3;have v4:ir.cell? ⟨W8.heap.size,4,none⟩=some (ah ml):=Hv.out.cell 4;have v5:ir.cell? ⟨W8.heap.size,5,none⟩=some (af me):=Hv.out.cell 5;have v6:ir.cell? ⟨W8.heap.size,6,none⟩=some (ag (az (dN S))):=Hv.out.cell 6;have v7:ir.cell? ⟨W8.heap.size,7,none⟩=some (ah (nt (dN S).natAbs)):=Hv.out.cell 7;have v8:ir.cell? ⟨W8.heap.size,8,none⟩=some (af (dE S)):=Hv.out.cell 8;have v9:ir.cell? ⟨W8.heap.size,9,none⟩=some (ag (az (dN S))):=Hv.out.cell 9;have v10:ir.cell? ⟨W8.heap.size,10,none⟩=some (ah (nt (dN S).natAbs)):=Hv.out.cell 10;have v11:ir.cell? ⟨W8.heap.size,11,none⟩=some (af (dE S)):=Hv.out.cell 11;replace Hb:=aW Hb ai;clear ai Km0 Km1 Km2 Kz0 Kz1 Kz2;have aEv:=Hb.out.size;have aE9:=Hm.out.lt;have aFs:=Hz.out.lt;have aFn:=Hx.out.lt;have aFm:=Hv.out.lt;obtain⟨rc,aDh,ai,Hy⟩:=CR ir 30 (bG Y);replace Hm:=kB Hm ai;replace Hz:=kB Hz ai;replace Hx:=kB Hx ai;replace Hv:=kB Hv ai;obtain⟨m0,m1,m2⟩:=Hm.out.c3;obtain⟨z0,z1,z2⟩:=Hz.out.c3;obtain⟨x0,x1,x2⟩:=Hx.out.c3;have v0:rc.cell? ⟨W8.heap.size,0,none⟩=some (ag ms):=Hv.out.cell 0;have v1:rc.cell? ⟨W8.heap.size,1,none⟩=some (ah ml):=Hv.out.cell 1;have v2:rc.cell? ⟨W8.heap.size,2,none⟩=some (af me):=Hv.out.cell 2;have v3:rc.cell? ⟨W8.heap.size,3,none⟩=some (ag ms):=Hv.out.cell 3;have v4:rc.cell? ⟨W8.heap.size,4,none⟩=some (ah ml):=Hv.out.cell 4;have v5:rc.cell? ⟨W8.heap.size,5,none⟩=some (af me):=Hv.out.cell 5;have v6:rc.cell? ⟨W8.heap.size,6,none⟩=some (ag (az (dN S))):=Hv.out.cell 6;have v7:rc.cell? ⟨W8.heap.size,7,none⟩=some (ah (nt (dN S).natAbs)):=Hv.out.cell 7;have v8:rc.cell? ⟨W8.heap.size,8,none⟩=some (af (dE S)):=Hv.out.cell 8;have v9:rc.cell? ⟨W8.heap.size,9,none⟩=some (ag (az (dN S))):=Hv.out.cell 9;have v10:rc.cell? ⟨W8.heap.size,10,none⟩=some (ah (nt (dN S).natAbs)):=Hv.out.cell 10;have v11:rc.cell? ⟨W8.heap.size,11,none⟩=some (af (dE S)):=Hv.out.cell 11;obtain⟨y0,y1,y2⟩:=Hy.out.c3;replace Hb:=aW Hb ai;have IU:xN rc x ir.heap.size X Y 0:=⟨Hx.out,Hy.out,by omega⟩;have Cr:=ahc n 65 66 #[.pointer (some ⟨x,0,none⟩),.pointer (some ⟨ir.heap.size,0,none⟩)] #[.pointer (some ⟨x,0,none⟩),.pointer (some ⟨ir.heap.size,0,none⟩)] (AW X Y) (λk W=>xN W x ir.heap.size X Y k/\Bw w W) rc hn zo
      (enters_of Tryz.func65 zk rfl) (enters_of Tryz.func66 zk rfl) ⟨IU,Hb.out⟩
      (λk V hk hJ=>((azi x ir.heap.size (13*B+3000+2*C) k X Y V FX.out Gp.out zo zo (HT.out.below hJ.2) hJ.1).mono (λe V' h=>⟨h.1,hJ.1.below h.2,aI hJ.2 h.2⟩)))
      (λk V hk hJ=>((azm x ir.heap.size (13*B+3000+2*C) k X Y w V hJ.2 FX.out Gp.out zo zo HT.out zo zo hJ.1).mono (λe V' h=>⟨h.1,h.2.1,h.2.2⟩)))
     rw[qu.out,GP.out,GA.out]at Cr;have rR:=aj Cr;clear Cr IU;go_wp2_with fail;refine rR.out.mono ?_;rintro e FI ⟨rfl,_,_,ai⟩;replace Hb:=aj ai;go_wp2;exact bodyPost_ret (v:=.tuple #[af nv,af er]) (by simp[results,Tryz.results15,go_sem]) rfl ⟨rfl,Hb.out⟩
end Go.Proofs.YtbkopgdpcijfbaaGreatDoor
