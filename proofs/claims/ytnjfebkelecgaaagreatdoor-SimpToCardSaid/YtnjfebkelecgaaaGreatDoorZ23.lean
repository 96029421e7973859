/- Package simp: a form times a sum of shares. -/
import Derived.Test.YtnjfebkelecgaaaGreatDoorZ21
import Derived.Test.YtnjfebkelecgaaaGreatDoorZ22
import Derived.Test.YtnjfebkelecgaaaGreatDoorZ7
import Derived.Laws.IdiomStrings
import Derived.Test.YtnjfebkelecgaaaGreatDoorZ11
set_option linter.all false
set_option maxRecDepth 100000
set_option maxHeartbeats 16000000
namespace Go.Proofs.YtnjfebkelecgaaaGreatDoor
open Go.RowKit
attribute [local go_sem ↓] Go.wp_at_zero Go.wp_at_succ
def sV (w:World)(b:Nat)(l:List UInt8):Prop:=∀j (hj:j<l.length),w.cell? ⟨b,j,none⟩=some (.int .u8 (l[j].toNat:Int))/\w.frozen? ⟨b,j,none⟩=false
def sV.below {w w':World}{b:Nat}{l:List UInt8}(h:sV w b l)(hb:Bw w w'):sV w' b l:=λj hj=>⟨cell_later hb (h j hj).1,by
 have h1:=World.block_lt_of_cell? w _ (h j hj).1;rw[World.frozen?_of_block (a:=⟨b,j,none⟩) (w:=w) (hb.block b h1)]
 exact(h j hj).2⟩
def OV (l:List UInt8)(w:World):∃c W',(convert 9 84 (.string (bs l))).run Tryz.prog w=.ok (.slice (some ⟨w.heap.size,0,none⟩) l.length c) W'/\Bw w W'/\w.heap.size<W'.heap.size/\sV W' w.heap.size l:=by
 have h:=run_bytes_of_string (P:=Tryz.prog) w 9 84 5 (bs l) Tryz.underlying9 Tryz.underlying84 Tryz.underlying5;refine⟨_,_,by rw[h,gY],((Below.refl _ _).drew).alloc (Nat.le_refl _) _,by simp,λj hj=>?_⟩;have hs:j<(bs l).data.size:=by simpa[bs]using hj
 have hb:=bytesRow_at (bs l) (grownCap w (bs l).size 0 5) j hs;refine⟨?_,?_⟩
 . have:=World.cell?_alloc_mark w.drew (bytesRow (bs l) (grownCap w (bs l).size 0 5)) 5 ((bytesRow (bs l) (grownCap w (bs l).size 0 5)).size,(bytesRow (bs l) (grownCap w (bs l).size 0 5)).size+1) j;refine this.trans (hb.trans ?_);simp[bs]
 . have:=World.frozen?_alloc_mark w.drew (bytesRow (bs l) (grownCap w (bs l).size 0 5)) 5 (bytesRow (bs l) (grownCap w (bs l).size 0 5)).size ((bytesRow (bs l) (grownCap w (bs l).size 0 5)).size+1) j;refine this.trans ?_;have hlt:=(Array.getElem?_eq_some_iff.1 hb).1;simp;omega
def sV.back {w:World}{b:Nat}{l:List UInt8}(h:sV w b l)(cap:Nat):(convert 84 9 (.slice (some ⟨b,0,none⟩) l.length cap)).run Tryz.prog w=.ok (ai l) w:=
 run_convert_bytes_back (P:=Tryz.prog) w 84 9 5 ⟨b,0,none⟩ cap l Tryz.underlying84 Tryz.underlying5 Tryz.underlying9 (λj hj=>by
  have:=(h j hj).1;rw[show(⟨b,0,none⟩:Addr).add j=⟨b,j,none⟩by simp[Addr.add];intro h;exact h.symm]
  exact this)
def sV.set {w:World}{b:Nat}{l:List UInt8}(h:sV w b l)(j:Nat)(hj:j<l.length)(u:UInt8):sV (w.setCell ⟨b,j,none⟩ (.int .u8 (u.toNat:Int))) b (l.set j u):=by
 intro i hi;have hi2:i<l.length:=by simpa using hi
 by_cases e:j=i
 . subst e;refine⟨?_,?_⟩
   . rw[World.cell?_setCell_same _ _ _ (h j hj).1];simp
   . rw[World.frozen?_setCell];exact(h j hj).2
 . refine⟨?_,?_⟩
   . rw[World.cell?_setCell_other _ _ _ _ (show(⟨b,j,none⟩:Addr)≠⟨b,i,none⟩from λh=>e (Addr.mk.inj h).2.1),(h i hi2).1];simp[e]
   . rw[World.frozen?_setCell];exact(h i hi2).2
def afX (c:Int)(n:Nat)(hc:c=n)(h:n<=1048576)(w:World):
 (Instr.makeSlice 78 (ah c) (ah c)).run Tryz.prog w=.ok (.slice (some ⟨w.heap.size,0,none⟩) n n) (w.alloc (.cells (dC (List.replicate n 0)).toArray 48)):=by
 subst hc;obtain⟨i0,hi,hz0,hz1,hz2⟩:=info_parts Tryz.aCm;rw[run_make (P:=Tryz.prog) w 78 48 i0 _ Tryz.underlying78 hi hz0 .i64 .i64 n n zo zo (by rw[hz2];omega) zo];simp only[Int.toNat_natCast,hz1];rw[afQ]
def auY (V D:Nat)(hV:1<=V)(hV2:V<=8)(hD:D<=20)(hc:cnt V D<=512):Kc (V:Int) (D:Int)=bZ (V+1) D:=by unfold Kc;rw[if_pos ⟨by omega,by omega,by omega,by omega,by simpa using hc⟩];simp only[Int.toNat_natCast]
def axC (V D N M A B:Nat)(cs L:List Dyadic)(hV:1<=V)(hV2:V<=8)(hD:D<20)(hN:cnt V D=N)(hM:cnt V (D+1)=M)(wR:N<=512)(hcm:∀c∈cs,Sm A c)(vE:∀x∈L,Sm B x):
 ∃DS:Nat->Nat->List Dyadic,DS 0 0=List.replicate M 0/\(∀k,k<N->DS k (V+1)=DS (k+1) 0)/\DS N 0=sP V D cs L/\
  ∀k j,k<N->j<V+1->(DS k j).length=M/\(∀d∈DS k j,Sm (A+B+4608) d)/\
   ∃q,place ((bZ (V+1) (D+1)).map λx=>x.map UInt8.ofNat) M ((gm ((bZ (V+1) D).getD k []) j).map UInt8.ofNat)=q/\q<M/\DS k (j+1)=(DS k j).set q ((DS k j).getD q 0+cs.getD k 0*L.getD j 0):=by
 obtain⟨R,hR⟩:=aI (bZ (V+1) D);obtain⟨R',hR'⟩:=aI (bZ (V+1) (D+1));have iw:R.length=N:=by rw[<-hR,lv];exact hN
 have Ih:R'.length=M:=by rw[<-hR',lv];exact hM
 have hmem:∀x∈R,x.length=V+1/\x.sum=D:=λx hx=>(qP V D x).1 (by rw[hR];exact hx);have adT:∀x∈R,∀t,t<V+1->gm x t∈R':=λx hx t ht=>by obtain⟨h1,h2⟩:=hmem x hx;rw[<-hR'];exact(qP V (D+1) _).2 ⟨by rw[Vw];exact h1,by rw[afk _ _ zo];omega⟩
 obtain⟨f,hf⟩:=aI (place (R'.map λx=>x.map UInt8.ofNat) M);have aex:∀x∈R',∃q,∃h:q<R'.length,R'[q]=x/\f (x.map UInt8.ofNat)=q:=λx hx=>by have:=auD (n:=V) (s:=D+1) zo (x:=x) (by rw[hR'];exact hx);rw[hR']at this;rw[<-hf,<-Ih];exact this
 have hnd:R'.Nodup:=by rw[<-hR'];exact OL V (D+1)
 obtain⟨P,hP⟩:∃P:Nat->ja,P=λk=>uG (R.getD k []) (cs.getD k 0) λt=>L.getD t 0:=⟨_,rfl⟩;have hrow:∀k,k<N->R.getD k []∈R:=λk hk=>by
  have:R.getD k []=R[k]'zo:=by simp[show k<R.length by omega]
  rw[this];exact List.getElem_mem _
 have Tt:∀k,k<N->P k=(List.range (V+1)).map λt=>(gm (R.getD k []) t,cs.getD k 0*L.getD t 0):=λk hk=>by
  rw[hP];show uG _ _ _=_
  unfold uG;rw[(hmem _ (hrow k hk)).1]
 have hsm:∀k t,Sm (A+B) (cs.getD k 0*L.getD t 0):=λk t=>Sm.mul (sA hcm k) (sA vE t);rw[hR,hR',hf];refine⟨λk j=>mB f (List.replicate M 0) (uC P k++(List.range j).map λt=>(gm (R.getD k []) t,cs.getD k 0*L.getD t 0)),rfl,λk hk=>?_,?_,λk j hk hj=>⟨?_,?_,?_⟩⟩
 . show mB _ _ _=mB _ _ _
   rw[agz,Tt k hk];simp
 . show mB _ _ _=_
   have e:uC P N=Cy R cs λt=>L.getD t 0:=by rw[hP,<-iw];rfl
   rw[List.range_zero,List.map_nil,List.append_nil,e,<-Ih,ava R' hnd f aex _ (ahy (λx hx=>(hmem x hx).1) adT)];unfold sP;rw[hR,hR']
 . show(mB _ _ _).length=M
   rw[au8];simp
 . intro d hd;have hlen:(uC P k++(List.range j).map λt=>(gm (R.getD k []) t,cs.getD k 0*L.getD t 0)).length<=4608:=by have h1:=agy P 9 N k zo (λk hk=>by rw[Tt k hk];simp;omega);rw[List.length_append,List.length_map,List.length_range];have:=Nat.mul_le_mul_right 9 (show k+1<=512 by omega);omega
   refine(au9 (B:=A+B) f (List.replicate M 0) _ (λd hd=>by rw[List.eq_of_mem_replicate hd];exact Sm.zero _) (λp hp=>?_) d hd).mono zo;rw[List.mem_append]at hp;rcases hp with hp|hp
   . refine agx P N k zo (Q:=λp=>Sm (A+B) p.2) (λk hk p hp=>?_) p hp;rw[Tt k hk,List.mem_map]at hp;obtain⟨t,_,rfl⟩:=hp;exact hsm k t
   . rw[List.mem_map]at hp;obtain⟨t,_,rfl⟩:=hp;exact hsm k t
 . obtain⟨q,hq,hq2,pk⟩:=aex _ (adT _ (hrow k hk) j hj);refine⟨q,pk,by omega,?_⟩;show mB _ _ _=_
   rw[List.range_succ,List.map_append,<-List.append_assoc,au6];simp only[List.map_cons,List.map_nil];show tH _ _ _=_
   unfold tH;simp only[pk]
def Ke (V D N:Nat)(hV:1<=V)(hV2:V<=8)(hD:D<=20)(hN:cnt V D=N)(wR:N<=512)(w:World):
 Cl 21 #[ah (V:Int),ah (D:Int)] w λe w'=>∃a cap,e=.returned (.slice a N cap)/\At w' a ((bZ (V+1) D).map λx=>Value.string (bs (x.map UInt8.ofNat)))/\(∀b o,a=some ⟨b,o,none⟩->w.heap.size<=b)/\Bw w w':=by
 have h:=auZ (V:Int) (D:Int) w;rw[auY V D hV hV2 hD zo,lv,hN]at h;exact h
def ahz (V D N M A B:Nat)(aN:Option Addr)(Dj:Nat)(cs:List Dyadic)(aL:Option Addr)(aaK:Nat)(ls:List Raw)(L:List Dyadic)(v1:Nat)(hv1:V+1=v1)(d1:Nat)(hd1:D+1=d1)(w:World)
 (hV:1<=V) (hV2:V<=8) (hD:D<20) (hN:cnt V D=N) (hM:cnt V (D+1)=M) (wR:N<=512) (hM5:M<=512) (hcs:cs.length=N) (hls:ls.length=v1) (hL:ls.map aJ=L)
 (haN:At w aN (dC cs)) (haL:At w aL (ls.flatMap bK)) (hcm:∀c∈cs,Sm A c) (vE:∀x∈ls,Fit B x) (SV:A+B<=100000000) (hT:aR w):
 Cl 87 #[.agg #[.slice aN N Dj,ah (V:Int),ah (D:Int)],.slice aL v1 aaK] w λe w'=>∃bO,e=.returned (.agg #[.slice (some ⟨bO,0,none⟩) M M,ah (V:Int),ah (d1:Int)])/\
  w.heap.size<=bO/\At w' (some ⟨bO,0,none⟩) (dC (sP V D cs L))/\Bw w w':=by
 have hLs:∀x∈L,Sm B x:=by intro x hx;rw[<-hL]at hx;obtain⟨r,hr,rfl⟩:=List.mem_map.1 hx;exact(vE r hr).2
 obtain⟨DS,hd0,BC,Nn,hds⟩:=axC V D N M A B cs L hV hV2 hD hN hM wR hcm hLs;have hp1:=λW=>Ke V (D+1) M hV hV2 zo hM hM5 W;have hp0:=λW=>Ke V D N hV hV2 zo hN wR W;obtain⟨R,hR⟩:=aI (bZ (V+1) D);obtain⟨R',hR'⟩:=aI (bZ (V+1) (D+1));have iw:R.length=N:=by rw[<-hR,lv];exact hN
 have Ih:R'.length=M:=by rw[<-hR',lv];exact hM
 have hmem:∀x∈R,x.length=v1/\∀a∈x,a<=20:=λx hx=>by have h:=(qP V D x).1 (by rw[hR];exact hx);exact⟨by omega,λa ha=>by have:=JO ha;omega⟩
 have aea:∀x∈R',x.length=v1:=λx hx=>by have h:=(qP V (D+1) x).1 (by rw[hR'];exact hx);omega
 rw[hR]at hp0 hds;rw[hR',hd1]at hp1;rw[hR']at hds;obtain⟨f,hf⟩:=aI (place (R'.map λx=>x.map UInt8.ofNat) M);rw[hf]at hds
 have hpl:=λa cap W=>λ(h:At W a (R'.map λx=>Value.string (bs (x.map UInt8.ofNat))))=>auF a cap M (R'.map λx=>x.map UInt8.ofNat) (by simpa using Ih) hM5 (by
  intro l hl;obtain⟨x,hx,rfl⟩:=List.mem_map.1 hl
  rw[List.length_map,aea x hx];omega) W (by rw[List.map_map];exact h)
 rw[hf]at hpl;have hwD:IntKind.i64.wrap ((D:Int)+1)=(d1:Int):=by rw[IntKind.wrap_i64];omega
 have hmk:=afX (M:Int) M rfl zo;obtain⟨YF,CP,YJ,Lf,kK,rW,oM,Zv,sX,HL,FH,vX⟩:=fu hd0 BC Nn hds hp1 hp0 hpl hmem iw hL hls hcs;obtain⟨YE,Lp,KQ,KP,HT,yq,Hd1,lK⟩:=om hcm vE haN haL hT hv1 hd1 hmk;clear hd0 BC Nn hds hp1 hp0 hpl hmem aea iw Ih hR hR' hf hL hls hcs hcm vE haN haL hT hLs hN hM hv1 hd1 hmk;obtain⟨W,cP,ag,aC⟩:=jq w 121 [.slice aN N Dj,ah (V:Int),ah (D:Int)] 121 [.slice none 0 0,ah 0,ah 0];have HFN:Hid (At W aN (dC cs)):=KQ.out.below ag.1.out;have HFL:Hid (At W aL (ls.flatMap bK)):=KP.out.below ag.1.out;have HU:Hid (aR W):=HT.out.below ag.1.out;go_enter Tryz.func87,Tryz.ntmps87;go_wp2_with fail;refine(kK.out _).mono ?_;rintro e w1 ⟨a1,anV,rfl,jf,aqR,au⟩;obtain⟨ag,aC⟩:=qX au (HFN.an<|HFL.an<|HU.an ag);have vT:=az jf;clear jf aqR;go_wp2_with fail;refine(oM.out a1 anV _ vT.out).mono ?_;rintro e w2 ⟨bm,rfl,⟨hmp,Ix⟩,au⟩;obtain⟨ag,aC⟩:=qX au ag;have uL:Hid (Mp w2 bm M f):=hmp;clear hmp vT;have ajx:Hid (bm<w2.heap.size):=uL.out.lt;have xR:=ag.2.2.2.1.out.size;have lg:=ag.2.2.2.2.1.out.lt;have lr:=ag.2.2.2.2.2.1.out.lt;go_upto_region 3 with fail
 go_cut[7] (λs7 wx=>∃bO bB:Nat,s7=.pointer (some ⟨bO,0,none⟩)/\w2.heap.size<=bO/\w2.heap.size<=bB/\bO≠bB/\aH wx bO 121 [.slice (some ⟨bB,0,none⟩) M M,ah (V:Int),ah (d1:Int)]/\aH wx bB 48 (dC (List.replicate M 0))/\Bw w2 wx);case first=>
  have hmk:=lK.out;clear uL YF CP YJ Lf kK rW oM Zv sX HL FH vX YE Lp KQ KP HT lK;obtain⟨w0,hw0⟩:∃w0,w0=w:=⟨_,rfl⟩;subst hw0;obtain⟨w,JA⟩:∃w,w=w2:=⟨_,rfl⟩;subst JA;skip
  have Hb:=hbz w;have Hg:=ag.2.2.2.2.1;obtain⟨ag,aC⟩:=qZ (Hg.an trivial);obtain⟨Hg,_⟩:=ag;obtain⟨g0,g1,g2⟩:=Hg.out.c3;have fy:∀w',dJ w w'->aV w' (w0.heap.size) 0 (.slice aN N Dj)/\aV w' (w0.heap.size) 1 (ah (V:Int))/\aV w' (w0.heap.size) 2 (ah (D:Int)):=λw' h=>⟨cell_later h g0,cell_later h g1,cell_later h g2⟩;refine uI (λw'=>dJ w w') (λi=>Nat.blt i 10) 9 121 [.slice none 0 0,ah 0,ah 0] [(0,true),(1,true),(3,true),(4,true),(5,true),(6,true),(7,true),(2,false),(8,true)] [(10,false)] zk zk rfl rfl rfl zk zk zc zc (λK a w h=>uy rfl rfl (λK' hK=>by go_simp;exact hK _ _ h)) ?_;clear g0 g1 g2 Hg;intro wf au;replace Hb:=az (aO Hb.out au);refine⟨Hb.out,?_⟩;iterate 7 (refine jZ rfl rfl (v:=?_) (λw' hw'=>?_) ?_;rotate_left;(focus have hw':=fy w' hw';obtain⟨q0,q1,q2⟩:=hw';go_simp;try with_reducible rfl);try simp only[UU])
  refine jN rfl rfl (λK hK=>?_);go_simp;have aBk:=Hb.out.size;refine hK _ _ zl (λWn au hb2=>?_);have qnn:=az ((aH.new wf 48 (dC (List.replicate M 0))).below hb2);replace Hb:=az (aO Hb.out au);refine⟨Hb.out,?_⟩;clear au hb2 hK K;have pU:=qnn;clear qnn;try simp only[UU]
  refine jZ rfl rfl (v:=?_) (λw' hw'=>?_) ?_;rotate_left;(focus go_simp;try with_reducible rfl);try simp only[UU]
  intro agi hb0 qx;have QK:=az qx;clear qx;obtain⟨oo0,azv,oo1,azw,oo2,azx⟩:=QK.out.g3;try simp only[U1]
  try simp only[Act.put,U2,U3]
  refine aY rfl rfl (λK hK=>?_);go_simp;refine hK _ _ (λh=>absurd h zd) ?_;try simp only[UU]
  simp only[bP];go_wp2_with fail;go_meet;have hne:agi≠wf.heap.size:=λe=>by have h1:=QK.out;rw[e]at h1;have h2:=h1.symm.trans pU.out;simp at h2
  exact⟨agi,wf.heap.size,rfl,hb0,by omega,hne,((QK.out.set 0 _).set 1 _).set 2 _,((pU.out.so _ _ hne _).so _ _ hne _).so _ _ hne _,((Hb.out.setCell zp _).setCell zp _).setCell zp _⟩
 case rest=>
  obtain⟨bO,bB,rfl,h1,h2,h3,qO,qB,qb⟩:=hcut;obtain⟨ag,aC⟩:=qX qb (uL.an ag);skip
  clear qb;have HO:Hid (aH wc bO 121 [.slice (some ⟨bB,0,none⟩) M M,ah (V:Int),ah (d1:Int)]):=qO;have HB:Hid (aH wc bB 48 (dC (List.replicate M 0))):=qB;clear qO qB;have lO:=HO.out.lt;have lB:=HB.out.lt;go_wp2_with fail;refine(rW.out _).mono ?_;rintro e w3 ⟨a0,Mf,rfl,nX,Iu,au⟩;obtain⟨ag,aC⟩:=qX au (HO.an<|HB.an ag);have td:=az nX;have neB:∀b,b≠bB->¬(λb=>b=bB) b:=λb h=>h;have nN:∀b o,aN=some ⟨b,o,none⟩->cs≠[]->b≠bB:=by intro b o e h0;subst e;have:=KQ.out.lt (by intro h;have:=congrArg List.length h;rw[Mm]at this;simp at this;exact h0 (List.length_eq_zero_iff.1 zo));omega
  have nL:∀b o,aL=some ⟨b,o,none⟩->ls≠[]->b≠bB:=by intro b o e h0;subst e;have:=KP.out.lt (by intro h;have:=congrArg List.length h;rw[nU bK 3 (λ_=>rfl)]at this;simp at this;exact h0 (List.length_eq_zero_iff.1 zo));omega
  have n0:∀b o,a0=some ⟨b,o,none⟩->b≠bB:=λb o e=>by have:=Iu b o e;omega
  have nM:bm≠bB:=by rintro rfl;have h4:bm<w2.heap.size:=ajx.out;omega
  have nT:¬(0=bB):=by have:=HT.out.lt;omega
  obtain⟨HnN,HnL,nS⟩:=cE nN nL n0;have Pe:=ag.2.2.2.2.2.2.1.out.size;clear nX Iu nN nL n0;have lW:aH w3 bB 48 (dC (DS 0 0)):=by rw[YF.out];exact ag.2.1.out
  have uJ:=az lW;clear lW;obtain⟨E0,E1,E2,E3,E4,E5,E6,E7⟩:=om ag.2.2.2.2.2.2.2.1.out ag.2.2.2.2.2.2.2.2.1.out ag.2.2.2.1.out ag.2.2.2.2.1.out ag.2.2.1.out ag.1.out ag.2.2.2.2.2.1.out ag.2.2.2.2.2.2.1.out;clear KQ KP;go_wp2_with fail;go_loopw[36] (λx wr=>∃k:Nat,k<=N/\x=ah (k:Int)/\aH wr bB 48 (dC (DS k 0))/\Chg (λb=>b=bB) w3 wr) (λx _=>N-(intOf x).toNat);case atStart=>exact⟨0,Nat.zero_le _,rfl,uJ.out,Chg.refl _ _⟩
  case round=>
   clear uJ;obtain⟨k,hk,rfl,pB,pg⟩:=hrel;by_cases hlt:k<N
   . have hk2:k<R.length:=by rw[sX.out];exact hlt
     obtain⟨xk,hxk⟩:∃x,R[k]=x:=⟨_,rfl⟩;obtain⟨hxl,ut⟩:=Zv.out _ (List.getElem_mem hk2);have jK:R.getD k []=xk:=by simp[hk2,hxk]
     rw[hxk]at hxl ut;have hat:=td.out.chg pg (λb o e=>nS.out b o e);have vt:At wr a0 (R.flatMap λx=>[Value.string (bs (x.map UInt8.ofNat))]):=by rw[Bd];exact hat
     obtain⟨b0,o0,hab,yS⟩:=vt.elem (f:=λx=>[Value.string (bs (x.map UInt8.ofNat))]) (sz:=1) (λ_=>rfl) zd k hk2;obtain⟨l8,jX⟩:∃l,xk.map UInt8.ofNat=l:=⟨_,rfl⟩;have hc0:wr.cell? ⟨b0,o0+k,none⟩=some (ai l8):=by have:=yS 0 zd;rw[hxk,jX]at this;simpa using this
     have bC:=uu N Mf k (k:Int) hab hlt rfl;rw[Nat.mul_one]at bC;have ze:l8.length=v1:=by rw[<-jX,List.length_map];exact hxl
     obtain⟨gV,eQ,Lm,al1,Rp,uW,wy⟩:=kH pg pB jX ut hxl jK ze;clear pg pB jX ut hxl jK hat vt yS hab hxk ze;obtain⟨wk,hwk⟩:∃wk,wk=wr:=⟨_,rfl⟩;subst hwk;go_wp2_with fail;go_loopw[43] (λx wr=>∃j:Nat,j<=v1/\x=ah (j:Int)/\aH wr bB 48 (dC (DS k j))/\Chg (λb=>b=bB) w3 wr) (λx _=>v1-(intOf x).toNat);case atStart=>exact⟨0,Nat.zero_le _,rfl,eQ.out,gV.out⟩
     case round=>
      clear hc0 bC eQ gV;obtain⟨j,hj,rfl,pB,pg⟩:=hrel;by_cases bj:j<v1
      . have JG:j<ls.length:=by rw[FH.out];exact bj
        have JI:k<(cs.map canon).length:=by rw[List.length_map,vX.out];exact hlt
        have jV:j<V+1:=by rw[yq.out];exact bj
        obtain⟨hlen,TY,qv,hq1,hq2,pk⟩:=Lf.out k j hlt jV;obtain⟨s,m,e,hx⟩:=na (ls[j]);obtain⟨c,hc⟩:=aI (cs.getD k 0);obtain⟨X,hX⟩:=aI (aJ (s,m,e));have eK:=Lp.out _ (List.getElem_mem JG);rw[hx]at eK;have hLj:L.getD j 0=X:=by rw[<-HL.out,<-hX,<-hx];simp[List.getD_eq_getElem?_getD,JG]
        have hcc:(cs.map canon)[k]=(jP c):=by
         have:cs.getD k 0=cs[k]'(by simpa using JI):=by simp[List.getD_eq_getElem?_getD,show k<cs.length by simpa using JI]
         rw[List.getElem_map,<-this,hc];rfl
        have ug:Sm A c:=by rw[<-hc];exact sA YE.out k
        rw[hc,hLj]at pk;rw[uW.out]at hq1;obtain⟨E,hE⟩:=aI (c*X);rw[hE]at pk;obtain⟨ds,adx⟩:=aI (DS k j);obtain⟨ds',TX⟩:∃ds,DS k (j+1)=ds:=⟨_,rfl⟩;rw[adx]at hlen TY pk pB;rw[TX]at pk;have Va:qv<ds.length:=by omega
        have hgd:ds.getD qv 0=ds[qv]:=by simp[List.getD_eq_getElem?_getD,Va]
        obtain⟨D9,yJ⟩:=aI (ds[qv]+E);rw[hgd,yJ]at pk;have gF:=az (eK.mono (show B<=A+B by omega));have CQ:Hid (Fit (A+B) (jP c)):=(ug.mono (show A<=A+B by omega)).fit zo;have HmE:Hid (aJ (jP c) *aJ (s,m,e)=E):=by show aJ (canon c) *_=E;rw[cJ,hX];exact hE
        have ab4:Sm (A+B) E:=by rw[<-hE,<-hX];exact Sm.mul ug eK.2
        have HfE:Hid (Fit (A+B+4608) (jP E)):=(ab4.mono zo).fit zo;have HdE:Hid (ds[qv]+aJ (jP E)=D9):=by show ds[qv]+aJ (canon E)=D9;rw[cJ];exact yJ
        have Qb:Hid (Sm (A+B+4608) ds[qv]):=TY _ (List.getElem_mem Va);obtain⟨jQ,Db,ajL⟩:=cE hlen pk TX;obtain⟨bN,oN,acX,n0,n1,n2⟩:=(show At wr aN ((cs.map canon).flatMap bK)by rw[<-sk];exact E2.out.chg pg (λb o e=>HnN.out b o e (by intro h0;rw[h0]at JI;simp at JI))).num k JI hcc;obtain⟨bL,oL,acW,u0,u1,u2⟩:=(E3.out.chg pg (λb o e=>HnL.out b o e (by intro h0;rw[h0]at JG;simp at JG))).num j JG hx;have ixN:=Vt N Dj k (k:Int) acX hlt rfl;have ixL:=nD v1 aaK j (j:Int) acW bj rfl;have JF:j<l8.length:=by rw[wy.out];exact bj
        have hux:l8[j].toNat<=20:=by
         have jxk:j<xk.length:=by rw[Rp.out];exact bj
         have e8:l8[j]=UInt8.ofNat xk[j]:=by
          have:l8[j]?=(xk.map UInt8.ofNat)[j]?:=by rw[Lm.out]
          rw[List.getElem?_eq_getElem JF,List.getElem?_eq_getElem (by simpa using jxk)]at this;simpa using this
         have h20:=al1.out _ (List.getElem_mem jxk);rw[e8];simp;omega
        have hu1:(l8[j]+1).toNat=l8[j].toNat+1:=by rw[UInt8.toNat_add];simp;omega
        obtain⟨l9,ND⟩:∃l,l8.set j (l8[j]+1)=l:=⟨_,rfl⟩;have adZ:l9.length=v1:=by rw[<-ND,List.length_set];exact wy.out
        have hkey:f l9=qv:=by rw[<-hq1,<-ar7 xk j (by rw[Rp.out];exact bj),Lm.out,<-ND];congr 2;simp[List.getD_eq_getElem?_getD,JF]
        obtain⟨p8,zz⟩:∃p:Int,(l8[j].toNat:Int)=p:=⟨_,rfl⟩;obtain⟨q8,hq8⟩:∃q:Int,((l8[j]+1).toNat:Int)=q:=⟨_,rfl⟩;have hw8:IntKind.u8.wrap (p8+1)=q8:=by rw[IntKind.wrap_u8];omega
        have GZ:M<9223372036854775808:=by omega
        have Hg:Hid (aH wr w.heap.size 121 [.slice aN N Dj,ah (V:Int),ah (D:Int)]):=pg.blk E0.out zo;have Ho:Hid (aH wr bO 121 [.slice (some ⟨bB,0,none⟩) M M,ah (V:Int),ah (d1:Int)]):=pg.blk E5.out zo;have pU:Hid (bA wr bN (oN+k*3) (bY c)):=iR n0 n1 n2;have Hu:Hid (bA wr bL (oL+j*3) [aj s,ai m,ah e]):=iR u0 u1 u2;have hMp:Mp wr bm M f:=pg.mp E4.out zo;have hTb:aR wr:=pg.tab E6.out nT;obtain⟨gV,eQ,akp,Qt,Ze,QL,Hq8⟩:=kH pg pB hkey ND adZ zz hq8;have lbB:=pB.lt;clear pg pB hkey ND adZ hq1 pk TX hlen TY hgd yJ hE hX hLj hcc hc hx eK ug ab4 n0 n1 n2 u0 u1 u2 acX acW zz hq8 hu1 hux adx;have Hb:=hbz wr;obtain⟨ag,aC⟩:=qZ (Hg.an<|Ho.an<|pU.an<|Hu.an trivial);have uL:Hid (Mp wr bm M f):=hMp;have eG:Hid (aR wr):=hTb;have sW:Hid (aH wr bB 48 (dC ds)):=eQ.out;clear hMp hTb eQ;have u0:wr.cell? ⟨bL,oL+j*3,none⟩=some (aj s):=ag.2.2.2.1.out.cell 0 zm;have u2:wr.cell? ⟨bL,oL+j*3+2,none⟩=some (ah e):=ag.2.2.2.1.out.cell 2 zm;have u1:wr.cell? ⟨bL,oL+j*3+1,none⟩=some (ai m):=ag.2.2.2.1.out.cell 1 zm;have P0:=u0;have P1:=u1;have P2:=u2;obtain⟨W4,rD,bi,ag,aC⟩:=cM wr (Hb.an<|uL.an<|eG.an<|sW.an ag) 48 [aj s,ai m,ah e];obtain⟨cb,W5,hcv,dK,hs5,jU⟩:=OV l8 W4;rw[wy.out]at hcv;have xB:=rK v1 cb j (j:Int) (rfl:(some ⟨W4.heap.size,0,none⟩:Option Addr)=_) bj rfl;rw[Nat.zero_add,Nat.mul_one]at xB;have m0:W5.cell? ⟨W4.heap.size,j,none⟩=some (.int .u8 p8):=by rw[(jU j JF).1,QL.out]
        have mf:W5.frozen? ⟨W4.heap.size,j,none⟩=false:=(jU j JF).2;have TM:=jU.set j JF (l8[j]+1);rw[Qt.out,Hq8.out]at TM;obtain⟨YB,eP⟩:=aU TM dK;clear jU TM dK;go_wp2_with fail;refine eO (λW6=>sV W6 W4.heap.size l9/\Bw W4 W6) ⟨YB.out,eP.out.setCell (Nat.le_refl _) _⟩ ?_;rintro W6 ⟨qM,wY⟩;have HqM:=az qM;obtain⟨ag,aC⟩:=qX wY ag;skip
        clear qM wY m0 mf hcv YB eP P0 P1 P2 hs5;have hback:∀w',dJ W6 w'->(convert 84 9 (.slice (some ⟨W4.heap.size,0,none⟩) v1 cb)).run Tryz.prog w'=.ok (ai l9) w':=λw' h=>by have:=(HqM.out.below h).back cb;rw[Ze.out]at this;exact this
        have ad5:∀w',dJ W6 w'->(Instr.lookup 160 (.map (some bm)) (ai l9) false).run Tryz.prog w'=.ok (ah (qv:Int)) w':=λw' h=>by have:=(ag.2.2.1.out.below h).look l9 (by simp[maxLen];have:=Ze.out;have:=yq.out;omega);rw[akp.out]at this;exact this
        obtain⟨Hy,Hb,uL,eG,sW,Hg,Ho,pU,Hu,_⟩:=ag;obtain⟨g0,g1,g2⟩:=Hg.out.c3;obtain⟨o0,o1,o2⟩:=Ho.out.c3;obtain⟨Es,Et,Eu⟩:=pU.out.w3;obtain⟨u0,u1,u2⟩:=Hu.out.w3;obtain⟨y0,y1,y2⟩:=Hy.out.c3;have fy:∀w',dJ W6 w'->aV w' bO 0 (.slice (some ⟨bB,0,none⟩) M M)/\aV w' (w.heap.size) 0 (.slice aN N Dj)/\aV w' bN (oN+k*3) (aj (aK (dN c)))/\aV w' bN (oN+k*3+1) (ai (nt (dN c).natAbs))/\aV w' bN (oN+k*3+2) (ah (dE c))/\aV w' (wr.heap.size) 0 (aj s)/\aV w' (wr.heap.size) 1 (ai m)/\aV w' (wr.heap.size) 2 (ah e)/\(convert 84 9 (.slice (some ⟨W4.heap.size,0,none⟩) v1 cb)).run Tryz.prog w'=.ok (ai l9) w'/\(Instr.lookup 160 (.map (some bm)) (ai l9) false).run Tryz.prog w'=.ok (ah (qv:Int)) w':=λw' h=>⟨cell_later h o0,cell_later h g0,cell_later h Es,cell_later h Et,cell_later h Eu,cell_later h y0,cell_later h y1,cell_later h y2,hback w' h,ad5 w' h⟩;have cg:Hid (dJ W6 W6):=Below.refl _ _;refine ez (λw'=>dJ W6 w') (λi=>Nat.blt i 14) [(0,true),(1,true),(2,true),(3,true),(4,true),(5,true),(6,true),(7,true),(8,true),(9,true),(10,true),(11,true),(12,false),(13,false),(14,false)] zk zk rfl zk zc cg.out.drew ?_;iterate 12 (refine JZ rfl rfl (v:=?_) (λw' hw'=>?_) ?_;rotate_left;(focus have hw':=fy w' hw';obtain⟨q0,q1,q2,q3,q4,q5,q6,q7,q8,q9⟩:=hw';go_simp;try with_reducible rfl);try simp only[UU])
        refine aY rfl rfl (λK hK=>?_);go_simp;refine hK _ _ (λ_=>by first|exact cg.out.alloc _|exact(cg.out.alloc _).drew|exact(cg.out.drew).alloc _) ?_;try simp only[UU]
        refine cL (λW7=>aH W7 (W6.heap.size) 48 [aj (aK (dN c)),ai (nt (dN c).natAbs),ah (dE c),aj s,ai m,ah e]/\Bw W6 W7) (by first|exact fI|exact fJ) ?_;rintro W7 ⟨qm1,au⟩;have aBj:=Hg.out.lt;have aBl:=Ho.out.lt;have aBu:=Hy.out.lt;replace cg:=az (cg.out.below au);replace Hg:=kB Hg au;replace Ho:=kB Ho au;replace pU:=kW pU au;replace Hu:=kW Hu au;replace uL:=kM uL au;replace eG:=kT eG au;replace sW:=kB sW au;replace Hy:=kB Hy au;have CU:=az qm1;clear qm1;obtain⟨g0,g1,g2⟩:=Hg.out.c3;obtain⟨o0,o1,o2⟩:=Ho.out.c3;obtain⟨Es,Et,Eu⟩:=pU.out.w3;obtain⟨u0,u1,u2⟩:=Hu.out.w3;obtain⟨y0,y1,y2⟩:=Hy.out.c3;obtain⟨m10,m11,m12,Ol,Om,m15⟩:=CU.out.c6;replace Hb:=bD Hb au;refine aY rfl rfl (λK hK=>?_);go_simp;with_reducible refine(Dq _ _ _ _ _ _ E (A+B) HmE.out _ 2 _ _ CQ.out gF.out zo CU.out (by first|exact eG.out|exact aR.drew eG.out|exact aR.alloc eG.out _|exact aR.drew (aR.alloc eG.out _) |exact aR.alloc (aR.drew eG.out) _)).mono ?_
        rintro e w8 ⟨rfl,hq⟩;have au:Bw W7 w8:=by first|exact hq|exact df hq
        clear g0 g1 g2 o0 o1 o2 Es Et Eu u0 u1 u2 y0 y1 y2 m10 m11 m12 Ol Om m15;replace cg:=az (cg.out.below au);obtain⟨Hg,g0,g1,g2⟩:=uw Hg au;obtain⟨Ho,o0,o1,o2⟩:=uw Ho au;replace pU:=kW pU au;replace Hu:=kW Hu au;replace uL:=kM uL au;replace eG:=kT eG au;replace sW:=kB sW au;obtain⟨Hy,y0,y1,y2⟩:=uw Hy au;obtain⟨CU,m10,m11,m12,Ol,Om,m15⟩:=JH CU au;obtain⟨Es,Et,Eu⟩:=pU.out.w3;obtain⟨u0,u1,u2⟩:=Hu.out.w3;replace Hb:=bD Hb au;refine hK _ _ (λ_=>cg.out) ?_;try simp only[UU]
        refine aY rfl rfl (λK hK=>?_);go_simp;with_reducible refine(ahf bB M qv (A+B+4608) ds (aK (dN E)) (nt (dN E).natAbs) (dE E) D9 _ jQ.out sW.out Va HfE.out Qb.out zo HdE.out (by first|exact eG.out|exact aR.drew eG.out|exact aR.alloc eG.out _|exact aR.drew (aR.alloc eG.out _) |exact aR.alloc (aR.drew eG.out) _)).mono ?_
        rintro e' w9 ⟨⟨rv,rfl⟩,qB,qg⟩;refine hK _ _ (λh=>absurd h zd) ?_;simp only[bP];have AE:=az qB;have QR:Hid (Chg (λb=>b=bB) w3 w9):=(gV.out.aCk Hb.out).trans (Chg.aCn qg (λb e=>by cases e;rfl)) (λb h=>.inl h);clear qB qg hback ad5 fy;go_wp2;go_roundw;case rel=>exact⟨j+1,by omega,by go_num,by rw[ajL.out,Db.out];exact AE.out,QR.out⟩
        case measure=>exact bH
      . obtain rfl:j=v1:=by omega
        have hn:=CP.out k hlt;rw[yq.out]at hn;rw[hn]at pB;have eQ:=az pB;clear pB hn;go_wp2;go_roundw;case rel=>exact⟨k+1,by omega,by go_num,eQ.out,pg⟩
        case measure=>exact bH
   . obtain rfl:k=N:=by omega
     have sH:=pg.blk E0.out zo;have jY:=pg.blk E1.out zo;have fN:=pg.blk E5.out zo;rw[YJ.out]at pB;obtain⟨r0,bo,r1,bz,r2,lS⟩:=jY.g3;obtain⟨o0,o1,o2⟩:=fN.c3;obtain⟨jv,eQ⟩:=aU (E7.out.trans (pg.below (n:=w.heap.size) zo (λb e=>by omega))) pB;clear pB sH jY fN;go_wp2;refine bodyPost_ret (v:=.agg #[.slice (some ⟨bB,0,none⟩) M M,ah (V:Int),ah (d1:Int)]) (by simp[results,Tryz.results87,go_sem,r0,r1,r2]) rfl ⟨bB,rfl,by omega,At.aCi (t:=48) ?_,?_⟩
     . exact((eQ.out.so _ _ zo _).so _ _ zo _).so _ _ zo _
     . exact((jv.out.setCell zp _).setCell zp _).setCell zp _
def Gr (w:World)(base g8 V m:Nat)(cs:List Dyadic):Prop:=
 ∃aG yE,aH w g8 121 [.slice aG (cnt V m) yE,ah (V:Int),ah (m:Int)]/\At w aG (dC cs)/\∀b o,aG=some ⟨b,o,none⟩->base<=b
def Gr.below {w w':World}{base g8 V m:Nat}{cs:List Dyadic}(h:Gr w base g8 V m cs)(hb:Bw w w'):Gr w' base g8 V m cs:=by obtain⟨a,c,h1,h2,h3⟩:=h;exact⟨a,c,h1.below hb,h2.below hb,h3⟩
def yG (rows:List (List Raw))(k:Nat):List Raw:=rows.map λr=>r.getD k (false,[],0)
def aos (rows:List (List Raw))(k V:Nat)(hrow:∀r∈rows,r.length=V)(hk:k<V):(yG rows k).map aJ=lQ (rows.map λr=>r.map aJ) k:=by
 unfold yG lQ;rw[List.map_map,List.map_map];refine List.map_congr_left (λr hr=>?_);have h:=hrow r hr;show aJ (r.getD k _)=(r.map aJ).getD k 0
 simp[List.getD_eq_getElem?_getD,show k<r.length by omega]
def aor {B V k:Nat}{rows:List (List Raw)}(hrow:∀r∈rows,r.length=V)(hk:k<V)(hfit:∀r∈rows,∀c∈r,Fit B c):∀x∈yG rows k,Fit B x:=by
 intro x hx;unfold yG at hx;obtain⟨r,hr,rfl⟩:=List.mem_map.1 hx;have h:=hrow r hr;have e:r.getD k (false,[],0)=r[k]'zo:=by simp[List.getD_eq_getElem?_getD,show k<r.length by omega]
 rw[e];exact hfit r hr _ (List.getElem_mem _)
def apF {α β:Type}(f:α->List β)(xs:List α)(k:Nat)(h:k<xs.length):(xs.take (k+1)).flatMap f=(xs.take k).flatMap f++f xs[k]:=by rw[List.take_succ_eq_append_getElem h,List.flatMap_append];simp
def axv (es:List Nat)(k:Nat):(es.take k).sum<=es.sum:=by
 induction es generalizing k with
 |nil=>simp
 | cons x es ih=>
   cases k with
   |zero=>simp
   |succ k=>have:=ih k;simp at this⊢;omega
def Sr (w:World)(g8:Nat):Nat:=match w.cell? ⟨g8,2,none⟩with|some v=>(intOf v).toNat|none=>0
def aa8 {w:World}{g8 m:Nat}{t:TypeId}{x y:Value}(h:aH w g8 t [x,y,ah (m:Int)]):Sr w g8=m:=by unfold Sr;rw[h.cell];simp[intOf]
def axB (V D L:Nat)(l:List UInt8)(s:Bool)(mm:List UInt8)(e:Int)(a:Option Addr)(cap:Nat)(rows:List (List Raw))(B:Nat)(c:Dyadic)(w:World)(hV:1<=V)(hV2:V<=8)(hL:rows.length=L)(oX:L=V+1)(hrow:∀r∈rows,r.length=V)
 (hll:l.length=V) (vG:(l.map UInt8.toNat).sum<=D) (hD:D<=20) (ue:∀d,d<=D->cnt V d<=512) (ha:bQ w a rows) (hfit:∀r∈rows,∀c∈r,Fit B c) (hx:Ok (s,mm,e)) (hc:aJ (s,mm,e)=c) (hcs:Sm B c) (bX:1<=B) (hB:B<=100000) (hT:aR w):
 Cl 44 #[.agg #[ai l,aj s,ai mm,ah e],.slice a L cap,ah (D:Int)] w λe w'=>∃a' c',e=.returned (.slice a' (cnt V D) c')/\
  At w' a' (dC (kz V D (rows.map λr=>r.map aJ) c (l.map UInt8.toNat)))/\(∀b o,a'=some ⟨b,o,none⟩->w.heap.size<=b)/\Bw w w':=by
 obtain⟨i0,hi,hz0,hz1,hz2⟩:=info_parts Tryz.aCm;obtain⟨S,hS⟩:=aI (rows.map λr=>r.map aJ);obtain⟨es,hes⟩:=aI (l.map UInt8.toNat);have adA:es.length=V:=by rw[<-hes];simpa using hll
 have kC:∀r∈S,∀d∈r,Sm B d:=by intro r hr d hd;rw[<-hS]at hr;obtain⟨x,hx,rfl⟩:=List.mem_map.1 hr;obtain⟨y,hy,rfl⟩:=List.mem_map.1 hd;exact(hfit x hx y hy).2
 have TV:∀k,∀d∈lQ S k,Sm B d:=by intro k d hd;unfold lQ at hd;obtain⟨r,hr,rfl⟩:=List.mem_map.1 hd;exact sA (kC r hr) k
 have hone:∀d∈nJ V,Sm B d:=by intro d hd;rw[(List.mem_replicate.1 hd).2];exact Sm.mono (A:=1) ⟨2,by decide,by decide⟩ bX
 rw[hS,hes];rw[hes]at vG;have adR:∀ls:List (List Dyadic),ls.length<=D->(∀l∈ls,∀d∈l,Sm B d)->∀d∈fW V 0 [c] ls,Sm (B+20* (B+4608)) d:=by intro ls h1 h2 d hd;refine(abN (A:=B) (B:=B) (V:=V) (D:=0) (cs:=[c]) ls (by simpa using hcs) h2 hV2 (λd hd=>ue d zo) d hd).mono ?_;have:=Nat.mul_le_mul_right (B+4608) (show ls.length<=20 by omega);omega
 have adP:∀ls:List (List Dyadic),(fW V 0 [c] ls).length=cnt V ls.length:=λls=>by have:=abM V 0 [c] ls (by rw[ry];rfl);rw[Nat.zero_add]at this;exact this
 have BW:∀k,k<=V->(jO S es k).length<=es.sum:=λk hk=>by rw[OP S es k zo];exact axv es k
 have aeK:∀k,∀l∈jO S es k,∀d∈l,Sm B d:=by intro k l hl;unfold jO at hl;rw[List.mem_flatMap]at hl;obtain⟨t,_,hl⟩:=hl;rw[(List.mem_replicate.1 hl).2];exact TV t
 have hform:=λW=>λ(hT:aR W)=>sw s mm e c hc W hx hT;obtain⟨one,NP⟩:∃one:Dyadic,(1:Dyadic)=one:=⟨_,rfl⟩;have hof:=λW=>λ(hT:aR W)=>GA 1 one NP W zd hT;have aeo:Fit B (canon one):=by rw[<-NP];exact(Sm.mono (A:=1) ⟨2,by decide,by decide⟩ bX:Sm B 1).fit zo
 obtain⟨ak2,ak4⟩:=aU aeo NP;clear aeo NP;have hfc:Fit B (canon c):=hcs.fit zo;obtain⟨aj6,mM,Hi,cV,cW,cC,HS,Qf,Qg,ajE,rV,AH⟩:=fu hform hof hi hz0 hz1 hz2 hS hes adA TV hone vG;obtain⟨YZ,YX,alG,ZQ,gU,HL,mO,Lq,Ld,Ha,rS,js⟩:=fu adR adP BW aeK oX hL hrow hll ue ha hfit hT;have hwV:IntKind.i64.wrap ((L:Int)-1)=(V:Int):=by rw[IntKind.wrap_i64];omega
 clear oX hform hof hi hz0 hz1 hz2 hS hes adA kC TV hone vG adR adP BW aeK hL hrow hll ue ha hfit hx hc hcs hT hfc;obtain⟨W,cP,ag,aC⟩:=gz w 67 [ai l,aj s,ai mm,ah e];have eG:Hid (aR W):=js.out.below ag.1.out;go_enter Tryz.func44,Tryz.ntmps44;go_wp2_with fail;refine aZ (eG.an ag) (aj6.out _ eG.out) λw1 ag aC=>?_;have t0:w1.cell? ⟨w.heap.size,0,none⟩=some (ai l):=ag.2.2.1.out.cell 0;have P0:=t0;obtain⟨W2,nV,bi,ag,aC⟩:=qA2 w1 ag 48 (bY c) 121 [.slice (some ⟨w1.heap.size,0,none⟩) 1 1,ah (V:Int),ah 0];have xR:=ag.2.2.2.1.out.size;have lz1:w.heap.size<w1.heap.size:=zo;go_upto_region 3 with fail
 refine eO (λW9=>aH W9 w.heap.size 67 [ai l,aj s,ai mm,ah e]/\aH W9 w1.heap.size 48 (bY c)/\aH W9 (w1.heap.size+1) 121 [.slice (some ⟨w1.heap.size,0,none⟩) 1 1,ah (V:Int),ah 0]/\Bw w W9)
  ⟨ag.2.2.2.2.1.out.so _ _ zo _,ag.1.out.so _ _ zo _,ag.2.1.out.set 2 _,ag.2.2.2.1.out.sc _ _ zo _⟩ ?_
 rintro W9 ⟨qt,qn,qg,dS⟩;have t0:W9.cell? ⟨w.heap.size,0,none⟩=some (ai l):=qt.cell 0;obtain⟨cb,W3,hcv,hb3,hs3,jU⟩:=OV l W9;rw[Lq.out]at hcv;have lg:=qg.lt;have hGr:Gr W3 w.heap.size (w1.heap.size+1) V 0 [c]:=by
  refine⟨some ⟨w1.heap.size,0,none⟩,1,?_,?_,λb o e=>by cases e;omega⟩
  . rw[ry];exact qg.below hb3
  . exact At.aCi (qn.below hb3)
 have TN:=aO dS hb3;have acH:=js.out.below TN;have XW:Hid (w1.heap.size+1<W9.heap.size/\W9.heap.size<=W3.heap.size):=⟨lg,hb3.size⟩;obtain⟨XV,KT,ayQ,pN⟩:=dP hGr TN acH jU;clear hGr TN acH jU hb3 dS qt qn qg;go_wp2_with fail;clear t0 hcv;go_loopw[27] (λx wr=>∃k:Nat,k<=V/\x=ah (k:Int)/\Gr wr w.heap.size (w1.heap.size+1) V (jO S es k).length (fW V 0 [c] (jO S es k))/\Chg (λb=>b=w1.heap.size+1) W3 wr) (λx _=>V-(intOf x).toNat);case atStart=>exact⟨0,Nat.zero_le _,rfl,XV.out,Chg.refl _ _⟩
 case round=>
  clear XV;obtain⟨k,hk,rfl,pG,pg⟩:=hrel;by_cases hlt:k<V
  . have jl:k<l.length:=by rw[Lq.out];exact hlt
    have oX:=gU.out;have hL9:L<=9:=by omega
    have gsz:w1.heap.size+1<W3.heap.size:=by have:=XW.out;omega
    have m0:wr.cell? ⟨W9.heap.size,k,none⟩=some (.int .u8 (l[k].toNat:Int)):=pg.cell (pN.out k jl).1 zp;have xB:=rK V cb k (k:Int) (rfl:(some ⟨W9.heap.size,0,none⟩:Option Addr)=_) hlt rfl;rw[Nat.zero_add,Nat.mul_one]at xB;obtain⟨ek,BF⟩:=aI (l[k].toNat);have aAb:ek<=255:=by rw[<-BF];have:=l[k].toNat_lt;omega
    have Uc:es.getD k 0=ek:=by rw[<-BF,<-Qf.out];simp[List.getD_eq_getElem?_getD,jl]
    rw[BF]at m0;obtain⟨sh,hsh⟩:=aI (jO S es k);obtain⟨pX,IE⟩:=aI (yG rows k);have hcl:pX.length=L:=by rw[<-IE];simp[yG,HL.out]
    have hcv:pX.map aJ=lQ S k:=by rw[<-IE,<-HS.out];exact aos rows k V mO.out hlt
    have TT:∀x∈pX,Fit B x:=by rw[<-IE];exact aor mO.out hlt rS.out
    have az4:sh.length+ek<=D:=by have h1:=alG.out (k+1) hlt;have h2:=congrArg List.length (WS S es k);rw[List.length_append,List.length_replicate,Uc,hsh]at h2;have h3:=AH.out;omega
    have aei:jO S es (k+1)=sh++List.replicate ek (lQ S k):=by rw[WS,Uc,hsh]
    rw[hsh]at pG;have bE:=KT.out.trans (pg.below (n:=w.heap.size) (by have:=KT.out.size;omega) (λb e=>by omega));obtain⟨QM,gV,gD,ajI,Hcf,akW,dO,ajD,yn⟩:=En pG pg hcl hcv TT aei bE IE hsh;clear pG pg hcl hcv TT aei bE IE Uc BF hsh oX;obtain⟨wk,hwk⟩:∃wk,wk=wr:=⟨_,rfl⟩;subst hwk;have Cx:=gV.out.size;go_wp2_with fail;go_loopw[11,34] (λs11 x wr=>∃(j:Nat) (v2:Value),j<=L/\x=ah (j:Int)/\v2=s11/\wr.ownsRow wk.heap.size 48 3 v2 j ((pX.take j).flatMap bK)/\Bw wk wr) (λ_ x _=>L-(intOf x).toNat);case atStart=>exact⟨0,_,Nat.zero_le _,rfl,rfl,World.ownsRow_nil _ _ _ _,Below.refl _ _⟩
    case round=>
     clear m0 xB;obtain⟨j,v2,hj,rfl,rfl,ho,hb2⟩:=hrel;by_cases bj:j<L
     . have jr:j<rows.length:=by rw[HL.out];exact bj
       obtain⟨b1,o1,a1,c1,hab,hc1,hat⟩:=(Ha.out.below (dO.out.trans (hb2.mono (by have:=dO.out.size;omega)))).row j jr;have hrl:=mO.out _ (List.getElem_mem jr);have kr:k<rows[j].length:=by rw[hrl];exact hlt
       obtain⟨s1,m1,e1,hx1⟩:=na (rows[j][k]);obtain⟨b2,o2,gj,p0,p1,p2⟩:=hat.num k kr hx1;rw[hrl]at hc1;have jc:j<pX.length:=by rw[gD.out];exact bj
       have hst:(pX.take (j+1)).flatMap bK=(pX.take j).flatMap bK++[aj s1,ai m1,ah e1]:=by
        rw[apF bK pX j jc];congr 1;have:pX[j]=(s1,m1,e1):=by
         have h9:pX[j]?=(yG rows k)[j]?:=by rw[ajD.out]
         rw[List.getElem?_eq_getElem jc]at h9;unfold yG at h9;rw[List.getElem?_map,List.getElem?_eq_getElem jr]at h9;simp only[Option.map_some,Option.some.injEq]at h9;rw[h9];simp[List.getD_eq_getElem?_getD,kr,hx1]
        rw[this];rfl
       have qK:=rJ L cap j (j:Int) hab bj rfl;rw[Nat.mul_one]at qK;have xA:=xy V c1 k (k:Int) gj hlt rfl;obtain⟨cu,Ho,cQ⟩:=cE hst ho hb2;have Hp:Hid (bA wr b2 (o2+k*3) [aj s1,ai m1,ah e1]):=iR p0 p1 p2;have Ac:=hb2.size;clear hst ho hb2 hab gj hat hrl kr hx1 p0 p1 p2;have Hb:=hbz wr;obtain⟨ag,aC⟩:=qZ (Hp.an trivial);have p1:wr.cell? ⟨b2,o2+k*3+1,none⟩=some (ai m1):=ag.1.out.cell 1 zm;have p2:wr.cell? ⟨b2,o2+k*3+2,none⟩=some (ah e1):=ag.1.out.cell 2 zm;have p0:wr.cell? ⟨b2,o2+k*3,none⟩=some (aj s1):=ag.1.out.cell 0 zm;have P0:=p0;have P1:=p1;have P2:=p2;obtain⟨W6,tZ,bi,ag,aC⟩:=cM wr (Hb.an ag) 48 [aj s1,ai m1,ah e1];have dw:=ownsRow_below Ho.out ag.2.1.out;have jH:=ag.2.1.out.size;have hnews:=gK ag.1.out;skip
       go_wp2_with (at_builtin;refine wpList_append_own_at _ rfl _ _ 32 rfl wk.heap.size 48 i0 _ 3 32 Tryz.underlying32 Hi.out cV.out cW.out cC.out rfl zd v2 j ((pX.take j).flatMap bK) rfl dw ⟨wr.heap.size,0,none⟩ 1 1 [aj s1,ai m1,ah e1] rfl rfl hnews zy zx zo zo ?_;intro v' w7 ey eT _ _;obtain⟨g',sj,rfl⟩:=ownsRow_succ ey);go_roundw;case rel=>
        refine⟨j+1,_,by omega,by go_num,rfl,?_,?_⟩
        . rw[cu.out];exact ey
        . exact(aO cQ.out ag.2.1.out).grown eT zo (λj e=>dz dw j e)
       case measure=>exact bH
     . obtain rfl:j=L:=by omega
       have hct:pX.take j=pX:=List.take_of_length_le (by rw[gD.out];exact Nat.le_refl _);rw[hct]at ho;obtain⟨a2,cap2,rfl,jT,gj⟩:=dm ho;obtain⟨FR,ZE,vU,PL,Fa⟩:=fH (QM.out.below hb2) (gV.out.aCk hb2) jT gj ((js.out.below dO.out).below hb2);have Ac:=hb2.size;clear ho hb2 hct jT gj;obtain⟨wj,Cb⟩:∃wj,wj=wr:=⟨_,rfl⟩;subst Cb;go_wp2_with fail;go_loopw[49] (λx wr=>∃i:Nat,i<=ek/\x=.int .u8 (i:Int)/\Gr wr w.heap.size (w1.heap.size+1) V (sh.length+i) (fW V 0 [c] (sh++List.replicate i (lQ S k)))/\Chg (λb=>b=w1.heap.size+1) wj wr) (λx _=>ek-(intOf x).toNat);case atStart=>exact⟨0,Nat.zero_le _,rfl,by simpa using FR.out,Chg.refl _ _⟩
       case round=>
        clear FR;obtain⟨i,hie,rfl,pG,pg⟩:=hrel;by_cases fY:i<ek
        . have hw8:IntKind.u8.wrap ((i:Int)+1)=((i+1:Nat):Int):=by rw[IntKind.wrap_u8];omega
          obtain⟨aG,yE,hbk,ud,hbase⟩:=pG;obtain⟨ux,ul⟩:∃ls,sh++List.replicate i (lQ S k)=ls:=⟨_,rfl⟩;obtain⟨m,hm⟩:=aI (sh.length+i);have hlm:ux.length=m:=by rw[<-ul,<-hm,List.length_append,List.length_replicate]
          have Uz:m<D:=by omega
          have Jo:fW V 0 [c] (sh++List.replicate (i+1) (lQ S k))=sP V m (fW V 0 [c] ux) (lQ S k):=by rw[List.replicate_succ',<-List.append_assoc,ul,abO,Nat.zero_add,hlm]
          have IU:∀l∈ux,∀d∈l,Sm B d:=by
           intro l hl;rw[<-ul,List.mem_append]at hl;rcases hl with hl|hl
           . exact ZQ.out k l (by rw[yn.out];exact hl)
           . rw[(List.mem_replicate.1 hl).2];exact ajE.out k
          rw[ul]at ud;rw[hm]at hbk;obtain⟨N,hN⟩:=aI (cnt V m);obtain⟨M,hM⟩:=aI (cnt V (m+1));rw[hN]at hbk;have dQ:¬(0=w1.heap.size+1):=by have:=js.out.lt;omega
          have qI:=ahz V m N M (B+20* (B+4608)) B aG yE (fW V 0 [c] ux) a2 cap2 pX (lQ S k) j gU.out.symm (m+1) rfl wr hV hV2 zo hN hM (by rw[<-hN];exact Ld.out m zo) (by rw[<-hM];exact Ld.out (m+1) zo) (by rw[YX.out,hlm,hN]) gD.out ajI.out ud (vU.out.chg pg (λb o e=>by have:=PL.out b o e;omega)) (YZ.out ux zo IU) Hcf.out zo (pg.tab Fa.out dQ);obtain⟨Gb,Hg,FT,wB,Hm,HM⟩:=fw qI hbk pg Jo hm hM;clear qI hbk pg Jo hm hM hN hlm ud IU ul;have Hb:=hbz wr;have lg8:=Hg.out.lt;obtain⟨ag,aC⟩:=qZ (Hg.an trivial);go_wp2_with fail;refine(Gb.out).mono ?_;rintro e w2 ⟨bO,rfl,hbO,nj,au⟩;obtain⟨ag,aC⟩:=qX au (Hb.an ag);have PO:=az nj;have tq:Hid (Chg (λb=>b=w1.heap.size+1) wj w2):=FT.out.aCk ag.1.out;clear nj;go_wp2;go_roundw;case rel=>
           have hblk:=((ag.2.1.out.set 0 (.slice (some ⟨bO,0,none⟩) M M)).set 1 (ah (V:Int))).set 2 (ah ((m:Int)+1));have TU:=((tq.out.set (a:=⟨w1.heap.size+1,0,none⟩) rfl (.slice (some ⟨bO,0,none⟩) M M)).set (a:=⟨w1.heap.size+1,1,none⟩) rfl (ah (V:Int))).set (a:=⟨w1.heap.size+1,2,none⟩) rfl (ah ((m:Int)+1));have DR:=PO.out.chg ((((Chg.refl (λb=>b=w1.heap.size+1) w2).set (a:=⟨w1.heap.size+1,0,none⟩) rfl (.slice (some ⟨bO,0,none⟩) M M)).set (a:=⟨w1.heap.size+1,1,none⟩) rfl (ah (V:Int))).set (a:=⟨w1.heap.size+1,2,none⟩) rfl (ah ((m:Int)+1))) (λb o e=>by cases e;omega);refine⟨i+1,by omega,by go_num,⟨some ⟨bO,0,none⟩,M,?_,?_,λb o e=>by cases e;omega⟩,TU⟩
           . have e9:sh.length+(i+1)=m+1:=by rw[<-Hm.out];omega
             have e10:((sh.length+(i+1):Nat):Int)=(m:Int)+1:=by omega
             rw[e10,e9,HM.out];exact hblk
           . rw[wB.out];exact DR
          case measure=>exact bH
        . obtain rfl:i=ek:=by omega
          obtain⟨ala,FT⟩:=aU pG (ZE.out.trans pg (λb e=>.inl e));clear pG pg;go_wp2;go_roundw;case rel=>refine⟨k+1,by omega,by go_num,?_,FT.out⟩;rw[akW.out,List.length_append,List.length_replicate];exact ala.out
          case measure=>exact bH
  . obtain rfl:V=k:=by omega
    obtain⟨sh,hsh⟩:=aI (jO S es V);rw[hsh]at pG;have aeJ:sh.length=es.sum:=by rw[<-hsh,OP S es V (by rw[Qg.out];exact Nat.le_refl _),List.take_of_length_le (by rw[Qg.out];exact Nat.le_refl _)]
    have gsz:w1.heap.size+1<W3.heap.size:=by have:=XW.out;omega
    have bE:=KT.out.trans (pg.below (n:=w.heap.size) (by have:=KT.out.size;omega) (λb e=>by omega));obtain⟨QM,gV,dO,yn,ZP⟩:=fH pG pg bE hsh aeJ;clear pG pg bE hsh aeJ;obtain⟨wk,hwk⟩:∃wk,wk=wr:=⟨_,rfl⟩;subst hwk;have Cx:=gV.out.size;have hL9:L<=9:=by have:=gU.out;omega
    go_wp2_with fail;go_loopw[13,58] (λWN x wr=>∃(j:Nat) (v2:Value),j<=L/\x=ah (j:Int)/\v2=WN/\wr.ownsRow wk.heap.size 48 3 v2 j ((List.replicate j (canon one)).flatMap bK)/\Bw wk wr) (λ_ x _=>L-(intOf x).toNat);case atStart=>exact⟨0,_,Nat.zero_le _,rfl,rfl,World.ownsRow_nil _ _ _ _,Below.refl _ _⟩
    case round=>
     obtain⟨j,v2,hj,rfl,rfl,ho,hb2⟩:=hrel;by_cases bj:j<L
     . have cu:Hid ((List.replicate (j+1) (canon one)).flatMap bK=(List.replicate j (canon one)).flatMap bK++(bY one)):=by
        show _=_
        rw[List.replicate_succ',List.flatMap_append];simp only[List.flatMap_cons,List.flatMap_nil,List.append_nil];rfl
       obtain⟨Ho,cQ,Fa⟩:=cE ho hb2 ((js.out.below dO.out).below hb2);have Ac:=hb2.size;clear ho hb2;have Hb:=hbz wr;go_wp2_with fail;refine aZ (Hb.an trivial) (mM.out _ Fa.out) λw5 ag aC=>?_;obtain⟨W6,tZ,bi,ag,aC⟩:=cM w5 ag 48 (bY one);have dw:=ownsRow_below Ho.out ag.2.1.out;have jH:=ag.2.1.out.size;have hnews:=gK ag.1.out;skip
       go_wp2_with (at_builtin;refine wpList_append_own_at _ rfl _ _ 32 rfl wk.heap.size 48 i0 _ 3 32 Tryz.underlying32 Hi.out cV.out cW.out cC.out rfl zd v2 j ((List.replicate j (canon one)).flatMap bK) rfl dw ⟨w5.heap.size,0,none⟩ 1 1 (bY one) rfl rfl hnews zy zx zo zo ?_;intro v' w7 ey eT _ _;obtain⟨g',sj,rfl⟩:=ownsRow_succ ey);go_roundw;case rel=>
        refine⟨j+1,_,by omega,by go_num,rfl,?_,?_⟩
        . rw[cu.out];exact ey
        . exact(aO cQ.out ag.2.1.out).grown eT zo (λj e=>dz dw j e)
       case measure=>exact bH
     . obtain rfl:L=j:=by omega
       obtain rfl:L=V+1:=gU.out;obtain⟨a2,cap2,rfl,jT,gj⟩:=dm ho;obtain⟨FR,ZE,vU,PL,Fa⟩:=fH (QM.out.below hb2) (gV.out.aCk hb2) jT gj ((js.out.below dO.out).below hb2);have hbz:=dO.out.trans (hb2.mono (by have:=dO.out.size;omega));have jv:=az hbz;have Ac:=hb2.size;clear ho hb2 jT gj hbz;obtain⟨wj,Cb⟩:∃wj,wj=wr:=⟨_,rfl⟩;subst Cb;have hsD:sh.length<=D:=by have:=AH.out;have:=ZP.out;omega
       go_wp2_with fail;go_loopw[] (λwr=>∃i:Nat,sh.length+i<=D/\Gr wr w.heap.size (w1.heap.size+1) V (sh.length+i) (fW V 0 [c] (sh++List.replicate i (nJ V)))/\Chg (λb=>b=w1.heap.size+1) wj wr) (λwr=>D-Sr wr (w1.heap.size+1));case atStart=>exact⟨0,by omega,by simpa using FR.out,Chg.refl _ _⟩
       case round=>
        clear FR;obtain⟨i,hie,pG,pg⟩:=hrel;by_cases fY:sh.length+i<D
        . obtain⟨aG,yE,hbk,ud,hbase⟩:=pG;obtain⟨ux,ul⟩:∃ls,sh++List.replicate i (nJ V)=ls:=⟨_,rfl⟩;obtain⟨m,hm⟩:=aI (sh.length+i);have hlm:ux.length=m:=by rw[<-ul,<-hm,List.length_append,List.length_replicate]
          have Uz:m<D:=by omega
          have Jo:fW V 0 [c] (sh++List.replicate (i+1) (nJ V))=sP V m (fW V 0 [c] ux) (nJ V):=by rw[List.replicate_succ',<-List.append_assoc,ul,abO,Nat.zero_add,hlm]
          have IU:∀l∈ux,∀d∈l,Sm B d:=by
           intro l hl;rw[<-ul,List.mem_append]at hl;rcases hl with hl|hl
           . exact ZQ.out V l (by rw[yn.out];exact hl)
           . rw[(List.mem_replicate.1 hl).2];exact rV.out
          rw[ul]at ud;rw[hm]at hbk;obtain⟨N,hN⟩:=aI (cnt V m);obtain⟨M,hM⟩:=aI (cnt V (m+1));rw[hN]at hbk;have dQ:¬(0=w1.heap.size+1):=by have:=js.out.lt;omega
          have qI:=ahz V m N M (B+20* (B+4608)) B aG yE (fW V 0 [c] ux) a2 cap2 (List.replicate (V+1) (canon one)) (nJ V) (V+1) rfl (m+1) rfl wr hV hV2 zo hN hM (by rw[<-hN];exact Ld.out m zo) (by rw[<-hM];exact Ld.out (m+1) zo) (by rw[YX.out,hlm,hN]) zm (by rw[List.map_replicate,cJ,<-ak4.out];rfl) ud (vU.out.chg pg (λb o e=>by have:=PL.out b o e;omega)) (YZ.out ux zo IU) (λx hx=>by rw[(List.mem_replicate.1 hx).2];exact ak2.out) zo (pg.tab Fa.out dQ);obtain⟨Gb,Hg,FT,wB,Hm,HM⟩:=fw qI hbk pg Jo hm hM;clear qI hbk pg Jo hm hM hN hlm ud IU ul;have Hb:=hbz wr;have lg8:=Hg.out.lt;have Hg0:=Hg;obtain⟨ag,aC⟩:=qZ (Hg.an trivial);go_wp2_with fail;refine(Gb.out).mono ?_;rintro e w2 ⟨bO,rfl,hbO,nj,au⟩;obtain⟨ag,aC⟩:=qX au (Hb.an ag);have PO:=az nj;have tq:Hid (Chg (λb=>b=w1.heap.size+1) wj w2):=FT.out.aCk ag.1.out;clear nj;go_wp2;go_roundw;case rel=>
           have hblk:=((ag.2.1.out.set 0 (.slice (some ⟨bO,0,none⟩) M M)).set 1 (ah (V:Int))).set 2 (ah ((m:Int)+1));have TU:=((tq.out.set (a:=⟨w1.heap.size+1,0,none⟩) rfl (.slice (some ⟨bO,0,none⟩) M M)).set (a:=⟨w1.heap.size+1,1,none⟩) rfl (ah (V:Int))).set (a:=⟨w1.heap.size+1,2,none⟩) rfl (ah ((m:Int)+1));have DR:=PO.out.chg ((((Chg.refl (λb=>b=w1.heap.size+1) w2).set (a:=⟨w1.heap.size+1,0,none⟩) rfl (.slice (some ⟨bO,0,none⟩) M M)).set (a:=⟨w1.heap.size+1,1,none⟩) rfl (ah (V:Int))).set (a:=⟨w1.heap.size+1,2,none⟩) rfl (ah ((m:Int)+1))) (λb o e=>by cases e;omega);refine⟨i+1,by omega,⟨some ⟨bO,0,none⟩,M,?_,?_,λb o e=>by cases e;omega⟩,TU⟩
           . have e9:sh.length+(i+1)=m+1:=by rw[<-Hm.out];omega
             have e10:((sh.length+(i+1):Nat):Int)=(m:Int)+1:=by omega
             rw[e10,e9,HM.out];exact hblk
           . rw[wB.out];exact DR
          case measure=>have hblk:=((ag.2.1.out.set 0 (.slice (some ⟨bO,0,none⟩) M M)).set 1 (ah (V:Int))).set 2 (ah ((m:Int)+1));have e1:=aa8 Hg0.out;have e2:=aa8 (m:=m+1) (show aH _ _ _ [.slice (some ⟨bO,0,none⟩) M M,ah (V:Int),ah ((m+1:Nat):Int)]from by rw[show((m+1:Nat):Int)=(m:Int)+1 by omega];exact hblk);rw[e1,e2];omega
        . have Un:sh.length+i=D:=by omega
          obtain⟨aG,yE,hbk,ud,hbase⟩:=pG;rw[Un]at hbk;have hfe:fW V 0 [c] (sh++List.replicate i (nJ V))=kz V D S c es:=by unfold kz;rw[Qg.out,yn.out,<-ZP.out,show D-sh.length=i by omega]
          rw[hfe]at ud;obtain⟨g0,g1,g2⟩:=hbk.c3;have Uy:¬(D:Int)<(D:Int):=by omega
          obtain⟨ajm,aju,Hbq⟩:=cE ud hbase (jv.out.trans (pg.below (n:=w.heap.size) (by have:=jv.out.size;omega) (λb e=>by omega)));clear ud hbase hfe pg hbk;go_wp2;exact bodyPost_ret (v:=.slice aG (cnt V D) yE) (by simp[results,Tryz.results44,go_sem]) rfl ⟨aG,⟨yE,rfl⟩,ajm.out,aju.out,Hbq.out⟩
end Go.Proofs.YtnjfebkelecgaaaGreatDoor
