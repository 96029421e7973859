/- Package simp: a form times a sum of shares. -/
import Derived.Test.YtbkopgdpcijfbaaGreatDoorZ23
import Derived.Test.YtbkopgdpcijfbaaGreatDoorZ24
import Derived.Test.YtbkopgdpcijfbaaGreatDoorZ7
import Derived.Laws.IdiomStrings
import Derived.Test.YtbkopgdpcijfbaaGreatDoorZ13
set_option linter.all false
set_option maxRecDepth 100000
set_option maxHeartbeats 16000000
namespace Go.Proofs.YtbkopgdpcijfbaaGreatDoor
open Go.RowKit
attribute [local go_sem ↓] Go.wp_at_zero Go.wp_at_succ
def vM (w:World)(b:Nat)(l:List UInt8):Prop:=∀j (hj:j<l.length),w.cell? ⟨b,j,none⟩=some (.int .u8 (l[j].toNat:Int))/\w.frozen? ⟨b,j,none⟩=false
def vM.below {w w':World}{b:Nat}{l:List UInt8}(h:vM w b l)(hb:Bw w w'):vM w' b l:=λj hj=>⟨cell_later hb (h j hj).1,by
 have h1:=World.block_lt_of_cell? w _ (h j hj).1;rw[World.frozen?_of_block (a:=⟨b,j,none⟩) (w:=w) (hb.block b h1)]
 exact(h j hj).2⟩
def ajd (l:List UInt8)(w:World):∃c W',(convert 9 172 (.string (bs l))).run Tryz.prog w=.ok (.slice (some ⟨w.heap.size,0,none⟩) l.length c) W'/\Bw w W'/\w.heap.size<W'.heap.size/\vM W' w.heap.size l:=by
 have h:=run_bytes_of_string (P:=Tryz.prog) w 9 172 5 (bs l) Tryz.underlying9 Tryz.underlying172 Tryz.underlying5;refine⟨_,_,by rw[h,jB],((Below.refl _ _).drew).alloc (Nat.le_refl _) _,by simp,λj hj=>?_⟩;have hs:j<(bs l).data.size:=by simpa[bs]using hj
 have hb:=bytesRow_at (bs l) (grownCap w (bs l).size 0 5) j hs;refine⟨?_,?_⟩
 . have:=World.cell?_alloc_mark w.drew (bytesRow (bs l) (grownCap w (bs l).size 0 5)) 5 ((bytesRow (bs l) (grownCap w (bs l).size 0 5)).size,(bytesRow (bs l) (grownCap w (bs l).size 0 5)).size+1) j;refine this.trans (hb.trans ?_);simp[bs]
 . have:=World.frozen?_alloc_mark w.drew (bytesRow (bs l) (grownCap w (bs l).size 0 5)) 5 (bytesRow (bs l) (grownCap w (bs l).size 0 5)).size ((bytesRow (bs l) (grownCap w (bs l).size 0 5)).size+1) j;refine this.trans ?_;have hlt:=(Array.getElem?_eq_some_iff.1 hb).1;simp;omega
def vM.back {w:World}{b:Nat}{l:List UInt8}(h:vM w b l)(cap:Nat):(convert 172 9 (.slice (some ⟨b,0,none⟩) l.length cap)).run Tryz.prog w=.ok (ah l) w:=
 run_convert_bytes_back (P:=Tryz.prog) w 172 9 5 ⟨b,0,none⟩ cap l Tryz.underlying172 Tryz.underlying5 Tryz.underlying9 (λj hj=>by
  have:=(h j hj).1;rw[show(⟨b,0,none⟩:Addr).add j=⟨b,j,none⟩by simp[Addr.add];intro h;exact h.symm]
  exact this)
def vM.set {w:World}{b:Nat}{l:List UInt8}(h:vM w b l)(j:Nat)(hj:j<l.length)(u:UInt8):vM (w.setCell ⟨b,j,none⟩ (.int .u8 (u.toNat:Int))) b (l.set j u):=by
 intro i hi;have hi2:i<l.length:=by simpa using hi
 by_cases e:j=i
 . subst e;refine⟨?_,?_⟩
   . rw[World.cell?_setCell_same _ _ _ (h j hj).1];simp
   . rw[World.frozen?_setCell];exact(h j hj).2
 . refine⟨?_,?_⟩
   . rw[World.cell?_setCell_other _ _ _ _ (show(⟨b,j,none⟩:Addr)≠⟨b,i,none⟩from λh=>e (Addr.mk.inj h).2.1),(h i hi2).1];simp[e]
   . rw[World.frozen?_setCell];exact(h i hi2).2
def ahO (c:Int)(n:Nat)(hc:c=n)(h:n<=1048576)(w:World):
 (Instr.makeSlice 100 (af c) (af c)).run Tryz.prog w=.ok (.slice (some ⟨w.heap.size,0,none⟩) n n) (w.alloc (.cells (dC (List.replicate n 0)).toArray 30)):=by
 subst hc;obtain⟨i0,hi,hz0,hz1,hz2⟩:=info_parts Tryz.aGt;rw[run_make (P:=Tryz.prog) w 100 30 i0 _ Tryz.underlying100 hi hz0 .i64 .i64 n n zo zo (by rw[hz2];omega) zo];simp only[Int.toNat_natCast,hz1];rw[ahB]
def aye (V D:Nat)(hV:1<=V)(hV2:V<=8)(hD:D<=20)(hc:cnt V D<=512):sQ (V:Int) (D:Int)=bz (V+1) D:=by unfold sQ;rw[if_pos ⟨by omega,by omega,by omega,by omega,by simpa using hc⟩];simp only[Int.toNat_natCast]
def aAs (V D N M A B:Nat)(cs L:List Dyadic)(hV:1<=V)(hV2:V<=8)(hD:D<20)(hN:cnt V D=N)(hM:cnt V (D+1)=M)(uV:N<=512)(hcm:∀c∈cs,Sm A c)(wM:∀x∈L,Sm B x):
 ∃DS:Nat->Nat->List Dyadic,DS 0 0=List.replicate M 0/\(∀k,k<N->DS k (V+1)=DS (k+1) 0)/\DS N 0=vK V D cs L/\
  ∀k j,k<N->j<V+1->(DS k j).length=M/\(∀d∈DS k j,Sm (A+B+4608) d)/\
   ∃q,place ((bz (V+1) (D+1)).map λx=>x.map UInt8.ofNat) M ((mh ((bz (V+1) D).getD k []) j).map UInt8.ofNat)=q/\q<M/\DS k (j+1)=(DS k j).set q ((DS k j).getD q 0+cs.getD k 0*L.getD j 0):=by
 obtain⟨R,hR⟩:=aB (bz (V+1) D);obtain⟨R',hR'⟩:=aB (bz (V+1) (D+1));have ia:R.length=N:=by rw[<-hR,pQ];exact hN
 have Ja:R'.length=M:=by rw[<-hR',pQ];exact hM
 have hmem:∀x∈R,x.length=V+1/\x.sum=D:=λx hx=>(sO V D x).1 (by rw[hR];exact hx);have aff:∀x∈R,∀t,t<V+1->mh x t∈R':=λx hx t ht=>by obtain⟨h1,h2⟩:=hmem x hx;rw[<-hR'];exact(sO V (D+1) _).2 ⟨by rw[Ki];exact h1,by rw[ag4 _ _ zo];omega⟩
 obtain⟨f,hf⟩:=aB (place (R'.map λx=>x.map UInt8.ofNat) M);have JQ:∀x∈R',∃q,∃h:q<R'.length,R'[q]=x/\f (x.map UInt8.ofNat)=q:=λx hx=>by have:=ail (n:=V) (s:=D+1) zo (x:=x) (by rw[hR'];exact hx);rw[hR']at this;rw[<-hf,<-Ja];exact this
 have hnd:R'.Nodup:=by rw[<-hR'];exact CZ V (D+1)
 obtain⟨P,hP⟩:∃P:Nat->iw,P=λk=>xj (R.getD k []) (cs.getD k 0) λt=>L.getD t 0:=⟨_,rfl⟩;have hrow:∀k,k<N->R.getD k []∈R:=λk hk=>by
  have:R.getD k []=R[k]'zo:=by simp[show k<R.length by omega]
  rw[this];exact List.getElem_mem _
 have Uf:∀k,k<N->P k=(List.range (V+1)).map λt=>(mh (R.getD k []) t,cs.getD k 0*L.getD t 0):=λk hk=>by
  rw[hP];show xj _ _ _=_
  unfold xj;rw[(hmem _ (hrow k hk)).1]
 have hsm:∀k t,Sm (A+B) (cs.getD k 0*L.getD t 0):=λk t=>Sm.mul (uT hcm k) (uT wM t);rw[hR,hR',hf];refine⟨λk j=>ja f (List.replicate M 0) (nz P k++(List.range j).map λt=>(mh (R.getD k []) t,cs.getD k 0*L.getD t 0)),rfl,λk hk=>?_,?_,λk j hk hj=>⟨?_,?_,?_⟩⟩
 . show ja _ _ _=ja _ _ _
   rw[Xo,Uf k hk];simp
 . show ja _ _ _=_
   have e:nz P N=KT R cs λt=>L.getD t 0:=by rw[hP,<-ia];rfl
   rw[List.range_zero,List.map_nil,List.append_nil,e,<-Ja,ait R' hnd f JQ _ (aAv (λx hx=>(hmem x hx).1) aff)];unfold vK;rw[hR,hR']
 . show(ja _ _ _).length=M
   rw[Xm];simp
 . intro d hd;have hlen:(nz P k++(List.range j).map λt=>(mh (R.getD k []) t,cs.getD k 0*L.getD t 0)).length<=4608:=by have h1:=Px P 9 N k zo (λk hk=>by rw[Uf k hk];simp;omega);rw[List.length_append,List.length_map,List.length_range];have:=Nat.mul_le_mul_right 9 (show k+1<=512 by omega);omega
   refine(Xn (B:=A+B) f (List.replicate M 0) _ (λd hd=>by rw[List.eq_of_mem_replicate hd];exact Sm.zero _) (λp hp=>?_) d hd).mono zo;rw[List.mem_append]at hp;rcases hp with hp|hp
   . refine KG P N k zo (Q:=λp=>Sm (A+B) p.2) (λk hk p hp=>?_) p hp;rw[Uf k hk,List.mem_map]at hp;obtain⟨t,_,rfl⟩:=hp;exact hsm k t
   . rw[List.mem_map]at hp;obtain⟨t,_,rfl⟩:=hp;exact hsm k t
 . obtain⟨q,hq,hq2,wN⟩:=JQ _ (aff _ (hrow k hk) j hj);refine⟨q,wN,by omega,?_⟩;show ja _ _ _=_
   rw[List.range_succ,List.map_append,<-List.append_assoc,Xl];simp only[List.map_cons,List.map_nil];show se _ _ _=_
   unfold se;simp only[wN]
def Xk (V D N:Nat)(hV:1<=V)(hV2:V<=8)(hD:D<=20)(hN:cnt V D=N)(uV:N<=512)(w:World):
 Cl 13 #[af (V:Int),af (D:Int)] w λe w'=>∃a cap,e=.returned (.slice a N cap)/\At w' a ((bz (V+1) D).map λx=>Value.string (bs (x.map UInt8.ofNat)))/\(∀b o,a=some ⟨b,o,none⟩->w.heap.size<=b)/\Bw w w':=by
 have h:=Xj (V:Int) (D:Int) w;rw[aye V D hV hV2 hD zo,pQ,hN]at h;exact h
def ajr (V D N M A B:Nat)(aN:Option Addr)(Ed:Nat)(cs:List Dyadic)(aL:Option Addr)(abJ:Nat)(ls:List Raw)(L:List Dyadic)(v1:Nat)(hv1:V+1=v1)(d1:Nat)(hd1:D+1=d1)(w:World)
 (hV:1<=V) (hV2:V<=8) (hD:D<20) (hN:cnt V D=N) (hM:cnt V (D+1)=M) (uV:N<=512) (hM5:M<=512) (hcs:cs.length=N) (hls:ls.length=v1) (hL:ls.map au=L)
 (haN:At w aN (dC cs)) (Ev:At w aL (ls.flatMap bu)) (hcm:∀c∈cs,Sm A c) (wM:∀x∈ls,Fit B x) (TK:A+B<=100000000) (hT:aC w):
 Cl 140 #[.agg #[.slice aN N Ed,af (V:Int),af (D:Int)],.slice aL v1 abJ] w λe w'=>∃bO,e=.returned (.agg #[.slice (some ⟨bO,0,none⟩) M M,af (V:Int),af (d1:Int)])/\
  w.heap.size<=bO/\At w' (some ⟨bO,0,none⟩) (dC (vK V D cs L))/\Bw w w':=by
 have hLs:∀x∈L,Sm B x:=by intro x hx;rw[<-hL]at hx;obtain⟨r,hr,rfl⟩:=List.mem_map.1 hx;exact(wM r hr).2
 obtain⟨DS,hd0,hdn,hdf,hds⟩:=aAs V D N M A B cs L hV hV2 hD hN hM uV hcm hLs;have hp1:=λW=>Xk V (D+1) M hV hV2 zo hM hM5 W;have hp0:=λW=>Xk V D N hV hV2 zo hN uV W;obtain⟨R,hR⟩:=aB (bz (V+1) D);obtain⟨R',hR'⟩:=aB (bz (V+1) (D+1));have ia:R.length=N:=by rw[<-hR,pQ];exact hN
 have Ja:R'.length=M:=by rw[<-hR',pQ];exact hM
 have hmem:∀x∈R,x.length=v1/\∀a∈x,a<=20:=λx hx=>by have h:=(sO V D x).1 (by rw[hR];exact hx);exact⟨by omega,λa ha=>by have:=ahF ha;omega⟩
 have afx:∀x∈R',x.length=v1:=λx hx=>by have h:=(sO V (D+1) x).1 (by rw[hR'];exact hx);omega
 rw[hR]at hp0 hds;rw[hR',hd1]at hp1;rw[hR']at hds;obtain⟨f,hf⟩:=aB (place (R'.map λx=>x.map UInt8.ofNat) M);rw[hf]at hds
 have hpl:=λa cap W=>λ(h:At W a (R'.map λx=>Value.string (bs (x.map UInt8.ofNat))))=>axU a cap M (R'.map λx=>x.map UInt8.ofNat) (by simpa using Ja) hM5 (by
  intro l hl;obtain⟨x,hx,rfl⟩:=List.mem_map.1 hl
  rw[List.length_map,afx x hx];omega) W (by rw[List.map_map];exact h)
 rw[hf]at hpl;have hwD:IntKind.i64.wrap ((D:Int)+1)=(d1:Int):=by rw[IntKind.wrap_i64];omega
 have hmk:=ahO (M:Int) M rfl zo;obtain⟨Gw,Du,ZK,LM,rU,oU,uA,Bu,sV,HL,rR,Bq⟩:=ie hd0 hdn hdf hds hp1 hp0 hpl hmem ia hL hls hcs;obtain⟨uu,LV,LB,LA,HT,Sc,Hd1,mG⟩:=jZ hcm wM haN Ev hT hv1 hd1 hmk;clear hd0 hdn hdf hds hp1 hp0 hpl hmem afx ia Ja hR hR' hf hL hls hcs hcm wM haN Ev hT hLs hN hM hv1 hd1 hmk;obtain⟨W,cE,ae,ak⟩:=lA w 188 [.slice aN N Ed,af (V:Int),af (D:Int)] 188 [.slice none 0 0,af 0,af 0];have HFN:Hid (At W aN (dC cs)):=LB.out.below ae.1.out;have HFL:Hid (At W aL (ls.flatMap bu)):=LA.out.below ae.1.out;have HU:Hid (aC W):=HT.out.below ae.1.out;go_enter Tryz.func140,Tryz.ntmps140;go_wp2_with fail;refine(rU.out _).mono ?_;rintro e w1 ⟨a1,apS,rfl,kY,aty,ai⟩;obtain⟨ae,ak⟩:=qX ai (HFN.an<|HFL.an<|HU.an ae);have mE:=aj kY;clear kY aty;go_wp2_with fail;refine(uA.out a1 apS _ mE.out).mono ?_;rintro e w2 ⟨bm,rfl,⟨hmp,hbm⟩,ai⟩;obtain⟨ae,ak⟩:=qX ai ae;have vP:Hid (Mp w2 bm M f):=hmp;clear hmp mE;have alo:Hid (bm<w2.heap.size):=vP.out.lt;have XX:=ae.2.2.2.1.out.size;have lg:=ae.2.2.2.2.1.out.lt;have lr:=ae.2.2.2.2.2.1.out.lt;go_upto_region 3 with fail
 go_cut[7] (λs7 wx=>∃bO bB:Nat,s7=.pointer (some ⟨bO,0,none⟩)/\w2.heap.size<=bO/\w2.heap.size<=bB/\bO≠bB/\ar wx bO 188 [.slice (some ⟨bB,0,none⟩) M M,af (V:Int),af (d1:Int)]/\ar wx bB 30 (dC (List.replicate M 0))/\Bw w2 wx);case first=>
  have hmk:=mG.out;clear vP Gw Du ZK LM rU oU uA Bu sV HL rR Bq uu LV LB LA HT mG;obtain⟨w0,hw0⟩:∃w0,w0=w:=⟨_,rfl⟩;subst hw0;obtain⟨w,Ke⟩:∃w,w=w2:=⟨_,rfl⟩;subst Ke;skip
  have Hb:=hbz w;have Hg:=ae.2.2.2.2.1;obtain⟨ae,ak⟩:=qZ (Hg.an trivial);obtain⟨Hg,_⟩:=ae;obtain⟨g0,g1,g2⟩:=Hg.out.c3;have gJ:∀w',ez w w'->aH w' (w0.heap.size) 0 (.slice aN N Ed)/\aH w' (w0.heap.size) 1 (af (V:Int))/\aH w' (w0.heap.size) 2 (af (D:Int)):=λw' h=>⟨cell_later h g0,cell_later h g1,cell_later h g2⟩;refine Bd (λw'=>ez w w') (λi=>Nat.blt i 10) 9 188 [.slice none 0 0,af 0,af 0] [(0,true),(1,true),(3,true),(4,true),(5,true),(6,true),(7,true),(2,false),(8,true)] [(10,false)] zk zk rfl rfl rfl zk zk zc zc (λK a w h=>AR rfl rfl (λK' hK=>by go_simp;exact hK _ _ h)) ?_;clear g0 g1 g2 Hg;intro wf ai;replace Hb:=aj (aI Hb.out ai);refine⟨Hb.out,?_⟩;iterate 7 (refine rK rfl rfl (v:=?_) (λw' hw'=>?_) ?_;rotate_left;(focus have hw':=gJ w' hw';obtain⟨q0,q1,q2⟩:=hw';go_simp;try with_reducible rfl);try simp only[UU])
  refine oH rfl rfl (λK hK=>?_);go_simp;have aFe:=Hb.out.size;refine hK _ _ zl (λWn ai hb2=>?_);have qnn:=aj ((ar.new wf 30 (dC (List.replicate M 0))).below hb2);replace Hb:=aj (aI Hb.out ai);refine⟨Hb.out,?_⟩;clear ai hb2 hK K;have qK:=qnn;clear qnn;try simp only[UU]
  refine rK rfl rfl (v:=?_) (λw' hw'=>?_) ?_;rotate_left;(focus go_simp;try with_reducible rfl);try simp only[UU]
  intro aic hb0 qx;have Rz:=aj qx;clear qx;obtain⟨oo0,aCR,oo1,aCS,oo2,aCT⟩:=Rz.out.g3;try simp only[U1]
  try simp only[Act.put,U2,U3]
  refine aM rfl rfl (λK hK=>?_);go_simp;refine hK _ _ (λh=>absurd h zd) ?_;try simp only[UU]
  simp only[bH];go_wp2_with fail;go_meet;have hne:aic≠wf.heap.size:=λe=>by have h1:=Rz.out;rw[e]at h1;have h2:=h1.symm.trans qK.out;simp at h2
  exact⟨aic,wf.heap.size,rfl,hb0,by omega,hne,((Rz.out.set 0 _).set 1 _).set 2 _,((qK.out.so _ _ hne _).so _ _ hne _).so _ _ hne _,((Hb.out.setCell zp _).setCell zp _).setCell zp _⟩
 case rest=>
  obtain⟨bO,bB,rfl,h1,h2,h3,qO,qB,qb⟩:=hcut;obtain⟨ae,ak⟩:=qX qb (vP.an ae);skip
  clear qb;have HO:Hid (ar wc bO 188 [.slice (some ⟨bB,0,none⟩) M M,af (V:Int),af (d1:Int)]):=qO;have HB:Hid (ar wc bB 30 (dC (List.replicate M 0))):=qB;clear qO qB;have lO:=HO.out.lt;have lB:=HB.out.lt;go_wp2_with fail;refine(oU.out _).mono ?_;rintro e w3 ⟨a0,abH,rfl,kX,aev,ai⟩;obtain⟨ae,ak⟩:=qX ai (HO.an<|HB.an ae);have kG:=aj kX;have neB:∀b,b≠bB->¬(λb=>b=bB) b:=λb h=>h;have nN:∀b o,aN=some ⟨b,o,none⟩->cs≠[]->b≠bB:=by intro b o e h0;subst e;have:=LB.out.lt (by intro h;have:=congrArg List.length h;rw[acb]at this;simp at this;exact h0 (List.length_eq_zero_iff.1 zo));omega
  have nL:∀b o,aL=some ⟨b,o,none⟩->ls≠[]->b≠bB:=by intro b o e h0;subst e;have:=LA.out.lt (by intro h;have:=congrArg List.length h;rw[kQ bu 3 (λ_=>rfl)]at this;simp at this;exact h0 (List.length_eq_zero_iff.1 zo));omega
  have n0:∀b o,a0=some ⟨b,o,none⟩->b≠bB:=λb o e=>by have:=aev b o e;omega
  have nM:bm≠bB:=by rintro rfl;have h4:bm<w2.heap.size:=alo.out;omega
  have nT:¬(0=bB):=by have:=HT.out.lt;omega
  obtain⟨HnN,HnL,qH⟩:=cw nN nL n0;have XU:=ae.2.2.2.2.2.2.1.out.size;clear kX aev nN nL n0;have gh:ar w3 bB 30 (dC (DS 0 0)):=by rw[Gw.out];exact ae.2.1.out
  have FW:=aj gh;clear gh;obtain⟨E0,E1,E2,E3,E4,E5,E6,E7⟩:=jZ ae.2.2.2.2.2.2.2.1.out ae.2.2.2.2.2.2.2.2.1.out ae.2.2.2.1.out ae.2.2.2.2.1.out ae.2.2.1.out ae.1.out ae.2.2.2.2.2.1.out ae.2.2.2.2.2.2.1.out;clear LB LA;go_wp2_with fail;go_loopw[36] (λx wr=>∃k:Nat,k<=N/\x=af (k:Int)/\ar wr bB 30 (dC (DS k 0))/\Chg (λb=>b=bB) w3 wr) (λx _=>N-(intOf x).toNat);case atStart=>exact⟨0,Nat.zero_le _,rfl,FW.out,Chg.refl _ _⟩
  case round=>
   clear FW;obtain⟨k,hk,rfl,pB,pg⟩:=hrel;by_cases hlt:k<N
   . have hk2:k<R.length:=by rw[sV.out];exact hlt
     obtain⟨xk,hxk⟩:∃x,R[k]=x:=⟨_,rfl⟩;obtain⟨hxl,VZ⟩:=Bu.out _ (List.getElem_mem hk2);have hxd:R.getD k []=xk:=by simp[hk2,hxk]
     rw[hxk]at hxl VZ;have hat:=kG.out.chg pg (λb o e=>qH.out b o e);have tN:At wr a0 (R.flatMap λx=>[Value.string (bs (x.map UInt8.ofNat))]):=by rw[Nb];exact hat
     obtain⟨b0,o0,hab,aeF⟩:=tN.elem (f:=λx=>[Value.string (bs (x.map UInt8.ofNat))]) (sz:=1) (λ_=>rfl) zd k hk2;obtain⟨l8,Cn⟩:∃l,xk.map UInt8.ofNat=l:=⟨_,rfl⟩;have hc0:wr.cell? ⟨b0,o0+k,none⟩=some (ah l8):=by have:=aeF 0 zd;rw[hxk,Cn]at this;simpa using this
     have bD:=ET N abH k (k:Int) hab hlt rfl;rw[Nat.mul_one]at bD;have afm:l8.length=v1:=by rw[<-Cn,List.length_map];exact hxl
     obtain⟨nJ,kd,LU,anQ,Hxl,Hxd,Rj⟩:=jL pg pB Cn VZ hxl hxd afm;clear pg pB Cn VZ hxl hxd hat tN aeF hab hxk afm;obtain⟨wk,hwk⟩:∃wk,wk=wr:=⟨_,rfl⟩;subst hwk;go_wp2_with fail;go_loopw[43] (λx wr=>∃j:Nat,j<=v1/\x=af (j:Int)/\ar wr bB 30 (dC (DS k j))/\Chg (λb=>b=bB) w3 wr) (λx _=>v1-(intOf x).toNat);case atStart=>exact⟨0,Nat.zero_le _,rfl,kd.out,nJ.out⟩
     case round=>
      clear hc0 bD kd nJ;obtain⟨j,hj,rfl,pB,pg⟩:=hrel;by_cases bA:j<v1
      . have Km:j<ls.length:=by rw[rR.out];exact bA
        have Kn:k<(cs.map canon).length:=by rw[List.length_map,Bq.out];exact hlt
        have jV:j<V+1:=by rw[Sc.out];exact bA
        obtain⟨hlen,UT,qv,hq1,hq2,wN⟩:=LM.out k j hlt jV;obtain⟨s,m,e,hx⟩:=sk (ls[j]);obtain⟨c,hc⟩:=aB (cs.getD k 0);obtain⟨X,hX⟩:=aB (au (s,m,e));have mY:=LV.out _ (List.getElem_mem Km);rw[hx]at mY;have hLj:L.getD j 0=X:=by rw[<-HL.out,<-hX,<-hx];simp[List.getD_eq_getElem?_getD,Km]
        have hcc:(cs.map canon)[k]=(bE c):=by
         have:cs.getD k 0=cs[k]'(by simpa using Kn):=by simp[List.getD_eq_getElem?_getD,show k<cs.length by simpa using Kn]
         rw[List.getElem_map,<-this,hc];rfl
        have yi:Sm A c:=by rw[<-hc];exact uT uu.out k
        rw[hc,hLj]at wN;rw[Hxd.out]at hq1;obtain⟨E,hE⟩:=aB (c*X);rw[hE]at wN;obtain⟨ds,aeO⟩:=aB (DS k j);obtain⟨ds',UR⟩:∃ds,DS k (j+1)=ds:=⟨_,rfl⟩;rw[aeO]at hlen UT wN pB;rw[UR]at wN;have VG:qv<ds.length:=by omega
        have hgd:ds.getD qv 0=ds[qv]:=by simp[List.getD_eq_getElem?_getD,VG]
        obtain⟨D9,BZ⟩:=aB (ds[qv]+E);rw[hgd,BZ]at wN;have td:=aj (mY.mono (show B<=A+B by omega));have QX:Hid (Fit (A+B) (bE c)):=(yi.mono (show A<=A+B by omega)).fit zo;have Rp:Hid (au (bE c) *au (s,m,e)=E):=by show au (canon c) *_=E;rw[bF,hX];exact hE
        have adp:Sm (A+B) E:=by rw[<-hE,<-hX];exact Sm.mul yi mY.2
        have QT:Hid (Fit (A+B+4608) (bE E)):=(adp.mono zo).fit zo;have QI:Hid (ds[qv]+au (bE E)=D9):=by show ds[qv]+au (canon E)=D9;rw[bF];exact BZ
        have QK:Hid (Sm (A+B+4608) ds[qv]):=UT _ (List.getElem_mem VG);obtain⟨jA,Hq3,alH⟩:=cw hlen wN UR;obtain⟨bN,oN,aeb,n0,n1,n2⟩:=(show At wr aN ((cs.map canon).flatMap bu)by rw[<-sf];exact E2.out.chg pg (λb o e=>HnN.out b o e (by intro h0;rw[h0]at Kn;simp at Kn))).num k Kn hcc;obtain⟨bL,oL,aea,u0,u1,u2⟩:=(E3.out.chg pg (λb o e=>HnL.out b o e (by intro h0;rw[h0]at Km;simp at Km))).num j Km hx;have ixN:=Wm N Ed k (k:Int) aeb hlt rfl;have ixL:=mg v1 abJ j (j:Int) aea bA rfl;have Kl:j<l8.length:=by rw[Rj.out];exact bA
        have hux:l8[j].toNat<=20:=by
         have jxk:j<xk.length:=by rw[Hxl.out];exact bA
         have e8:l8[j]=UInt8.ofNat xk[j]:=by
          have:l8[j]?=(xk.map UInt8.ofNat)[j]?:=by rw[LU.out]
          rw[List.getElem?_eq_getElem Kl,List.getElem?_eq_getElem (by simpa using jxk)]at this;simpa using this
         have h20:=anQ.out _ (List.getElem_mem jxk);rw[e8];simp;omega
        have hu1:(l8[j]+1).toNat=l8[j].toNat+1:=by rw[UInt8.toNat_add];simp;omega
        obtain⟨l9,wL⟩:∃l,l8.set j (l8[j]+1)=l:=⟨_,rfl⟩;have afn:l9.length=v1:=by rw[<-wL,List.length_set];exact Rj.out
        have hkey:f l9=qv:=by rw[<-hq1,<-auP xk j (by rw[Hxl.out];exact bA),LU.out,<-wL];congr 2;simp[List.getD_eq_getElem?_getD,Kl]
        obtain⟨p8,JP⟩:∃p:Int,(l8[j].toNat:Int)=p:=⟨_,rfl⟩;obtain⟨q8,hq8⟩:∃q:Int,((l8[j]+1).toNat:Int)=q:=⟨_,rfl⟩;have hw8:IntKind.u8.wrap (p8+1)=q8:=by rw[IntKind.wrap_u8];omega
        have Cb:M<9223372036854775808:=by omega
        have Hg:Hid (ar wr w.heap.size 188 [.slice aN N Ed,af (V:Int),af (D:Int)]):=pg.blk E0.out zo;have Ho:Hid (ar wr bO 188 [.slice (some ⟨bB,0,none⟩) M M,af (V:Int),af (d1:Int)]):=pg.blk E5.out zo;have qK:Hid (aZ wr bN (oN+k*3) (bG c)):=kE n0 n1 n2;have Hu:Hid (aZ wr bL (oL+j*3) [ag s,ah m,af e]):=kE u0 u1 u2;have hMp:Mp wr bm M f:=pg.mp E4.out zo;have tG:aC wr:=pg.tab E6.out nT;obtain⟨nJ,kd,al8,Rk,aag,Hp8,Hq8⟩:=jL pg pB hkey wL afn JP hq8;have lbB:=pB.lt;clear pg pB hkey wL afn hq1 wN UR hlen UT hgd BZ hE hX hLj hcc hc hx mY yi adp n0 n1 n2 u0 u1 u2 aeb aea JP hq8 hu1 hux aeO;have Hb:=hbz wr;obtain⟨ae,ak⟩:=qZ (Hg.an<|Ho.an<|qK.an<|Hu.an trivial);have vP:Hid (Mp wr bm M f):=hMp;have eJ:Hid (aC wr):=tG;have ut:Hid (ar wr bB 30 (dC ds)):=kd.out;clear hMp tG kd;have u2:wr.cell? ⟨bL,oL+j*3+2,none⟩=some (af e):=ae.2.2.2.1.out.cell 2 zm;have u1:wr.cell? ⟨bL,oL+j*3+1,none⟩=some (ah m):=ae.2.2.2.1.out.cell 1 zm;have u0:wr.cell? ⟨bL,oL+j*3,none⟩=some (ag s):=ae.2.2.2.1.out.cell 0 zm;have P0:=u0;have P1:=u1;have P2:=u2;obtain⟨W4,kV,aR,ae,ak⟩:=bX wr (Hb.an<|vP.an<|eJ.an<|ut.an ae) 30 [ag s,ah m,af e];obtain⟨cb,W5,hcv,di,hs5,pC⟩:=ajd l8 W4;rw[Rj.out]at hcv;have OP:=yw v1 cb j (j:Int) (rfl:(some ⟨W4.heap.size,0,none⟩:Option Addr)=_) bA rfl;rw[Nat.zero_add,Nat.mul_one]at OP;have m0:W5.cell? ⟨W4.heap.size,j,none⟩=some (.int .u8 p8):=by rw[(pC j Kl).1,Hp8.out]
        have mf:W5.frozen? ⟨W4.heap.size,j,none⟩=false:=(pC j Kl).2;have UI:=pC.set j Kl (l8[j]+1);rw[Rk.out,Hq8.out]at UI;obtain⟨ZE,gW⟩:=aK UI di;clear pC UI di;go_wp2_with fail;refine dA (λW6=>vM W6 W4.heap.size l9/\Bw W4 W6) ⟨ZE.out,gW.out.setCell (Nat.le_refl _) _⟩ ?_;rintro W6 ⟨qM,Jh⟩;have HqM:=aj qM;obtain⟨ae,ak⟩:=qX Jh ae;skip
        clear qM Jh m0 mf hcv ZE gW P0 P1 P2 hs5;have hback:∀w',ez W6 w'->(convert 172 9 (.slice (some ⟨W4.heap.size,0,none⟩) v1 cb)).run Tryz.prog w'=.ok (ah l9) w':=λw' h=>by have:=(HqM.out.below h).back cb;rw[aag.out]at this;exact this
        have Jw:∀w',ez W6 w'->(Instr.lookup 215 (.map (some bm)) (ah l9) false).run Tryz.prog w'=.ok (af (qv:Int)) w':=λw' h=>by have:=(ae.2.2.1.out.below h).look l9 (by simp[maxLen];have:=aag.out;have:=Sc.out;omega);rw[al8.out]at this;exact this
        obtain⟨Hy,Hb,vP,eJ,ut,Hg,Ho,qK,Hu,_⟩:=ae;obtain⟨g0,g1,g2⟩:=Hg.out.c3;obtain⟨o0,o1,o2⟩:=Ho.out.c3;obtain⟨Fi,Fj,Fl⟩:=qK.out.w3;obtain⟨u0,u1,u2⟩:=Hu.out.w3;obtain⟨y0,y1,y2⟩:=Hy.out.c3;have gJ:∀w',ez W6 w'->aH w' bO 0 (.slice (some ⟨bB,0,none⟩) M M)/\aH w' (w.heap.size) 0 (.slice aN N Ed)/\aH w' bN (oN+k*3) (ag (az (dN c)))/\aH w' bN (oN+k*3+1) (ah (nt (dN c).natAbs))/\aH w' bN (oN+k*3+2) (af (dE c))/\aH w' (wr.heap.size) 0 (ag s)/\aH w' (wr.heap.size) 1 (ah m)/\aH w' (wr.heap.size) 2 (af e)/\(convert 172 9 (.slice (some ⟨W4.heap.size,0,none⟩) v1 cb)).run Tryz.prog w'=.ok (ah l9) w'/\(Instr.lookup 215 (.map (some bm)) (ah l9) false).run Tryz.prog w'=.ok (af (qv:Int)) w':=λw' h=>⟨cell_later h o0,cell_later h g0,cell_later h Fi,cell_later h Fj,cell_later h Fl,cell_later h y0,cell_later h y1,cell_later h y2,hback w' h,Jw w' h⟩;have cf:Hid (ez W6 W6):=Below.refl _ _;refine fh (λw'=>ez W6 w') (λi=>Nat.blt i 14) [(0,true),(1,true),(2,true),(3,true),(4,true),(5,true),(6,true),(7,true),(8,true),(9,true),(10,true),(11,true),(12,false),(13,false),(14,false)] zk zk rfl zk zc cf.out.drew ?_;iterate 12 (refine Ps rfl rfl (v:=?_) (λw' hw'=>?_) ?_;rotate_left;(focus have hw':=gJ w' hw';obtain⟨q0,q1,q2,q3,q4,q5,q6,q7,q8,q9⟩:=hw';go_simp;try with_reducible rfl);try simp only[UU])
        refine aM rfl rfl (λK hK=>?_);go_simp;refine hK _ _ (λ_=>by first|exact cf.out.alloc _|exact(cf.out.alloc _).drew|exact(cf.out.drew).alloc _) ?_;try simp only[UU]
        refine cB (λW7=>ar W7 (W6.heap.size) 30 [ag (az (dN c)),ah (nt (dN c).natAbs),af (dE c),ag s,ah m,af e]/\Bw W6 W7) (by first|exact iX|exact iY) ?_;rintro W7 ⟨qm1,ai⟩;have aE7:=Hg.out.lt;have aFf:=Ho.out.lt;have aFq:=Hy.out.lt;replace cf:=aj (cf.out.below ai);replace Hg:=kB Hg ai;replace Ho:=kB Ho ai;replace qK:=kW qK ai;replace Hu:=kW Hu ai;replace vP:=kM vP ai;replace eJ:=kT eJ ai;replace ut:=kB ut ai;replace Hy:=kB Hy ai;have vU:=aj qm1;clear qm1;obtain⟨g0,g1,g2⟩:=Hg.out.c3;obtain⟨o0,o1,o2⟩:=Ho.out.c3;obtain⟨Fi,Fj,Fl⟩:=qK.out.w3;obtain⟨u0,u1,u2⟩:=Hu.out.w3;obtain⟨y0,y1,y2⟩:=Hy.out.c3;obtain⟨m10,m11,m12,OT,OU,m15⟩:=vU.out.c6;replace Hb:=aW Hb ai;refine aM rfl rfl (λK hK=>?_);go_simp;with_reducible refine(tB _ _ _ _ _ _ E (A+B) Rp.out _ 2 _ _ QX.out td.out zo vU.out (by first|exact eJ.out|exact aC.drew eJ.out|exact aC.alloc eJ.out _|exact aC.drew (aC.alloc eJ.out _) |exact aC.alloc (aC.drew eJ.out) _)).mono ?_
        rintro e w8 ⟨rfl,hq⟩;have ai:Bw W7 w8:=by first|exact hq|exact cu hq
        clear g0 g1 g2 o0 o1 o2 Fi Fj Fl u0 u1 u2 y0 y1 y2 m10 m11 m12 OT OU m15;replace cf:=aj (cf.out.below ai);obtain⟨Hg,g0,g1,g2⟩:=gD Hg ai;obtain⟨Ho,o0,o1,o2⟩:=gD Ho ai;replace qK:=kW qK ai;replace Hu:=kW Hu ai;replace vP:=kM vP ai;replace eJ:=kT eJ ai;replace ut:=kB ut ai;obtain⟨Hy,y0,y1,y2⟩:=gD Hy ai;obtain⟨vU,m10,m11,m12,OT,OU,m15⟩:=AA vU ai;obtain⟨Fi,Fj,Fl⟩:=qK.out.w3;obtain⟨u0,u1,u2⟩:=Hu.out.w3;replace Hb:=aW Hb ai;refine hK _ _ (λ_=>cf.out) ?_;try simp only[UU]
        refine aM rfl rfl (λK hK=>?_);go_simp;with_reducible refine(ai2 bB M qv (A+B+4608) ds (az (dN E)) (nt (dN E).natAbs) (dE E) D9 _ jA.out ut.out VG QT.out QK.out zo QI.out (by first|exact eJ.out|exact aC.drew eJ.out|exact aC.alloc eJ.out _|exact aC.drew (aC.alloc eJ.out _) |exact aC.alloc (aC.drew eJ.out) _)).mono ?_
        rintro e' w9 ⟨⟨rv,rfl⟩,qB,qg⟩;refine hK _ _ (λh=>absurd h zd) ?_;simp only[bH];have RI:=aj qB;have RJ:Hid (Chg (λb=>b=bB) w3 w9):=(nJ.out.aGu Hb.out).trans (Chg.aGs qg (λb e=>by cases e;rfl)) (λb h=>.inl h);clear qB qg hback Jw gJ;go_wp2;go_roundw;case rel=>exact⟨j+1,by omega,by go_num,by rw[alH.out,Hq3.out];exact RI.out,RJ.out⟩
        case measure=>exact bC
      . obtain rfl:j=v1:=by omega
        have hn:=Du.out k hlt;rw[Sc.out]at hn;rw[hn]at pB;have kd:=aj pB;clear pB hn;go_wp2;go_roundw;case rel=>exact⟨k+1,by omega,by go_num,kd.out,pg⟩
        case measure=>exact bC
   . obtain rfl:k=N:=by omega
     have Og:=pg.blk E0.out zo;have gB:=pg.blk E1.out zo;have na:=pg.blk E5.out zo;rw[ZK.out]at pB;obtain⟨r0,aO,r1,aQ,r2,dQ⟩:=gB.g3;obtain⟨o0,o1,o2⟩:=na.c3;obtain⟨je,kd⟩:=aK (E7.out.trans (pg.below (n:=w.heap.size) zo (λb e=>by omega))) pB;clear pB Og gB na;go_wp2;refine bodyPost_ret (v:=.agg #[.slice (some ⟨bB,0,none⟩) M M,af (V:Int),af (d1:Int)]) (by simp[results,Tryz.results140,go_sem,r0,r1,r2]) rfl ⟨bB,rfl,by omega,At.aGr (t:=30) ?_,?_⟩
     . exact((kd.out.so _ _ zo _).so _ _ zo _).so _ _ zo _
     . exact((je.out.setCell zp _).setCell zp _).setCell zp _
def Gr (w:World)(base g8 V m:Nat)(cs:List Dyadic):Prop:=
 ∃aG zK,ar w g8 188 [.slice aG (cnt V m) zK,af (V:Int),af (m:Int)]/\At w aG (dC cs)/\∀b o,aG=some ⟨b,o,none⟩->base<=b
def Gr.below {w w':World}{base g8 V m:Nat}{cs:List Dyadic}(h:Gr w base g8 V m cs)(hb:Bw w w'):Gr w' base g8 V m cs:=by obtain⟨a,c,h1,h2,h3⟩:=h;exact⟨a,c,h1.below hb,h2.below hb,h3⟩
def zO (rows:List (List Raw))(k:Nat):List Raw:=rows.map λr=>r.getD k (false,[],0)
def aqu (rows:List (List Raw))(k V:Nat)(hrow:∀r∈rows,r.length=V)(hk:k<V):(zO rows k).map au=oY (rows.map λr=>r.map au) k:=by
 unfold zO oY;rw[List.map_map,List.map_map];refine List.map_congr_left (λr hr=>?_);have h:=hrow r hr;show au (r.getD k _)=(r.map au).getD k 0
 simp[List.getD_eq_getElem?_getD,show k<r.length by omega]
def aqt {B V k:Nat}{rows:List (List Raw)}(hrow:∀r∈rows,r.length=V)(hk:k<V)(hfit:∀r∈rows,∀c∈r,Fit B c):∀x∈zO rows k,Fit B x:=by
 intro x hx;unfold zO at hx;obtain⟨r,hr,rfl⟩:=List.mem_map.1 hx;have h:=hrow r hr;have e:r.getD k (false,[],0)=r[k]'zo:=by simp[List.getD_eq_getElem?_getD,show k<r.length by omega]
 rw[e];exact hfit r hr _ (List.getElem_mem _)
def ar4 {α β:Type}(f:α->List β)(xs:List α)(k:Nat)(h:k<xs.length):(xs.take (k+1)).flatMap f=(xs.take k).flatMap f++f xs[k]:=by rw[List.take_succ_eq_append_getElem h,List.flatMap_append];simp
def aAk (es:List Nat)(k:Nat):(es.take k).sum<=es.sum:=by
 induction es generalizing k with
 |nil=>simp
 | cons x es ih=>
   cases k with
   |zero=>simp
   |succ k=>have:=ih k;simp at this⊢;omega
def Tg (w:World)(g8:Nat):Nat:=match w.cell? ⟨g8,2,none⟩with|some v=>(intOf v).toNat|none=>0
def ach {w:World}{g8 m:Nat}{t:TypeId}{x y:Value}(h:ar w g8 t [x,y,af (m:Int)]):Tg w g8=m:=by unfold Tg;rw[h.cell];simp[intOf]
def aAr (V D L:Nat)(l:List UInt8)(s:Bool)(mm:List UInt8)(e:Int)(a:Option Addr)(cap:Nat)(rows:List (List Raw))(B:Nat)(c:Dyadic)(w:World)(hV:1<=V)(hV2:V<=8)(hL:rows.length=L)(kR:L=V+1)(hrow:∀r∈rows,r.length=V)
 (hll:l.length=V) (rI:(l.map UInt8.toNat).sum<=D) (hD:D<=20) (rE:∀d,d<=D->cnt V d<=512) (ha:bJ w a rows) (hfit:∀r∈rows,∀c∈r,Fit B c) (hx:Ok (s,mm,e)) (hc:au (s,mm,e)=c) (hcs:Sm B c) (bP:1<=B) (hB:B<=100000) (hT:aC w):
 Cl 51 #[.agg #[ah l,ag s,ah mm,af e],.slice a L cap,af (D:Int)] w λe w'=>∃a' c',e=.returned (.slice a' (cnt V D) c')/\
  At w' a' (dC (tC V D (rows.map λr=>r.map au) c (l.map UInt8.toNat)))/\(∀b o,a'=some ⟨b,o,none⟩->w.heap.size<=b)/\Bw w w':=by
 obtain⟨i0,hi,hz0,hz1,hz2⟩:=info_parts Tryz.aGt;obtain⟨S,hS⟩:=aB (rows.map λr=>r.map au);obtain⟨es,hes⟩:=aB (l.map UInt8.toNat);have aeR:es.length=V:=by rw[<-hes];simpa using hll
 have jW:∀r∈S,∀d∈r,Sm B d:=by intro r hr d hd;rw[<-hS]at hr;obtain⟨x,hx,rfl⟩:=List.mem_map.1 hr;obtain⟨y,hy,rfl⟩:=List.mem_map.1 hd;exact(hfit x hx y hy).2
 have UO:∀k,∀d∈oY S k,Sm B d:=by intro k d hd;unfold oY at hd;obtain⟨r,hr,rfl⟩:=List.mem_map.1 hd;exact uT (jW r hr) k
 have hone:∀d∈ue V,Sm B d:=by intro d hd;rw[(List.mem_replicate.1 hd).2];exact Sm.mono (A:=1) ⟨2,by decide,by decide⟩ bP
 rw[hS,hes];rw[hes]at rI;have ae4:∀ls:List (List Dyadic),ls.length<=D->(∀l∈ls,∀d∈l,Sm B d)->∀d∈iT V 0 [c] ls,Sm (B+20* (B+4608)) d:=by intro ls h1 h2 d hd;refine(ac8 (A:=B) (B:=B) (V:=V) (D:=0) (cs:=[c]) ls (by simpa using hcs) h2 hV2 (λd hd=>rE d zo) d hd).mono ?_;have:=Nat.mul_le_mul_right (B+4608) (show ls.length<=20 by omega);omega
 have ae2:∀ls:List (List Dyadic),(iT V 0 [c] ls).length=cnt V ls.length:=λls=>by have:=ac7 V 0 [c] ls (by rw[zM];rfl);rw[Nat.zero_add]at this;exact this
 have Cy:∀k,k<=V->(nC S es k).length<=es.sum:=λk hk=>by rw[XE S es k zo];exact aAk es k
 have agn:∀k,∀l∈nC S es k,∀d∈l,Sm B d:=by intro k l hl;unfold nC at hl;rw[List.mem_flatMap]at hl;obtain⟨t,_,hl⟩:=hl;rw[(List.mem_replicate.1 hl).2];exact UO t
 have hform:=λW=>λ(hT:aC W)=>pq s mm e c hc W hx hT;obtain⟨one,Oz⟩:∃one:Dyadic,(1:Dyadic)=one:=⟨_,rfl⟩;have hof:=λW=>λ(hT:aC W)=>uP 1 one Oz W zd hT;have afS:Fit B (canon one):=by rw[<-Oz];exact(Sm.mono (A:=1) ⟨2,by decide,by decide⟩ bP:Sm B 1).fit zo
 obtain⟨amM,amO⟩:=aK afS Oz;clear afS Oz;have hfc:Fit B (canon c):=hcs.fit zo;obtain⟨alV,uz,Hi,eu,ey,dM,HS,Hes,QS,alx,BB,aaP⟩:=ie hform hof hi hz0 hz1 hz2 hS hes aeR UO hone rI;obtain⟨aac,aaa,anm,aaL,jz,HL,qQ,LW,LL,Ha,vS,eK⟩:=ie ae4 ae2 Cy agn kR hL hrow hll rE ha hfit hT;have hwV:IntKind.i64.wrap ((L:Int)-1)=(V:Int):=by rw[IntKind.wrap_i64];omega
 clear kR hform hof hi hz0 hz1 hz2 hS hes aeR jW UO hone rI ae4 ae2 Cy agn hL hrow hll rE ha hfit hx hc hcs hT hfc;obtain⟨W,cE,ae,ak⟩:=il w 90 [ah l,ag s,ah mm,af e];have eJ:Hid (aC W):=eK.out.below ae.1.out;go_enter Tryz.func51,Tryz.ntmps51;go_wp2_with fail;refine aJ (eJ.an ae) (alV.out _ eJ.out) λw1 ae ak=>?_;have t0:w1.cell? ⟨w.heap.size,0,none⟩=some (ah l):=ae.2.2.1.out.cell 0;have P0:=t0;obtain⟨W2,nV,aR,ae,ak⟩:=KH w1 ae 30 (bG c) 188 [.slice (some ⟨w1.heap.size,0,none⟩) 1 1,af (V:Int),af 0];have XX:=ae.2.2.2.1.out.size;have lz1:w.heap.size<w1.heap.size:=zo;go_upto_region 3 with fail
 refine dA (λW9=>ar W9 w.heap.size 90 [ah l,ag s,ah mm,af e]/\ar W9 w1.heap.size 30 (bG c)/\ar W9 (w1.heap.size+1) 188 [.slice (some ⟨w1.heap.size,0,none⟩) 1 1,af (V:Int),af 0]/\Bw w W9)
  ⟨ae.2.2.2.2.1.out.so _ _ zo _,ae.1.out.so _ _ zo _,ae.2.1.out.set 2 _,ae.2.2.2.1.out.sc _ _ zo _⟩ ?_
 rintro W9 ⟨qt,qn,qg,ku⟩;have t0:W9.cell? ⟨w.heap.size,0,none⟩=some (ah l):=qt.cell 0;obtain⟨cb,W3,hcv,hb3,hs3,pC⟩:=ajd l W9;rw[LW.out]at hcv;have lg:=qg.lt;have hGr:Gr W3 w.heap.size (w1.heap.size+1) V 0 [c]:=by
  refine⟨some ⟨w1.heap.size,0,none⟩,1,?_,?_,λb o e=>by cases e;omega⟩
  . rw[zM];exact qg.below hb3
  . exact At.aGr (qn.below hb3)
 have UK:=aI ku hb3;have ad3:=eK.out.below UK;have YY:Hid (w1.heap.size+1<W9.heap.size/\W9.heap.size<=W3.heap.size):=⟨lg,hb3.size⟩;obtain⟨YX,LG,aB5,vR⟩:=dv hGr UK ad3 pC;clear hGr UK ad3 pC hb3 ku qt qn qg;go_wp2_with fail;clear t0 hcv;go_loopw[27] (λx wr=>∃k:Nat,k<=V/\x=af (k:Int)/\Gr wr w.heap.size (w1.heap.size+1) V (nC S es k).length (iT V 0 [c] (nC S es k))/\Chg (λb=>b=w1.heap.size+1) W3 wr) (λx _=>V-(intOf x).toNat);case atStart=>exact⟨0,Nat.zero_le _,rfl,YX.out,Chg.refl _ _⟩
 case round=>
  clear YX;obtain⟨k,hk,rfl,pG,pg⟩:=hrel;by_cases hlt:k<V
  . have jl:k<l.length:=by rw[LW.out];exact hlt
    have kR:=jz.out;have IW:L<=9:=by omega
    have gsz:w1.heap.size+1<W3.heap.size:=by have:=YY.out;omega
    have m0:wr.cell? ⟨W9.heap.size,k,none⟩=some (.int .u8 (l[k].toNat:Int)):=pg.cell (vR.out k jl).1 zp;have OP:=yw V cb k (k:Int) (rfl:(some ⟨W9.heap.size,0,none⟩:Option Addr)=_) hlt rfl;rw[Nat.zero_add,Nat.mul_one]at OP;obtain⟨ek,NY⟩:=aB (l[k].toNat);have aDP:ek<=255:=by rw[<-NY];have:=l[k].toNat_lt;omega
    have UW:es.getD k 0=ek:=by rw[<-NY,<-Hes.out];simp[List.getD_eq_getElem?_getD,jl]
    rw[NY]at m0;obtain⟨sh,hsh⟩:=aB (nC S es k);obtain⟨rh,Jn⟩:=aB (zO rows k);have hcl:rh.length=L:=by rw[<-Jn];simp[zO,HL.out]
    have hcv:rh.map au=oY S k:=by rw[<-Jn,<-HS.out];exact aqu rows k V qQ.out hlt
    have hcf:∀x∈rh,Fit B x:=by rw[<-Jn];exact aqt qQ.out hlt vS.out
    have aDz:sh.length+ek<=D:=by have h1:=anm.out (k+1) hlt;have h2:=congrArg List.length (XF S es k);rw[List.length_append,List.length_replicate,UW,hsh]at h2;have h3:=aaP.out;omega
    have afN:nC S es (k+1)=sh++List.replicate ek (oY S k):=by rw[XF,UW,hsh]
    rw[hsh]at pG;have dY:=LG.out.trans (pg.below (n:=w.heap.size) (by have:=LG.out.size;omega) (λb e=>by omega));obtain⟨RA,nJ,fJ,alB,Hcf,amG,fX,alv,tu⟩:=CG pG pg hcl hcv hcf afN dY Jn hsh;clear pG pg hcl hcv hcf afN dY Jn UW NY hsh kR;obtain⟨wk,hwk⟩:∃wk,wk=wr:=⟨_,rfl⟩;subst hwk;have XW:=nJ.out.size;go_wp2_with fail;go_loopw[11,34] (λKM x wr=>∃(j:Nat) (v2:Value),j<=L/\x=af (j:Int)/\v2=KM/\wr.ownsRow wk.heap.size 30 3 v2 j ((rh.take j).flatMap bu)/\Bw wk wr) (λ_ x _=>L-(intOf x).toNat);case atStart=>exact⟨0,_,Nat.zero_le _,rfl,rfl,World.ownsRow_nil _ _ _ _,Below.refl _ _⟩
    case round=>
     clear m0 OP;obtain⟨j,v2,hj,rfl,rfl,ho,hb2⟩:=hrel;by_cases bA:j<L
     . have jr:j<rows.length:=by rw[HL.out];exact bA
       obtain⟨b1,o1,a1,c1,hab,hc1,hat⟩:=(Ha.out.below (fX.out.trans (hb2.mono (by have:=fX.out.size;omega)))).row j jr;have hrl:=qQ.out _ (List.getElem_mem jr);have kr:k<rows[j].length:=by rw[hrl];exact hlt
       obtain⟨s1,m1,e1,hx1⟩:=sk (rows[j][k]);obtain⟨b2,o2,dG,p0,p1,p2⟩:=hat.num k kr hx1;rw[hrl]at hc1;have jc:j<rh.length:=by rw[fJ.out];exact bA
       have hst:(rh.take (j+1)).flatMap bu=(rh.take j).flatMap bu++[ag s1,ah m1,af e1]:=by
        rw[ar4 bu rh j jc];congr 1;have:rh[j]=(s1,m1,e1):=by
         have h9:rh[j]?=(zO rows k)[j]?:=by rw[alv.out]
         rw[List.getElem?_eq_getElem jc]at h9;unfold zO at h9;rw[List.getElem?_map,List.getElem?_eq_getElem jr]at h9;simp only[Option.map_some,Option.some.injEq]at h9;rw[h9];simp[List.getD_eq_getElem?_getD,kr,hx1]
        rw[this];rfl
       have ub:=sJ L cap j (j:Int) hab bA rfl;rw[Nat.mul_one]at ub;have Ay:=yz V c1 k (k:Int) dG hlt rfl;obtain⟨bR,Ho,cX⟩:=cw hst ho hb2;have Hp:Hid (aZ wr b2 (o2+k*3) [ag s1,ah m1,af e1]):=kE p0 p1 p2;have yO:=hb2.size;clear hst ho hb2 hab dG hat hrl kr hx1 p0 p1 p2;have Hb:=hbz wr;obtain⟨ae,ak⟩:=qZ (Hp.an trivial);have p1:wr.cell? ⟨b2,o2+k*3+1,none⟩=some (ah m1):=ae.1.out.cell 1 zm;have p0:wr.cell? ⟨b2,o2+k*3,none⟩=some (ag s1):=ae.1.out.cell 0 zm;have p2:wr.cell? ⟨b2,o2+k*3+2,none⟩=some (af e1):=ae.1.out.cell 2 zm;have P0:=p0;have P1:=p1;have P2:=p2;obtain⟨W6,pu,aR,ae,ak⟩:=bX wr (Hb.an ae) 30 [ag s1,ah m1,af e1];have bW:=ownsRow_below Ho.out ae.2.1.out;have jq:=ae.2.1.out.size;have hnews:=ji ae.1.out;skip
       go_wp2_with (at_builtin;refine wpList_append_own_at _ rfl _ _ 35 rfl wk.heap.size 30 i0 _ 3 32 Tryz.underlying35 Hi.out eu.out ey.out dM.out rfl zd v2 j ((rh.take j).flatMap bu) rfl bW ⟨wr.heap.size,0,none⟩ 1 1 [ag s1,ah m1,af e1] rfl rfl hnews zy zx zo zo ?_;intro v' w7 eQ fL _ _;obtain⟨g',rp,rfl⟩:=ownsRow_succ eQ);go_roundw;case rel=>
        refine⟨j+1,_,by omega,by go_num,rfl,?_,?_⟩
        . rw[bR.out];exact eQ
        . exact(aI cX.out ae.2.1.out).grown fL zo (λj e=>eo bW j e)
       case measure=>exact bC
     . obtain rfl:j=L:=by omega
       have hct:rh.take j=rh:=List.take_of_length_le (by rw[fJ.out];exact Nat.le_refl _);rw[hct]at ho;obtain⟨a2,cap2,rfl,jD,dG⟩:=dZ ho;obtain⟨GU,aaB,xy,Qn,Gk⟩:=gT (RA.out.below hb2) (nJ.out.aGu hb2) jD dG ((eK.out.below fX.out).below hb2);have yO:=hb2.size;clear ho hb2 hct jD dG;obtain⟨wj,ng⟩:∃wj,wj=wr:=⟨_,rfl⟩;subst ng;go_wp2_with fail;go_loopw[49] (λx wr=>∃i:Nat,i<=ek/\x=.int .u8 (i:Int)/\Gr wr w.heap.size (w1.heap.size+1) V (sh.length+i) (iT V 0 [c] (sh++List.replicate i (oY S k)))/\Chg (λb=>b=w1.heap.size+1) wj wr) (λx _=>ek-(intOf x).toNat);case atStart=>exact⟨0,Nat.zero_le _,rfl,by simpa using GU.out,Chg.refl _ _⟩
       case round=>
        clear GU;obtain⟨i,hie,rfl,pG,pg⟩:=hrel;by_cases gz:i<ek
        . have hw8:IntKind.u8.wrap ((i:Int)+1)=((i+1:Nat):Int):=by rw[IntKind.wrap_u8];omega
          obtain⟨aG,zK,hbk,uZ,hbase⟩:=pG;obtain⟨vC,vt⟩:∃ls,sh++List.replicate i (oY S k)=ls:=⟨_,rfl⟩;obtain⟨m,hm⟩:=aB (sh.length+i);have hlm:vC.length=m:=by rw[<-vt,<-hm,List.length_append,List.length_replicate]
          have Vo:m<D:=by omega
          have JU:iT V 0 [c] (sh++List.replicate (i+1) (oY S k))=vK V m (iT V 0 [c] vC) (oY S k):=by rw[List.replicate_succ',<-List.append_assoc,vt,ac9,Nat.zero_add,hlm]
          have Jx:∀l∈vC,∀d∈l,Sm B d:=by
           intro l hl;rw[<-vt,List.mem_append]at hl;rcases hl with hl|hl
           . exact aaL.out k l (by rw[tu.out];exact hl)
           . rw[(List.mem_replicate.1 hl).2];exact alx.out k
          rw[vt]at uZ;rw[hm]at hbk;obtain⟨N,hN⟩:=aB (cnt V m);obtain⟨M,hM⟩:=aB (cnt V (m+1));rw[hN]at hbk;have fO:¬(0=w1.heap.size+1):=by have:=eK.out.lt;omega
          have wP:=ajr V m N M (B+20* (B+4608)) B aG zK (iT V 0 [c] vC) a2 cap2 rh (oY S k) j jz.out.symm (m+1) rfl wr hV hV2 zo hN hM (by rw[<-hN];exact LL.out m zo) (by rw[<-hM];exact LL.out (m+1) zo) (by rw[aaa.out,hlm,hN]) fJ.out alB.out uZ (xy.out.chg pg (λb o e=>by have:=Qn.out b o e;omega)) (aac.out vC zo Jx) Hcf.out zo (pg.tab Gk.out fO);obtain⟨RY,Hg,GV,RU,Hm,HM⟩:=gU wP hbk pg JU hm hM;clear wP hbk pg JU hm hM hN hlm uZ Jx vt;have Hb:=hbz wr;have lg8:=Hg.out.lt;obtain⟨ae,ak⟩:=qZ (Hg.an trivial);go_wp2_with fail;refine(RY.out).mono ?_;rintro e w2 ⟨bO,rfl,hbO,Jf,ai⟩;obtain⟨ae,ak⟩:=qX ai (Hb.an ae);have Qr:=aj Jf;have xB:Hid (Chg (λb=>b=w1.heap.size+1) wj w2):=GV.out.aGu ae.1.out;clear Jf;go_wp2;go_roundw;case rel=>
           have hblk:=((ae.2.1.out.set 0 (.slice (some ⟨bO,0,none⟩) M M)).set 1 (af (V:Int))).set 2 (af ((m:Int)+1));have UM:=((xB.out.set (a:=⟨w1.heap.size+1,0,none⟩) rfl (.slice (some ⟨bO,0,none⟩) M M)).set (a:=⟨w1.heap.size+1,1,none⟩) rfl (af (V:Int))).set (a:=⟨w1.heap.size+1,2,none⟩) rfl (af ((m:Int)+1));have yf:=Qr.out.chg ((((Chg.refl (λb=>b=w1.heap.size+1) w2).set (a:=⟨w1.heap.size+1,0,none⟩) rfl (.slice (some ⟨bO,0,none⟩) M M)).set (a:=⟨w1.heap.size+1,1,none⟩) rfl (af (V:Int))).set (a:=⟨w1.heap.size+1,2,none⟩) rfl (af ((m:Int)+1))) (λb o e=>by cases e;omega);refine⟨i+1,by omega,by go_num,⟨some ⟨bO,0,none⟩,M,?_,?_,λb o e=>by cases e;omega⟩,UM⟩
           . have e9:sh.length+(i+1)=m+1:=by rw[<-Hm.out];omega
             have e10:((sh.length+(i+1):Nat):Int)=(m:Int)+1:=by omega
             rw[e10,e9,HM.out];exact hblk
           . rw[RU.out];exact yf
          case measure=>exact bC
        . obtain rfl:i=ek:=by omega
          obtain⟨amV,GV⟩:=aK pG (aaB.out.trans pg (λb e=>.inl e));clear pG pg;go_wp2;go_roundw;case rel=>refine⟨k+1,by omega,by go_num,?_,GV.out⟩;rw[amG.out,List.length_append,List.length_replicate];exact amV.out
          case measure=>exact bC
  . obtain rfl:V=k:=by omega
    obtain⟨sh,hsh⟩:=aB (nC S es V);rw[hsh]at pG;have agm:sh.length=es.sum:=by rw[<-hsh,XE S es V (by rw[QS.out];exact Nat.le_refl _),List.take_of_length_le (by rw[QS.out];exact Nat.le_refl _)]
    have gsz:w1.heap.size+1<W3.heap.size:=by have:=YY.out;omega
    have dY:=LG.out.trans (pg.below (n:=w.heap.size) (by have:=LG.out.size;omega) (λb e=>by omega));obtain⟨RA,nJ,fX,tu,aaK⟩:=gT pG pg dY hsh agm;clear pG pg dY hsh agm;obtain⟨wk,hwk⟩:∃wk,wk=wr:=⟨_,rfl⟩;subst hwk;have XW:=nJ.out.size;have IW:L<=9:=by have:=jz.out;omega
    go_wp2_with fail;go_loopw[13,58] (λKN x wr=>∃(j:Nat) (v2:Value),j<=L/\x=af (j:Int)/\v2=KN/\wr.ownsRow wk.heap.size 30 3 v2 j ((List.replicate j (canon one)).flatMap bu)/\Bw wk wr) (λ_ x _=>L-(intOf x).toNat);case atStart=>exact⟨0,_,Nat.zero_le _,rfl,rfl,World.ownsRow_nil _ _ _ _,Below.refl _ _⟩
    case round=>
     obtain⟨j,v2,hj,rfl,rfl,ho,hb2⟩:=hrel;by_cases bA:j<L
     . have bR:Hid ((List.replicate (j+1) (canon one)).flatMap bu=(List.replicate j (canon one)).flatMap bu++(bG one)):=by
        show _=_
        rw[List.replicate_succ',List.flatMap_append];simp only[List.flatMap_cons,List.flatMap_nil,List.append_nil];rfl
       obtain⟨Ho,cX,Gk⟩:=cw ho hb2 ((eK.out.below fX.out).below hb2);have yO:=hb2.size;clear ho hb2;have Hb:=hbz wr;go_wp2_with fail;refine aJ (Hb.an trivial) (uz.out _ Gk.out) λw5 ae ak=>?_;obtain⟨W6,pu,aR,ae,ak⟩:=bX w5 ae 30 (bG one);have bW:=ownsRow_below Ho.out ae.2.1.out;have jq:=ae.2.1.out.size;have hnews:=ji ae.1.out;skip
       go_wp2_with (at_builtin;refine wpList_append_own_at _ rfl _ _ 35 rfl wk.heap.size 30 i0 _ 3 32 Tryz.underlying35 Hi.out eu.out ey.out dM.out rfl zd v2 j ((List.replicate j (canon one)).flatMap bu) rfl bW ⟨w5.heap.size,0,none⟩ 1 1 (bG one) rfl rfl hnews zy zx zo zo ?_;intro v' w7 eQ fL _ _;obtain⟨g',rp,rfl⟩:=ownsRow_succ eQ);go_roundw;case rel=>
        refine⟨j+1,_,by omega,by go_num,rfl,?_,?_⟩
        . rw[bR.out];exact eQ
        . exact(aI cX.out ae.2.1.out).grown fL zo (λj e=>eo bW j e)
       case measure=>exact bC
     . obtain rfl:L=j:=by omega
       obtain rfl:L=V+1:=jz.out;obtain⟨a2,cap2,rfl,jD,dG⟩:=dZ ho;obtain⟨GU,aaB,xy,Qn,Gk⟩:=gT (RA.out.below hb2) (nJ.out.aGu hb2) jD dG ((eK.out.below fX.out).below hb2);have hbz:=fX.out.trans (hb2.mono (by have:=fX.out.size;omega));have je:=aj hbz;have yO:=hb2.size;clear ho hb2 jD dG hbz;obtain⟨wj,ng⟩:∃wj,wj=wr:=⟨_,rfl⟩;subst ng;have OC:sh.length<=D:=by have:=aaP.out;have:=aaK.out;omega
       go_wp2_with fail;go_loopw[] (λwr=>∃i:Nat,sh.length+i<=D/\Gr wr w.heap.size (w1.heap.size+1) V (sh.length+i) (iT V 0 [c] (sh++List.replicate i (ue V)))/\Chg (λb=>b=w1.heap.size+1) wj wr) (λwr=>D-Tg wr (w1.heap.size+1));case atStart=>exact⟨0,by omega,by simpa using GU.out,Chg.refl _ _⟩
       case round=>
        clear GU;obtain⟨i,hie,pG,pg⟩:=hrel;by_cases gz:sh.length+i<D
        . obtain⟨aG,zK,hbk,uZ,hbase⟩:=pG;obtain⟨vC,vt⟩:∃ls,sh++List.replicate i (ue V)=ls:=⟨_,rfl⟩;obtain⟨m,hm⟩:=aB (sh.length+i);have hlm:vC.length=m:=by rw[<-vt,<-hm,List.length_append,List.length_replicate]
          have Vo:m<D:=by omega
          have JU:iT V 0 [c] (sh++List.replicate (i+1) (ue V))=vK V m (iT V 0 [c] vC) (ue V):=by rw[List.replicate_succ',<-List.append_assoc,vt,ac9,Nat.zero_add,hlm]
          have Jx:∀l∈vC,∀d∈l,Sm B d:=by
           intro l hl;rw[<-vt,List.mem_append]at hl;rcases hl with hl|hl
           . exact aaL.out V l (by rw[tu.out];exact hl)
           . rw[(List.mem_replicate.1 hl).2];exact BB.out
          rw[vt]at uZ;rw[hm]at hbk;obtain⟨N,hN⟩:=aB (cnt V m);obtain⟨M,hM⟩:=aB (cnt V (m+1));rw[hN]at hbk;have fO:¬(0=w1.heap.size+1):=by have:=eK.out.lt;omega
          have wP:=ajr V m N M (B+20* (B+4608)) B aG zK (iT V 0 [c] vC) a2 cap2 (List.replicate (V+1) (canon one)) (ue V) (V+1) rfl (m+1) rfl wr hV hV2 zo hN hM (by rw[<-hN];exact LL.out m zo) (by rw[<-hM];exact LL.out (m+1) zo) (by rw[aaa.out,hlm,hN]) zm (by rw[List.map_replicate,bF,<-amO.out];rfl) uZ (xy.out.chg pg (λb o e=>by have:=Qn.out b o e;omega)) (aac.out vC zo Jx) (λx hx=>by rw[(List.mem_replicate.1 hx).2];exact amM.out) zo (pg.tab Gk.out fO);obtain⟨RY,Hg,GV,RU,Hm,HM⟩:=gU wP hbk pg JU hm hM;clear wP hbk pg JU hm hM hN hlm uZ Jx vt;have Hb:=hbz wr;have lg8:=Hg.out.lt;have Hg0:=Hg;obtain⟨ae,ak⟩:=qZ (Hg.an trivial);go_wp2_with fail;refine(RY.out).mono ?_;rintro e w2 ⟨bO,rfl,hbO,Jf,ai⟩;obtain⟨ae,ak⟩:=qX ai (Hb.an ae);have Qr:=aj Jf;have xB:Hid (Chg (λb=>b=w1.heap.size+1) wj w2):=GV.out.aGu ae.1.out;clear Jf;go_wp2;go_roundw;case rel=>
           have hblk:=((ae.2.1.out.set 0 (.slice (some ⟨bO,0,none⟩) M M)).set 1 (af (V:Int))).set 2 (af ((m:Int)+1));have UM:=((xB.out.set (a:=⟨w1.heap.size+1,0,none⟩) rfl (.slice (some ⟨bO,0,none⟩) M M)).set (a:=⟨w1.heap.size+1,1,none⟩) rfl (af (V:Int))).set (a:=⟨w1.heap.size+1,2,none⟩) rfl (af ((m:Int)+1));have yf:=Qr.out.chg ((((Chg.refl (λb=>b=w1.heap.size+1) w2).set (a:=⟨w1.heap.size+1,0,none⟩) rfl (.slice (some ⟨bO,0,none⟩) M M)).set (a:=⟨w1.heap.size+1,1,none⟩) rfl (af (V:Int))).set (a:=⟨w1.heap.size+1,2,none⟩) rfl (af ((m:Int)+1))) (λb o e=>by cases e;omega);refine⟨i+1,by omega,⟨some ⟨bO,0,none⟩,M,?_,?_,λb o e=>by cases e;omega⟩,UM⟩
           . have e9:sh.length+(i+1)=m+1:=by rw[<-Hm.out];omega
             have e10:((sh.length+(i+1):Nat):Int)=(m:Int)+1:=by omega
             rw[e10,e9,HM.out];exact hblk
           . rw[RU.out];exact yf
          case measure=>have hblk:=((ae.2.1.out.set 0 (.slice (some ⟨bO,0,none⟩) M M)).set 1 (af (V:Int))).set 2 (af ((m:Int)+1));have e1:=ach Hg0.out;have e2:=ach (m:=m+1) (show ar _ _ _ [.slice (some ⟨bO,0,none⟩) M M,af (V:Int),af ((m+1:Nat):Int)]from by rw[show((m+1:Nat):Int)=(m:Int)+1 by omega];exact hblk);rw[e1,e2];omega
        . have hiD:sh.length+i=D:=by omega
          obtain⟨aG,zK,hbk,uZ,hbase⟩:=pG;rw[hiD]at hbk;have Ah:iT V 0 [c] (sh++List.replicate i (ue V))=tC V D S c es:=by unfold tC;rw[QS.out,tu.out,<-aaK.out,show D-sh.length=i by omega]
          rw[Ah]at uZ;obtain⟨g0,g1,g2⟩:=hbk.c3;have aD3:¬(D:Int)<(D:Int):=by omega
          obtain⟨ald,ali,Hbq⟩:=cw uZ hbase (je.out.trans (pg.below (n:=w.heap.size) (by have:=je.out.size;omega) (λb e=>by omega)));clear uZ hbase Ah pg hbk;go_wp2;exact bodyPost_ret (v:=.slice aG (cnt V D) zK) (by simp[results,Tryz.results51,go_sem]) rfl ⟨aG,⟨zK,rfl⟩,ald.out,ali.out,Hbq.out⟩
end Go.Proofs.YtbkopgdpcijfbaaGreatDoor
