/- Package simp: a form times a sum of shares. -/
import Derived.Test.YtnjfebkelecgaaaGreatDoorZ16
import Derived.Test.YtnjfebkelecgaaaGreatDoorZ17
import Derived.Test.YtnjfebkelecgaaaGreatDoorZ7
import Derived.Laws.IdiomStrings
import Derived.Test.YtnjfebkelecgaaaGreatDoorZ11
set_option linter.all false
set_option maxRecDepth 100000
set_option maxHeartbeats 16000000
namespace Go.Proofs.YtnjfebkelecgaaaGreatDoor
open Go.RowKit
attribute [local go_sem ↓] Go.wp_at_zero Go.wp_at_succ
def tK (w:World)(b:Nat)(l:List UInt8):Prop:=∀j (hj:j<l.length),w.cell? ⟨b,j,none⟩=some (.int .u8 (l[j].toNat:Int))/\w.frozen? ⟨b,j,none⟩=false
def tK.below {w w':World}{b:Nat}{l:List UInt8}(h:tK w b l)(hb:Bw w w'):tK w' b l:=λj hj=>⟨cell_later hb (h j hj).1,by
 have h1:=World.block_lt_of_cell? w _ (h j hj).1;rw[World.frozen?_of_block (a:=⟨b,j,none⟩) (w:=w) (hb.block b h1)]
 exact(h j hj).2⟩
def PZ (l:List UInt8)(w:World):∃c W',(convert 9 84 (.string (bs l))).run Tryz.prog w=.ok (.slice (some ⟨w.heap.size,0,none⟩) l.length c) W'/\Bw w W'/\w.heap.size<W'.heap.size/\tK W' w.heap.size l:=by
 have h:=run_bytes_of_string (P:=Tryz.prog) w 9 84 5 (bs l) Tryz.underlying9 Tryz.underlying84 Tryz.underlying5;refine⟨_,_,by rw[h,iH],((Below.refl _ _).drew).alloc (Nat.le_refl _) _,by simp,λj hj=>?_⟩;have hs:j<(bs l).data.size:=by simpa[bs]using hj
 have hb:=bytesRow_at (bs l) (grownCap w (bs l).size 0 5) j hs;refine⟨?_,?_⟩
 . have:=World.cell?_alloc_mark w.drew (bytesRow (bs l) (grownCap w (bs l).size 0 5)) 5 ((bytesRow (bs l) (grownCap w (bs l).size 0 5)).size,(bytesRow (bs l) (grownCap w (bs l).size 0 5)).size+1) j;refine this.trans (hb.trans ?_);simp[bs]
 . have:=World.frozen?_alloc_mark w.drew (bytesRow (bs l) (grownCap w (bs l).size 0 5)) 5 (bytesRow (bs l) (grownCap w (bs l).size 0 5)).size ((bytesRow (bs l) (grownCap w (bs l).size 0 5)).size+1) j;refine this.trans ?_;have hlt:=(Array.getElem?_eq_some_iff.1 hb).1;simp;omega
def tK.back {w:World}{b:Nat}{l:List UInt8}(h:tK w b l)(cap:Nat):(convert 84 9 (.slice (some ⟨b,0,none⟩) l.length cap)).run Tryz.prog w=.ok (ai l) w:=
 run_convert_bytes_back (P:=Tryz.prog) w 84 9 5 ⟨b,0,none⟩ cap l Tryz.underlying84 Tryz.underlying5 Tryz.underlying9 (λj hj=>by
  have:=(h j hj).1;rw[show(⟨b,0,none⟩:Addr).add j=⟨b,j,none⟩by simp[Addr.add];intro h;exact h.symm]
  exact this)
def tK.set {w:World}{b:Nat}{l:List UInt8}(h:tK w b l)(j:Nat)(hj:j<l.length)(u:UInt8):tK (w.setCell ⟨b,j,none⟩ (.int .u8 (u.toNat:Int))) b (l.set j u):=by
 intro i hi;have hi2:i<l.length:=by simpa using hi
 by_cases e:j=i
 . subst e;refine⟨?_,?_⟩
   . rw[World.cell?_setCell_same _ _ _ (h j hj).1];simp
   . rw[World.frozen?_setCell];exact(h j hj).2
 . refine⟨?_,?_⟩
   . rw[World.cell?_setCell_other _ _ _ _ (show(⟨b,j,none⟩:Addr)≠⟨b,i,none⟩from λh=>e (Addr.mk.inj h).2.1),(h i hi2).1];simp[e]
   . rw[World.frozen?_setCell];exact(h i hi2).2
def ahr (c:Int)(n:Nat)(hc:c=n)(h:n<=1048576)(w:World):
 (Instr.makeSlice 78 (ah c) (ah c)).run Tryz.prog w=.ok (.slice (some ⟨w.heap.size,0,none⟩) n n) (w.alloc (.cells (dC (List.replicate n 0)).toArray 48)):=by
 subst hc;obtain⟨i0,hi,hz0,hz1,hz2⟩:=info_parts Tryz.aFN;rw[run_make (P:=Tryz.prog) w 78 48 i0 _ Tryz.underlying78 hi hz0 .i64 .i64 n n zo zo (by rw[hz2];omega) zo];simp only[Int.toNat_natCast,hz1];rw[avt]
def axj (V D:Nat)(hV:1<=V)(hV2:V<=8)(hD:D<=20)(hc:cnt V D<=512):Kw (V:Int) (D:Int)=bK (V+1) D:=by unfold Kw;rw[if_pos ⟨by omega,by omega,by omega,by omega,by simpa using hc⟩];simp only[Int.toNat_natCast]
def azF (V D N M A B:Nat)(cs L:List Dyadic)(hV:1<=V)(hV2:V<=8)(hD:D<20)(hN:cnt V D=N)(hM:cnt V (D+1)=M)(xE:N<=512)(hcm:∀c∈cs,Sm A c)(vS:∀x∈L,Sm B x):
 ∃DS:Nat->Nat->List Dyadic,DS 0 0=List.replicate M 0/\(∀k,k<N->DS k (V+1)=DS (k+1) 0)/\DS N 0=su V D cs L/\
  ∀k j,k<N->j<V+1->(DS k j).length=M/\(∀d∈DS k j,Sm (A+B+4608) d)/\
   ∃q,place ((bK (V+1) (D+1)).map λx=>x.map UInt8.ofNat) M ((kQ ((bK (V+1) D).getD k []) j).map UInt8.ofNat)=q/\q<M/\DS k (j+1)=(DS k j).set q ((DS k j).getD q 0+cs.getD k 0*L.getD j 0):=by
 obtain⟨R,hR⟩:=aK (bK (V+1) D);obtain⟨R',hR'⟩:=aK (bK (V+1) (D+1));have gy:R.length=N:=by rw[<-hR,nS];exact hN
 have IM:R'.length=M:=by rw[<-hR',nS];exact hM
 have hmem:∀x∈R,x.length=V+1/\x.sum=D:=λx hx=>(kV V D x).1 (by rw[hR];exact hx);have afg:∀x∈R,∀t,t<V+1->kQ x t∈R':=λx hx t ht=>by obtain⟨h1,h2⟩:=hmem x hx;rw[<-hR'];exact(kV V (D+1) _).2 ⟨by rw[at6];exact h1,by rw[agK _ _ zo];omega⟩
 obtain⟨f,hf⟩:=aK (place (R'.map λx=>x.map UInt8.ofNat) M);have afV:∀x∈R',∃q,∃h:q<R'.length,R'[q]=x/\f (x.map UInt8.ofNat)=q:=λx hx=>by have:=awW (n:=V) (s:=D+1) zo (x:=x) (by rw[hR'];exact hx);rw[hR']at this;rw[<-hf,<-IM];exact this
 have hnd:R'.Nodup:=by rw[<-hR'];exact PR V (D+1)
 obtain⟨P,hP⟩:∃P:Nat->ju,P=λk=>vk (R.getD k []) (cs.getD k 0) λt=>L.getD t 0:=⟨_,rfl⟩;have hrow:∀k,k<N->R.getD k []∈R:=λk hk=>by
  have:R.getD k []=R[k]'zo:=by simp[show k<R.length by omega]
  rw[this];exact List.getElem_mem _
 have UG:∀k,k<N->P k=(List.range (V+1)).map λt=>(kQ (R.getD k []) t,cs.getD k 0*L.getD t 0):=λk hk=>by
  rw[hP];show vk _ _ _=_
  unfold vk;rw[(hmem _ (hrow k hk)).1]
 have hsm:∀k t,Sm (A+B) (cs.getD k 0*L.getD t 0):=λk t=>Sm.mul (rO hcm k) (rO vS t);rw[hR,hR',hf];refine⟨λk j=>mK f (List.replicate M 0) (ve P k++(List.range j).map λt=>(kQ (R.getD k []) t,cs.getD k 0*L.getD t 0)),rfl,λk hk=>?_,?_,λk j hk hj=>⟨?_,?_,?_⟩⟩
 . show mK _ _ _=mK _ _ _
   rw[ahX,UG k hk];simp
 . show mK _ _ _=_
   have e:ve P N=CU R cs λt=>L.getD t 0:=by rw[hP,<-gy];rfl
   rw[List.range_zero,List.map_nil,List.append_nil,e,<-IM,axx R' hnd f afV _ (aiT (λx hx=>(hmem x hx).1) afg)];unfold su;rw[hR,hR']
 . show(mK _ _ _).length=M
   rw[axv];simp
 . intro d hd;have hlen:(ve P k++(List.range j).map λt=>(kQ (R.getD k []) t,cs.getD k 0*L.getD t 0)).length<=4608:=by have h1:=ahW P 9 N k zo (λk hk=>by rw[UG k hk];simp;omega);rw[List.length_append,List.length_map,List.length_range];have:=Nat.mul_le_mul_right 9 (show k+1<=512 by omega);omega
   refine(axw (B:=A+B) f (List.replicate M 0) _ (λd hd=>by rw[List.eq_of_mem_replicate hd];exact Sm.zero _) (λp hp=>?_) d hd).mono zo;rw[List.mem_append]at hp;rcases hp with hp|hp
   . refine ahV P N k zo (Q:=λp=>Sm (A+B) p.2) (λk hk p hp=>?_) p hp;rw[UG k hk,List.mem_map]at hp;obtain⟨t,_,rfl⟩:=hp;exact hsm k t
   . rw[List.mem_map]at hp;obtain⟨t,_,rfl⟩:=hp;exact hsm k t
 . obtain⟨q,hq,hq2,rA⟩:=afV _ (afg _ (hrow k hk) j hj);refine⟨q,rA,by omega,?_⟩;show mK _ _ _=_
   rw[List.range_succ,List.map_append,<-List.append_assoc,axt];simp only[List.map_cons,List.map_nil];show ug _ _ _=_
   unfold ug;simp only[rA]
def Fl (V D N:Nat)(hV:1<=V)(hV2:V<=8)(hD:D<=20)(hN:cnt V D=N)(xE:N<=512)(w:World):
 Cl 21 #[ah (V:Int),ah (D:Int)] w λe w'=>∃a cap,e=.returned (.slice a N cap)/\At w' a ((bK (V+1) D).map λx=>Value.string (bs (x.map UInt8.ofNat)))/\(∀b o,a=some ⟨b,o,none⟩->w.heap.size<=b)/\Bw w w':=by
 have h:=axk (V:Int) (D:Int) w;rw[axj V D hV hV2 hD zo,nS,hN]at h;exact h
def aiU (V D N M A B:Nat)(aN:Option Addr)(GX:Nat)(cs:List Dyadic)(aL:Option Addr)(ab5:Nat)(ls:List Raw)(L:List Dyadic)(v1:Nat)(hv1:V+1=v1)(d1:Nat)(hd1:D+1=d1)(w:World)
 (hV:1<=V) (hV2:V<=8) (hD:D<20) (hN:cnt V D=N) (hM:cnt V (D+1)=M) (xE:N<=512) (hM5:M<=512) (hcs:cs.length=N) (hls:ls.length=v1) (hL:ls.map aJ=L)
 (haN:At w aN (dC cs)) (haL:At w aL (ls.flatMap bG)) (hcm:∀c∈cs,Sm A c) (vS:∀x∈ls,Fit B x) (Uo:A+B<=100000000) (hT:aM w):
 Cl 87 #[.agg #[.slice aN N GX,ah (V:Int),ah (D:Int)],.slice aL v1 ab5] w λe w'=>∃bO,e=.returned (.agg #[.slice (some ⟨bO,0,none⟩) M M,ah (V:Int),ah (d1:Int)])/\
  w.heap.size<=bO/\At w' (some ⟨bO,0,none⟩) (dC (su V D cs L))/\Bw w w':=by
 have hLs:∀x∈L,Sm B x:=by intro x hx;rw[<-hL]at hx;obtain⟨r,hr,rfl⟩:=List.mem_map.1 hx;exact(vS r hr).2
 obtain⟨DS,hd0,BW,hdf,hds⟩:=azF V D N M A B cs L hV hV2 hD hN hM xE hcm hLs;have hp1:=λW=>Fl V (D+1) M hV hV2 zo hM hM5 W;have hp0:=λW=>Fl V D N hV hV2 zo hN xE W;obtain⟨R,hR⟩:=aK (bK (V+1) D);obtain⟨R',hR'⟩:=aK (bK (V+1) (D+1));have gy:R.length=N:=by rw[<-hR,nS];exact hN
 have IM:R'.length=M:=by rw[<-hR',nS];exact hM
 have hmem:∀x∈R,x.length=v1/\∀a∈x,a<=20:=λx hx=>by have h:=(kV V D x).1 (by rw[hR];exact hx);exact⟨by omega,λa ha=>by have:=Fb ha;omega⟩
 have afC:∀x∈R',x.length=v1:=λx hx=>by have h:=(kV V (D+1) x).1 (by rw[hR'];exact hx);omega
 rw[hR]at hp0 hds;rw[hR',hd1]at hp1;rw[hR']at hds;obtain⟨f,hf⟩:=aK (place (R'.map λx=>x.map UInt8.ofNat) M);rw[hf]at hds
 have hpl:=λa cap W=>λ(h:At W a (R'.map λx=>Value.string (bs (x.map UInt8.ofNat))))=>awY a cap M (R'.map λx=>x.map UInt8.ofNat) (by simpa using IM) hM5 (by
  intro l hl;obtain⟨x,hx,rfl⟩:=List.mem_map.1 hl
  rw[List.length_map,afC x hx];omega) W (by rw[List.map_map];exact h)
 rw[hf]at hpl;have hwD:IntKind.i64.wrap ((D:Int)+1)=(d1:Int):=by rw[IntKind.wrap_i64];omega
 have hmk:=ahr (M:Int) M rfl zo;obtain⟨Hd0,Dm,Hdf,LL,mP,yN,vC,aaO,tP,HL,Ge,AW⟩:=gg hd0 BW hdf hds hp1 hp0 hpl hmem gy hL hls hcs;obtain⟨Hcm,LR,LB,LA,HT,DG,Hd1,mh⟩:=oK hcm vS haN haL hT hv1 hd1 hmk;clear hd0 BW hdf hds hp1 hp0 hpl hmem afC gy IM hR hR' hf hL hls hcs hcm vS haN haL hT hLs hN hM hv1 hd1 hmk;obtain⟨W,dK,Hb,Hg,Hr⟩:=mG w 121 [.slice aN N GX,ah (V:Int),ah (D:Int)] 121 [.slice none 0 0,ah 0,ah 0];obtain⟨g0,g1,g2⟩:=Hg.out.c3;obtain⟨r0,aH,r1,aI,r2,aX⟩:=Hr.out.g3;have tN:Hid (At W aN (dC cs)):=LB.out.below Hb.out;have qC:Hid (At W aL (ls.flatMap bG)):=LA.out.below Hb.out;have HU:Hid (aM W):=HT.out.below Hb.out;go_enter Tryz.func87,Tryz.ntmps87;go_wp2_with fail;refine(mP.out _).mono ?_;rintro e w1 ⟨a1,apJ,rfl,lH,asI,ag⟩;obtain⟨Hg,g0,g1,g2⟩:=cm Hg ag;obtain⟨Hr,r0,aH,r1,aI,r2,aX⟩:=bg Hr ag;replace tN:=kA tN ag;replace qC:=kA qC ag;replace HU:=kT HU ag;replace Hb:=az Hb ag;have LC:=ar lH;clear lH asI;go_wp2_with fail;refine(vC.out a1 apJ _ LC.out).mono ?_;rintro e w2 ⟨bm,rfl,⟨hmp,Jc⟩,ag⟩;obtain⟨Hg,g0,g1,g2⟩:=cm Hg ag;obtain⟨Hr,r0,aH,r1,aI,r2,aX⟩:=bg Hr ag;replace tN:=kA tN ag;replace qC:=kA qC ag;replace HU:=kT HU ag;replace Hb:=az Hb ag;have ma:Hid (Mp w2 bm M f):=hmp;clear hmp LC;have ak1:Hid (bm<w2.heap.size):=ma.out.lt;have CS:=Hb.out.size;have lg:=Hg.out.lt;have lr:=Hr.out.lt;go_upto_region 3 with fail
 go_cut[7] (λs7 wx=>∃bO bB:Nat,s7=.pointer (some ⟨bO,0,none⟩)/\w2.heap.size<=bO/\w2.heap.size<=bB/\bO≠bB/\au wx bO 121 [.slice (some ⟨bB,0,none⟩) M M,ah (V:Int),ah (d1:Int)]/\au wx bB 48 (dC (List.replicate M 0))/\Bw w2 wx);case first=>
  have hmk:=mh.out;clear r0 r1 r2 aH aI aX Hr tN qC HU ma Hd0 Dm Hdf LL mP yN vC aaO tP HL Ge AW Hcm LR LB LA HT mh;obtain⟨w0,hw0⟩:∃w0,w0=w:=⟨_,rfl⟩;subst hw0;obtain⟨w,JR⟩:∃w,w=w2:=⟨_,rfl⟩;subst JR;clear Hb;have Hb:=hbz w;obtain⟨g0,g1,g2⟩:=Hg.out.c3;have fe:∀w',dW w w'->aF w' (w0.heap.size) 1 (ah (V:Int))/\aF w' (w0.heap.size) 2 (ah (D:Int)):=λw' h=>⟨cell_later h g1,cell_later h g2⟩;have bz:Hid (dW w w):=Below.refl _ _;refine Qs (λw'=>dW w w') (λi=>Nat.blt i 10) (.rd 0 (.rd 1 (.rd 3 (.rd 4 (.rd 5 (.rd 6 (.rd 7 (.br 2 9 (.lin [(8,true),(9,false),(10,false)]) (.lin [(2,false),(8,true),(10,false)]))))))))) zk zk rfl zk zc bz.out.drew ?_;iterate 7 (refine PO rfl rfl (v:=?_) (λw' hw'=>?_) ?_;rotate_left;(focus have hw':=fe w' hw';obtain⟨q0,q1⟩:=hw';go_simp;try with_reducible rfl);try simp only[UU])
  clear  fe;refine Kr rfl rfl rfl rfl rfl rfl  (λK hK=>?_) (λK hK=>?_) 
  . go_simp;have au3:=Hb.out.size;refine hK _ _ (λ_=>by first|exact bz.out.alloc _|exact(bz.out.alloc _).drew|exact(bz.out.drew).alloc _) ?_;try simp only[UU]
    refine Ks (λWn=>au Wn (w.heap.size) 48 (dC (List.replicate M 0))/\Bw w Wn) (by first|exact eo|exact eu) ?_;rintro Wn ⟨KI,ag⟩;have au0:=Hg.out.lt;replace bz:=ar (bz.out.below ag);replace Hg:=kB Hg ag;have gU:=ar KI;clear KI;obtain⟨g0,g1,g2⟩:=Hg.out.c3;replace Hb:=az Hb ag;refine yn ?_;refine pT rfl rfl ?_;try simp only[UU]
    refine aR rfl rfl (λK hK=>?_);go_simp;have au6:=Hb.out.size;refine hK _ _ (λ_=>by first|exact bz.out.alloc _|exact(bz.out.alloc _).drew|exact(bz.out.drew).alloc _) ?_;try simp only[UU]
    refine bZ (λWo=>au Wo (Wn.heap.size) 121 [.slice none 0 0,ah 0,ah 0]/\Bw Wn Wo) (by first|exact eo|exact eu) ?_;rintro Wo ⟨KJ,ag⟩;have au1:=Hg.out.lt;have aEg:=gU.out.lt;replace bz:=ar (bz.out.below ag);replace Hg:=kB Hg ag;replace gU:=kB gU ag;have pq:=ar KJ;clear KJ;obtain⟨g0,g1,g2⟩:=Hg.out.c3;obtain⟨PH,Np,PI,Nq,PK,Nr⟩:=pq.out.g3;replace Hb:=az Hb ag;refine aR rfl rfl (λK hK=>?_);go_simp;refine hK _ _ (λh=>absurd h zd) ?_;try simp only[UU]
    refine bZ (bY Wo (Wn.heap.size) 0 [.slice (some ⟨w.heap.size,0,none⟩) M M,ah (V:Int),ah (d1:Int)]) cC ?_;intro Ws hs;replace Hg:=kS Hg hs zo;replace gU:=kS gU hs zo;replace pq:=dt pq hs;obtain⟨g0,g1,g2⟩:=Hg.out.c3;obtain⟨PH,Np,PI,Nq,PK,Nr⟩:=pq.out.g3;replace Hb:=bS Hb hs ZS;clear hs;simp only[bu];go_wp2_with fail;go_meet;exact⟨_,_,rfl,by omega,by omega,by omega,pq.out,gU.out,Hb.out⟩
  . go_simp;have au6:=Hb.out.size;refine hK _ _ (λ_=>by first|exact bz.out.alloc _|exact(bz.out.alloc _).drew|exact(bz.out.drew).alloc _) ?_;try simp only[UU]
    refine Ks (λWo=>au Wo (w.heap.size) 121 [.slice none 0 0,ah 0,ah 0]/\Bw w Wo) (by first|exact eo|exact eu) ?_;rintro Wo ⟨KJ,ag⟩;have au1:=Hg.out.lt;replace bz:=ar (bz.out.below ag);replace Hg:=kB Hg ag;have pq:=ar KJ;clear KJ;obtain⟨g0,g1,g2⟩:=Hg.out.c3;obtain⟨PH,Np,PI,Nq,PK,Nr⟩:=pq.out.g3;replace Hb:=az Hb ag;refine yn ?_;refine aR rfl rfl (λK hK=>?_);go_simp;have au3:=Hb.out.size;refine hK _ _ (λ_=>by first|exact bz.out.alloc _|exact(bz.out.alloc _).drew|exact(bz.out.drew).alloc _) ?_;try simp only[UU]
    refine bZ (λWn=>au Wn (Wo.heap.size) 48 (dC (List.replicate M 0))/\Bw Wo Wn) (by first|exact eo|exact eu) ?_;rintro Wn ⟨KI,ag⟩;have au0:=Hg.out.lt;have aEj:=pq.out.lt;replace bz:=ar (bz.out.below ag);replace Hg:=kB Hg ag;replace pq:=kB pq ag;have gU:=ar KI;clear KI;obtain⟨g0,g1,g2⟩:=Hg.out.c3;obtain⟨PH,Np,PI,Nq,PK,Nr⟩:=pq.out.g3;replace Hb:=az Hb ag;refine pT rfl rfl ?_;try simp only[UU]
    refine aR rfl rfl (λK hK=>?_);go_simp;refine hK _ _ (λh=>absurd h zd) ?_;try simp only[UU]
    refine bZ (bY Wn (w.heap.size) 0 [.slice (some ⟨Wo.heap.size,0,none⟩) M M,ah (V:Int),ah (d1:Int)]) cC ?_;intro Ws hs;replace Hg:=kS Hg hs zo;replace pq:=dt pq hs;replace gU:=kS gU hs zo;obtain⟨g0,g1,g2⟩:=Hg.out.c3;obtain⟨PH,Np,PI,Nq,PK,Nr⟩:=pq.out.g3;replace Hb:=bS Hb hs ZS;clear hs;simp only[bu];go_wp2_with fail;go_meet;exact⟨_,_,rfl,by omega,by omega,by omega,pq.out,gU.out,Hb.out⟩
 case rest=>
  obtain⟨bO,bB,rfl,h1,h2,h3,qO,qB,qb⟩:=hcut;replace Hg:=kB Hg qb;replace Hr:=kB Hr qb;replace tN:=kA tN qb;replace qC:=kA qC qb;replace HU:=kT HU qb;replace ma:=kM ma qb;obtain⟨g0,g1,g2⟩:=Hg.out.c3;obtain⟨r0,aH,r1,aI,r2,aX⟩:=Hr.out.g3;replace Hb:=ar (aO Hb.out qb);clear qb;have HO:Hid (au wc bO 121 [.slice (some ⟨bB,0,none⟩) M M,ah (V:Int),ah (d1:Int)]):=qO;have HB:Hid (au wc bB 48 (dC (List.replicate M 0))):=qB;clear qO qB;have lO:=HO.out.lt;have lB:=HB.out.lt;go_wp2_with fail;refine(yN.out _).mono ?_;rintro e w3 ⟨a0,DU,rfl,ow,IY,ag⟩;obtain⟨Hg,g0,g1,g2⟩:=cm Hg ag;obtain⟨Hr,r0,aH,r1,aI,r2,aX⟩:=bg Hr ag;replace tN:=kA tN ag;replace qC:=kA qC ag;replace HU:=kT HU ag;replace ma:=kM ma ag;replace HO:=kB HO ag;replace HB:=kB HB ag;replace Hb:=az Hb ag;have yG:=ar ow;have neB:∀b,b≠bB->¬(λb=>b=bB) b:=λb h=>h;have nN:∀b o,aN=some ⟨b,o,none⟩->cs≠[]->b≠bB:=by intro b o e h0;subst e;have:=LB.out.lt (by intro h;have:=congrArg List.length h;rw[TI]at this;simp at this;exact h0 (List.length_eq_zero_iff.1 zo));omega
  have nL:∀b o,aL=some ⟨b,o,none⟩->ls≠[]->b≠bB:=by intro b o e h0;subst e;have:=LA.out.lt (by intro h;have:=congrArg List.length h;rw[kj bG 3 (λ_=>rfl)]at this;simp at this;exact h0 (List.length_eq_zero_iff.1 zo));omega
  have n0:∀b o,a0=some ⟨b,o,none⟩->b≠bB:=λb o e=>by have:=IY b o e;omega
  have nM:bm≠bB:=by rintro rfl;have h4:bm<w2.heap.size:=ak1.out;omega
  have nT:¬(0=bB):=by have:=HT.out.lt;omega
  obtain⟨HnN,HnL,rL⟩:=cX nN nL n0;have szW:=Hb.out.size;clear ow IY nN nL n0;have mz:au w3 bB 48 (dC (DS 0 0)):=by rw[Hd0.out];exact HB.out
  have tM:=ar mz;clear mz;obtain⟨E0,E1,E2,E3,E4,E5,E6,E7⟩:=oK Hg.out Hr.out tN.out qC.out ma.out HO.out HU.out Hb.out;clear Hg Hr tN qC ma HO HU Hb HB g0 g1 g2 r0 r1 r2 aH aI aX LB LA;go_wp2_with fail;go_loopw[36] (λx wr=>∃k:Nat,k<=N/\x=ah (k:Int)/\au wr bB 48 (dC (DS k 0))/\Chg (λb=>b=bB) w3 wr) (λx _=>N-(intOf x).toNat);case atStart=>exact⟨0,Nat.zero_le _,rfl,tM.out,Chg.refl _ _⟩
  case round=>
   clear tM;obtain⟨k,hk,rfl,pB,pg⟩:=hrel;by_cases hlt:k<N
   . have hk2:k<R.length:=by rw[tP.out];exact hlt
     obtain⟨xk,hxk⟩:∃x,R[k]=x:=⟨_,rfl⟩;obtain⟨hxl,pV⟩:=aaO.out _ (List.getElem_mem hk2);have kz:R.getD k []=xk:=by simp[hk2,hxk]
     rw[hxk]at hxl pV;have hat:=yG.out.chg pg (λb o e=>rL.out b o e);have vN:At wr a0 (R.flatMap λx=>[Value.string (bs (x.map UInt8.ofNat))]):=by rw[Ec];exact hat
     obtain⟨b0,o0,hab,uE⟩:=vN.elem (f:=λx=>[Value.string (bs (x.map UInt8.ofNat))]) (sz:=1) (λ_=>rfl) zd k hk2;obtain⟨l8,jW⟩:∃l,xk.map UInt8.ofNat=l:=⟨_,rfl⟩;have hc0:wr.cell? ⟨b0,o0+k,none⟩=some (ai l8):=by have:=uE 0 zd;rw[hxk,jW]at this;simpa using this
     have bD:=vZ N DU k (k:Int) hab hlt rfl;rw[Nat.mul_one]at bD;have sX:l8.length=v1:=by rw[<-jW,List.length_map];exact hxl
     obtain⟨iB,ji,LQ,ano,SK,sG,tY⟩:=mE pg pB jW pV hxl kz sX;clear pg pB jW pV hxl kz hat vN uE hab hxk sX;obtain⟨wk,hwk⟩:∃wk,wk=wr:=⟨_,rfl⟩;subst hwk;go_wp2_with fail;go_loopw[43] (λx wr=>∃j:Nat,j<=v1/\x=ah (j:Int)/\au wr bB 48 (dC (DS k j))/\Chg (λb=>b=bB) w3 wr) (λx _=>v1-(intOf x).toNat);case atStart=>exact⟨0,Nat.zero_le _,rfl,ji.out,iB.out⟩
     case round=>
      clear hc0 bD ji iB;obtain⟨j,hj,rfl,pB,pg⟩:=hrel;by_cases bC:j<v1
      . have JZ:j<ls.length:=by rw[Ge.out];exact bC
        have Ka:k<(cs.map canon).length:=by rw[List.length_map,AW.out];exact hlt
        have jV:j<V+1:=by rw[DG.out];exact bC
        obtain⟨hlen,Vr,qv,hq1,hq2,rA⟩:=LL.out k j hlt jV;obtain⟨s,m,e,hx⟩:=pJ (ls[j]);obtain⟨c,hc⟩:=aK (cs.getD k 0);obtain⟨X,hX⟩:=aK (aJ (s,m,e));have dG:=LR.out _ (List.getElem_mem JZ);rw[hx]at dG;have hLj:L.getD j 0=X:=by rw[<-HL.out,<-hX,<-hx];simp[List.getD_eq_getElem?_getD,JZ]
        have hcc:(cs.map canon)[k]=(aC (dN c),nt (dN c).natAbs,dE c):=by
         have:cs.getD k 0=cs[k]'(by simpa using Ka):=by simp[List.getD_eq_getElem?_getD,show k<cs.length by simpa using Ka]
         rw[List.getElem_map,<-this,hc];rfl
        have uF:Sm A c:=by rw[<-hc];exact rO Hcm.out k
        rw[hc,hLj]at rA;rw[sG.out]at hq1;obtain⟨E,hE⟩:=aK (c*X);rw[hE]at rA;obtain⟨ds,aeV⟩:=aK (DS k j);obtain⟨ds',Vq⟩:∃ds,DS k (j+1)=ds:=⟨_,rfl⟩;rw[aeV]at hlen Vr rA pB;rw[Vq]at rA;have Wi:qv<ds.length:=by omega
        have hgd:ds.getD qv 0=ds[qv]:=by simp[List.getD_eq_getElem?_getD,Wi]
        obtain⟨D9,zI⟩:=aK (ds[qv]+E);rw[hgd,zI]at rA;have fO:=ar (dG.mono (show B<=A+B by omega));have yI:Hid (Fit (A+B) (aC (dN c),nt (dN c).natAbs,dE c)):=(uF.mono (show A<=A+B by omega)).fit zo;have HmE:Hid (aJ (aC (dN c),nt (dN c).natAbs,dE c) *aJ (s,m,e)=E):=by show aJ (canon c) *_=E;rw[cp,hX];exact hE
        have adt:Sm (A+B) E:=by rw[<-hE,<-hX];exact Sm.mul uF dG.2
        have HfE:Hid (Fit (A+B+4608) (aC (dN E),nt (dN E).natAbs,dE E)):=(adt.mono zo).fit zo;have HdE:Hid (ds[qv]+aJ (aC (dN E),nt (dN E).natAbs,dE E)=D9):=by show ds[qv]+aJ (canon E)=D9;rw[cp];exact zI
        have Re:Hid (Sm (A+B+4608) ds[qv]):=Vr _ (List.getElem_mem Wi);obtain⟨lj,Gt,alf⟩:=cX hlen rA Vq;obtain⟨bN,oN,aen,n0,n1,n2⟩:=(show At wr aN ((cs.map canon).flatMap bG)by rw[<-oh];exact E2.out.chg pg (λb o e=>HnN.out b o e (by intro h0;rw[h0]at Ka;simp at Ka))).num k Ka hcc;obtain⟨bL,oL,aem,u0,u1,u2⟩:=(E3.out.chg pg (λb o e=>HnL.out b o e (by intro h0;rw[h0]at JZ;simp at JZ))).num j JZ hx;have ixN:=WJ N GX k (k:Int) aen hlt rfl;have ixL:=kP v1 ab5 j (j:Int) aem bC rfl;have JY:j<l8.length:=by rw[tY.out];exact bC
        have hux:l8[j].toNat<=20:=by
         have jxk:j<xk.length:=by rw[SK.out];exact bC
         have e8:l8[j]=UInt8.ofNat xk[j]:=by
          have:l8[j]?=(xk.map UInt8.ofNat)[j]?:=by rw[LQ.out]
          rw[List.getElem?_eq_getElem JY,List.getElem?_eq_getElem (by simpa using jxk)]at this;simpa using this
         have h20:=ano.out _ (List.getElem_mem jxk);rw[e8];simp;omega
        have hu1:(l8[j]+1).toNat=l8[j].toNat+1:=by rw[UInt8.toNat_add];simp;omega
        obtain⟨l9,OA⟩:∃l,l8.set j (l8[j]+1)=l:=⟨_,rfl⟩;have afq:l9.length=v1:=by rw[<-OA,List.length_set];exact tY.out
        have hkey:f l9=qv:=by rw[<-hq1,<-at5 xk j (by rw[SK.out];exact bC),LQ.out,<-OA];congr 2;simp[List.getD_eq_getElem?_getD,JY]
        obtain⟨p8,vW⟩:∃p:Int,(l8[j].toNat:Int)=p:=⟨_,rfl⟩;obtain⟨q8,hq8⟩:∃q:Int,((l8[j]+1).toNat:Int)=q:=⟨_,rfl⟩;have hw8:IntKind.u8.wrap (p8+1)=q8:=by rw[IntKind.wrap_u8];omega
        have NM:M<9223372036854775808:=by omega
        have Hg:Hid (au wr w.heap.size 121 [.slice aN N GX,ah (V:Int),ah (D:Int)]):=pg.blk E0.out zo;have Ho:Hid (au wr bO 121 [.slice (some ⟨bB,0,none⟩) M M,ah (V:Int),ah (d1:Int)]):=pg.blk E5.out zo;have gU:Hid (bH wr bN (oN+k*3) [aj (aC (dN c)),ai (nt (dN c).natAbs),ah (dE c)]):=jH n0 n1 n2;have Hu:Hid (bH wr bL (oL+j*3) [aj s,ai m,ah e]):=jH u0 u1 u2;have hMp:Mp wr bm M f:=pg.mp E4.out zo;have hTb:aM wr:=pg.tab E6.out nT;obtain⟨iB,ji,alS,RA,aaF,Gk,Hq8⟩:=mE pg pB hkey OA afq vW hq8;have lbB:=pB.lt;clear pg pB hkey OA afq hq1 rA Vq hlen Vr hgd zI hE hX hLj hcc hc hx dG uF adt n0 n1 n2 u0 u1 u2 aen aem vW hq8 hu1 hux aeV;have Hb:=hbz wr;obtain⟨g0,g1,g2⟩:=Hg.out.c3;obtain⟨o0,o1,o2⟩:=Ho.out.c3;obtain⟨yh,yi,yj⟩:=gU.out.w3;obtain⟨u0,u1,u2⟩:=Hu.out.w3;have ma:Hid (Mp wr bm M f):=hMp;have bW:Hid (aM wr):=hTb;have kD:Hid (au wr bB 48 (dC ds)):=ji.out;clear hMp hTb ji;have P0:=u0;have P1:=u1;have P2:=u2;have aEa:=Hg.out.lt;have au5:=Ho.out.lt;obtain⟨W4,ov,ag,Hy⟩:=cE wr 48 [aj s,ai m,ah e];replace Hg:=kB Hg ag;replace Ho:=kB Ho ag;replace gU:=kW gU ag;replace Hu:=kW Hu ag;replace ma:=kM ma ag;replace bW:=kT bW ag;replace kD:=kB kD ag;obtain⟨g0,g1,g2⟩:=Hg.out.c3;obtain⟨o0,o1,o2⟩:=Ho.out.c3;obtain⟨yh,yi,yj⟩:=gU.out.w3;obtain⟨u0,u1,u2⟩:=Hu.out.w3;obtain⟨y0,y1,y2⟩:=Hy.out.c3;replace Hb:=az Hb ag;obtain⟨cb,W5,hcv,dL,hs5,ko⟩:=PZ l8 W4;rw[tY.out]at hcv;have ya:=tq v1 cb j (j:Int) (rfl:(some ⟨W4.heap.size,0,none⟩:Option Addr)=_) bC rfl;rw[Nat.zero_add,Nat.mul_one]at ya;have m0:W5.cell? ⟨W4.heap.size,j,none⟩=some (.int .u8 p8):=by rw[(ko j JY).1,Gk.out]
        have mf:W5.frozen? ⟨W4.heap.size,j,none⟩=false:=(ko j JY).2;have Vg:=ko.set j JY (l8[j]+1);rw[RA.out,Hq8.out]at Vg;obtain⟨aaa,eX⟩:=aZ Vg dL;clear ko Vg dL;go_wp2_with fail;refine cd (λW6=>tK W6 W4.heap.size l9/\Bw W4 W6) ⟨aaa.out,eX.out.setCell (Nat.le_refl _) _⟩ ?_;rintro W6 ⟨qM,nj⟩;have HqM:=ar qM;replace Hg:=kB Hg nj;replace Ho:=kB Ho nj;replace gU:=kW gU nj;replace Hu:=kW Hu nj;replace ma:=kM ma nj;replace bW:=kT bW nj;replace kD:=kB kD nj;replace Hy:=kB Hy nj;obtain⟨g0,g1,g2⟩:=Hg.out.c3;obtain⟨o0,o1,o2⟩:=Ho.out.c3;obtain⟨yh,yi,yj⟩:=gU.out.w3;obtain⟨u0,u1,u2⟩:=Hu.out.w3;obtain⟨y0,y1,y2⟩:=Hy.out.c3;replace Hb:=ar (aO Hb.out nj);clear qM nj m0 mf hcv aaa eX P0 P1 P2 hs5;have hback:∀w',dW W6 w'->(convert 84 9 (.slice (some ⟨W4.heap.size,0,none⟩) v1 cb)).run Tryz.prog w'=.ok (ai l9) w':=λw' h=>by have:=(HqM.out.below h).back cb;rw[aaF.out]at this;exact this
        have afv:∀w',dW W6 w'->(Instr.lookup 160 (.map (some bm)) (ai l9) false).run Tryz.prog w'=.ok (ah (qv:Int)) w':=λw' h=>by have:=(ma.out.below h).look l9 (by simp[maxLen];have:=aaF.out;have:=DG.out;omega);rw[alS.out]at this;exact this
        have fe:∀w',dW W6 w'->aF w' bO 0 (.slice (some ⟨bB,0,none⟩) M M)/\aF w' (w.heap.size) 0 (.slice aN N GX)/\aF w' bN (oN+k*3) (aj (aC (dN c)))/\aF w' bN (oN+k*3+1) (ai (nt (dN c).natAbs))/\aF w' bN (oN+k*3+2) (ah (dE c))/\aF w' (wr.heap.size) 0 (aj s)/\aF w' (wr.heap.size) 1 (ai m)/\aF w' (wr.heap.size) 2 (ah e)/\(convert 84 9 (.slice (some ⟨W4.heap.size,0,none⟩) v1 cb)).run Tryz.prog w'=.ok (ai l9) w'/\(Instr.lookup 160 (.map (some bm)) (ai l9) false).run Tryz.prog w'=.ok (ah (qv:Int)) w':=λw' h=>⟨cell_later h o0,cell_later h g0,cell_later h yh,cell_later h yi,cell_later h yj,cell_later h y0,cell_later h y1,cell_later h y2,hback w' h,afv w' h⟩;have bz:Hid (dW W6 W6):=Below.refl _ _;refine bV (λw'=>dW W6 w') (λi=>Nat.blt i 14) [(0,true),(1,true),(2,true),(3,true),(4,true),(5,true),(6,true),(7,true),(8,true),(9,true),(10,true),(11,true),(12,false),(13,false),(14,false)] zk zk rfl zk zc bz.out.drew ?_;iterate 12 (refine PN rfl rfl (v:=?_) (λw' hw'=>?_) ?_;rotate_left;(focus have hw':=fe w' hw';obtain⟨q0,q1,q2,q3,q4,q5,q6,q7,q8,q9⟩:=hw';go_simp;try with_reducible rfl);try simp only[UU])
        refine aR rfl rfl (λK hK=>?_);go_simp;refine hK _ _ (λ_=>by first|exact bz.out.alloc _|exact(bz.out.alloc _).drew|exact(bz.out.drew).alloc _) ?_;try simp only[UU]
        refine bZ (λW7=>au W7 (W6.heap.size) 48 [aj (aC (dN c)),ai (nt (dN c).natAbs),ah (dE c),aj s,ai m,ah e]/\Bw W6 W7) (by first|exact eo|exact eu) ?_;rintro W7 ⟨KH,ag⟩;have aEb:=Hg.out.lt;have ahc:=Ho.out.lt;have ahg:=Hy.out.lt;replace bz:=ar (bz.out.below ag);replace Hg:=kB Hg ag;replace Ho:=kB Ho ag;replace gU:=kW gU ag;replace Hu:=kW Hu ag;replace ma:=kM ma ag;replace bW:=kT bW ag;replace kD:=kB kD ag;replace Hy:=kB Hy ag;have jL:=ar KH;clear KH;obtain⟨g0,g1,g2⟩:=Hg.out.c3;obtain⟨o0,o1,o2⟩:=Ho.out.c3;obtain⟨yh,yi,yj⟩:=gU.out.w3;obtain⟨u0,u1,u2⟩:=Hu.out.w3;obtain⟨y0,y1,y2⟩:=Hy.out.c3;obtain⟨uQ,uR,uS,rY,rZ,m15⟩:=jL.out.c6;replace Hb:=az Hb ag;refine aR rfl rfl (λK hK=>?_);go_simp;with_reducible refine(xy _ _ _ _ _ _ E (A+B) HmE.out _ 2 _ _ yI.out fO.out zo jL.out (by first|exact bW.out|exact aM.drew bW.out|exact aM.alloc bW.out _|exact aM.drew (aM.alloc bW.out _) |exact aM.alloc (aM.drew bW.out) _)).mono ?_
        rintro e w8 ⟨rfl,hq⟩;have ag:Bw W7 w8:=by first|exact hq|exact bo hq
        clear g0 g1 g2 o0 o1 o2 yh yi yj u0 u1 u2 y0 y1 y2 uQ uR uS rY rZ m15;replace bz:=ar (bz.out.below ag);obtain⟨Hg,g0,g1,g2⟩:=cm Hg ag;obtain⟨Ho,o0,o1,o2⟩:=cm Ho ag;replace gU:=kW gU ag;replace Hu:=kW Hu ag;replace ma:=kM ma ag;replace bW:=kT bW ag;replace kD:=kB kD ag;obtain⟨Hy,y0,y1,y2⟩:=cm Hy ag;obtain⟨jL,uQ,uR,uS,rY,rZ,m15⟩:=kR jL ag;obtain⟨yh,yi,yj⟩:=gU.out.w3;obtain⟨u0,u1,u2⟩:=Hu.out.w3;replace Hb:=az Hb ag;refine hK _ _ (λ_=>bz.out) ?_;try simp only[UU]
        refine aR rfl rfl (λK hK=>?_);go_simp;with_reducible refine(aiB bB M qv (A+B+4608) ds (aC (dN E)) (nt (dN E).natAbs) (dE E) D9 _ lj.out kD.out Wi HfE.out Re.out zo HdE.out (by first|exact bW.out|exact aM.drew bW.out|exact aM.alloc bW.out _|exact aM.drew (aM.alloc bW.out _) |exact aM.alloc (aM.drew bW.out) _)).mono ?_
        rintro e' w9 ⟨⟨rv,rfl⟩,qB,qg⟩;refine hK _ _ (λh=>absurd h zd) ?_;simp only[bu];have Sd:=ar qB;have Sg:Hid (Chg (λb=>b=bB) w3 w9):=(iB.out.aFM Hb.out).trans (Chg.aFL qg (λb e=>by cases e;rfl)) (λb h=>.inl h);clear qB qg hback afv fe;go_wp2;go_roundw;case rel=>exact⟨j+1,by omega,by go_num,by rw[alf.out,Gt.out];exact Sd.out,Sg.out⟩
        case measure=>exact bI
      . obtain rfl:j=v1:=by omega
        have hn:=Dm.out k hlt;rw[DG.out]at hn;rw[hn]at pB;have ji:=ar pB;clear pB hn;go_wp2;go_roundw;case rel=>exact⟨k+1,by omega,by go_num,ji.out,pg⟩
        case measure=>exact bI
   . obtain rfl:k=N:=by omega
     have mC:=pg.blk E0.out zo;have kx:=pg.blk E1.out zo;have fT:=pg.blk E5.out zo;rw[Hdf.out]at pB;obtain⟨r0,aH,r1,aI,r2,aX⟩:=kx.g3;obtain⟨o0,o1,o2⟩:=fT.c3;obtain⟨jJ,ji⟩:=aZ (E7.out.trans (pg.below (n:=w.heap.size) zo (λb e=>by omega))) pB;clear pB mC kx fT;go_wp2;refine bodyPost_ret (v:=.agg #[.slice (some ⟨bB,0,none⟩) M M,ah (V:Int),ah (d1:Int)]) (by simp[results,Tryz.results87,go_sem,r0,r1,r2]) rfl ⟨bB,rfl,by omega,At.aFK (t:=48) ?_,?_⟩
     . exact((ji.out.so _ _ zo _).so _ _ zo _).so _ _ zo _
     . exact((jJ.out.setCell zp _).setCell zp _).setCell zp _
def Gr (w:World)(base g8 V m:Nat)(cs:List Dyadic):Prop:=
 ∃aG zq,au w g8 121 [.slice aG (cnt V m) zq,ah (V:Int),ah (m:Int)]/\At w aG (dC cs)/\∀b o,aG=some ⟨b,o,none⟩->base<=b
def Gr.below {w w':World}{base g8 V m:Nat}{cs:List Dyadic}(h:Gr w base g8 V m cs)(hb:Bw w w'):Gr w' base g8 V m cs:=by obtain⟨a,c,h1,h2,h3⟩:=h;exact⟨a,c,h1.below hb,h2.below hb,h3⟩
def zw (rows:List (List Raw))(k:Nat):List Raw:=rows.map λr=>r.getD k (false,[],0)
def aqd (rows:List (List Raw))(k V:Nat)(hrow:∀r∈rows,r.length=V)(hk:k<V):(zw rows k).map aJ=mo (rows.map λr=>r.map aJ) k:=by
 unfold zw mo;rw[List.map_map,List.map_map];refine List.map_congr_left (λr hr=>?_);have h:=hrow r hr;show aJ (r.getD k _)=(r.map aJ).getD k 0
 simp[List.getD_eq_getElem?_getD,show k<r.length by omega]
def aqc {B V k:Nat}{rows:List (List Raw)}(hrow:∀r∈rows,r.length=V)(hk:k<V)(hfit:∀r∈rows,∀c∈r,Fit B c):∀x∈zw rows k,Fit B x:=by
 intro x hx;unfold zw at hx;obtain⟨r,hr,rfl⟩:=List.mem_map.1 hx;have h:=hrow r hr;have e:r.getD k (false,[],0)=r[k]'zo:=by simp[List.getD_eq_getElem?_getD,show k<r.length by omega]
 rw[e];exact hfit r hr _ (List.getElem_mem _)
def aru {α β:Type}(f:α->List β)(xs:List α)(k:Nat)(h:k<xs.length):(xs.take (k+1)).flatMap f=(xs.take k).flatMap f++f xs[k]:=by rw[List.take_succ_eq_append_getElem h,List.flatMap_append];simp
def azv (es:List Nat)(k:Nat):(es.take k).sum<=es.sum:=by
 induction es generalizing k with
 |nil=>simp
 | cons x es ih=>
   cases k with
   |zero=>simp
   |succ k=>have:=ih k;simp at this⊢;omega
def TT (w:World)(g8:Nat):Nat:=match w.cell? ⟨g8,2,none⟩with|some v=>(intOf v).toNat|none=>0
def acA {w:World}{g8 m:Nat}{t:TypeId}{x y:Value}(h:au w g8 t [x,y,ah (m:Int)]):TT w g8=m:=by unfold TT;rw[h.cell];simp[intOf]
def azE (V D L:Nat)(l:List UInt8)(s:Bool)(mm:List UInt8)(e:Int)(a:Option Addr)(cap:Nat)(rows:List (List Raw))(B:Nat)(c:Dyadic)(w:World)(hV:1<=V)(hV2:V<=8)(hL:rows.length=L)(ou:L=V+1)(hrow:∀r∈rows,r.length=V)
 (hll:l.length=V) (td:(l.map UInt8.toNat).sum<=D) (hD:D<=20) (uD:∀d,d<=D->cnt V d<=512) (ha:cZ w a rows) (hfit:∀r∈rows,∀c∈r,Fit B c) (hx:Ok (s,mm,e)) (hc:aJ (s,mm,e)=c) (hcs:Sm B c) (bX:1<=B) (hB:B<=100000) (hT:aM w):
 Cl 44 #[.agg #[ai l,aj s,ai mm,ah e],.slice a L cap,ah (D:Int)] w λe w'=>∃a' c',e=.returned (.slice a' (cnt V D) c')/\
  At w' a' (dC (kJ V D (rows.map λr=>r.map aJ) c (l.map UInt8.toNat)))/\(∀b o,a'=some ⟨b,o,none⟩->w.heap.size<=b)/\Bw w w':=by
 obtain⟨i0,hi,hz0,hz1,hz2⟩:=info_parts Tryz.aFN;obtain⟨S,hS⟩:=aK (rows.map λr=>r.map aJ);obtain⟨es,hes⟩:=aK (l.map UInt8.toNat);have aeY:es.length=V:=by rw[<-hes];simpa using hll
 have iL:∀r∈S,∀d∈r,Sm B d:=by intro r hr d hd;rw[<-hS]at hr;obtain⟨x,hx,rfl⟩:=List.mem_map.1 hr;obtain⟨y,hy,rfl⟩:=List.mem_map.1 hd;exact(hfit x hx y hy).2
 have Vo:∀k,∀d∈mo S k,Sm B d:=by intro k d hd;unfold mo at hd;obtain⟨r,hr,rfl⟩:=List.mem_map.1 hd;exact rO (iL r hr) k
 have hone:∀d∈oP V,Sm B d:=by intro d hd;rw[(List.mem_replicate.1 hd).2];exact Sm.mono (A:=1) ⟨2,by decide,by decide⟩ bX
 rw[hS,hes];rw[hes]at td;have afe:∀ls:List (List Dyadic),ls.length<=D->(∀l∈ls,∀d∈l,Sm B d)->∀d∈ik V 0 [c] ls,Sm (B+20* (B+4608)) d:=by intro ls h1 h2 d hd;refine(ade (A:=B) (B:=B) (V:=V) (D:=0) (cs:=[c]) ls (by simpa using hcs) h2 hV2 (λd hd=>uD d zo) d hd).mono ?_;have:=Nat.mul_le_mul_right (B+4608) (show ls.length<=20 by omega);omega
 have afc:∀ls:List (List Dyadic),(ik V 0 [c] ls).length=cnt V ls.length:=λls=>by have:=adc V 0 [c] ls (by rw[zr];rfl);rw[Nat.zero_add]at this;exact this
 have Ct:∀k,k<=V->(lT S es k).length<=es.sum:=λk hk=>by rw[Yj S es k zo];exact azv es k
 have af9:∀k,∀l∈lT S es k,∀d∈l,Sm B d:=by intro k l hl;unfold lT at hl;rw[List.mem_flatMap]at hl;obtain⟨t,_,hl⟩:=hl;rw[(List.mem_replicate.1 hl).2];exact Vo t
 have hform:=λW=>λ(hT:aM W)=>sM s mm e c hc W hx hT;obtain⟨one,OJ⟩:∃one:Dyadic,(1:Dyadic)=one:=⟨_,rfl⟩;have hof:=λW=>λ(hT:aM W)=>BB 1 one OJ W zd hT;have afL:Fit B (canon one):=by rw[<-OJ];exact(Sm.mono (A:=1) ⟨2,by decide,by decide⟩ bX:Sm B 1).fit zo
 obtain⟨amq,ams⟩:=aZ afL OJ;clear afL OJ;have hfc:Fit B (canon c):=hcs.fit zo;obtain⟨alC,og,Hi,dF,dv,di,HS,Rj,Rk,ak8,vA,abk⟩:=gg hform hof hi hz0 hz1 hz2 hS hes aeY Vo hone td;obtain⟨aax,aav,amZ,abd,iA,HL,mn,LS,LK,Ha,tX,fH⟩:=gg afe afc Ct af9 ou hL hrow hll uD ha hfit hT;have hwV:IntKind.i64.wrap ((L:Int)-1)=(V:Int):=by rw[IntKind.wrap_i64];omega
 clear ou hform hof hi hz0 hz1 hz2 hS hes aeY iL Vo hone td afe afc Ct af9 hL hrow hll uD ha hfit hx hc hcs hT hfc;obtain⟨W,dK,Hb,Ht⟩:=jD w 67 [ai l,aj s,ai mm,ah e];obtain⟨t0,t1,t2,t3⟩:=Ht.out.c4;have bW:Hid (aM W):=fH.out.below Hb.out;go_enter Tryz.func44,Tryz.ntmps44;go_wp2_with fail;refine(alC.out _ bW.out).mono ?_;rintro e w1 ⟨rfl,ag⟩;obtain⟨Ht,t0,t1,t2,t3⟩:=dZ Ht ag;replace bW:=kT bW ag;replace Hb:=az Hb ag;have P0:=t0;have avf:=Ht.out.lt;obtain⟨W2,na,ag,RQ,Hg⟩:=awk w1 48 [aj (aC (dN c)),ai (nt (dN c).natAbs),ah (dE c)] 121 [.slice (some ⟨w1.heap.size,0,none⟩) 1 1,ah (V:Int),ah 0];obtain⟨Ht,t0,t1,t2,t3⟩:=dZ Ht ag;replace bW:=kT bW ag;obtain⟨na0,na1,na2⟩:=RQ.out.c3;obtain⟨g0,Iu,g1,Iw,g2,Ix⟩:=Hg.out.g3;replace Hb:=az Hb ag;clear ag P0;have CS:=Hb.out.size;have lz1:w.heap.size<w1.heap.size:=avf;go_upto_region 3 with fail
 refine cd (λW9=>au W9 w.heap.size 67 [ai l,aj s,ai mm,ah e]/\au W9 w1.heap.size 48 [aj (aC (dN c)),ai (nt (dN c).natAbs),ah (dE c)]/\au W9 (w1.heap.size+1) 121 [.slice (some ⟨w1.heap.size,0,none⟩) 1 1,ah (V:Int),ah 0]/\Bw w W9)
  ⟨Ht.out.so _ _ zo _,RQ.out.so _ _ zo _,Hg.out.set 2 _,Hb.out.sc _ _ zo _⟩ ?_
 rintro W9 ⟨qt,qn,qg,ez⟩;have t0:W9.cell? ⟨w.heap.size,0,none⟩=some (ai l):=qt.cell 0;obtain⟨cb,W3,hcv,hb3,hs3,ko⟩:=PZ l W9;rw[LS.out]at hcv;have lg:=qg.lt;have hGr:Gr W3 w.heap.size (w1.heap.size+1) V 0 [c]:=by
  refine⟨some ⟨w1.heap.size,0,none⟩,1,?_,?_,λb o e=>by cases e;omega⟩
  . rw[zr];exact qg.below hb3
  . exact At.aFK (qn.below hb3)
 have Vh:=aO ez hb3;have ad5:=fH.out.below Vh;have Zr:Hid (w1.heap.size+1<W9.heap.size/\W9.heap.size<=W3.heap.size):=⟨lg,hb3.size⟩;obtain⟨Zq,LH,aA9,qE⟩:=ej hGr Vh ad5 ko;clear hGr Vh ad5 ko bW RQ Hg Hb hb3 ez qt qn qg Ht na0 na1 na2 g0 g1 g2 Iu Iw Ix;go_wp2_with fail;clear t0 hcv;go_loopw[27] (λx wr=>∃k:Nat,k<=V/\x=ah (k:Int)/\Gr wr w.heap.size (w1.heap.size+1) V (lT S es k).length (ik V 0 [c] (lT S es k))/\Chg (λb=>b=w1.heap.size+1) W3 wr) (λx _=>V-(intOf x).toNat);case atStart=>exact⟨0,Nat.zero_le _,rfl,Zq.out,Chg.refl _ _⟩
 case round=>
  clear Zq;obtain⟨k,hk,rfl,pG,pg⟩:=hrel;by_cases hlt:k<V
  . have jl:k<l.length:=by rw[LS.out];exact hlt
    have ou:=iA.out;have hL9:L<=9:=by omega
    have gsz:w1.heap.size+1<W3.heap.size:=by have:=Zr.out;omega
    have m0:wr.cell? ⟨W9.heap.size,k,none⟩=some (.int .u8 (l[k].toNat:Int)):=pg.cell (qE.out k jl).1 zp;have ya:=tq V cb k (k:Int) (rfl:(some ⟨W9.heap.size,0,none⟩:Option Addr)=_) hlt rfl;rw[Nat.zero_add,Nat.mul_one]at ya;obtain⟨ek,Oj⟩:=aK (l[k].toNat);have aCI:ek<=255:=by rw[<-Oj];have:=l[k].toNat_lt;omega
    have Vs:es.getD k 0=ek:=by rw[<-Oj,<-Rj.out];simp[List.getD_eq_getElem?_getD,jl]
    rw[Oj]at m0;obtain⟨sh,hsh⟩:=aK (lT S es k);obtain⟨qP,Jf⟩:=aK (zw rows k);have hcl:qP.length=L:=by rw[<-Jf];simp[zw,HL.out]
    have hcv:qP.map aJ=mo S k:=by rw[<-Jf,<-HS.out];exact aqd rows k V mn.out hlt
    have Vm:∀x∈qP,Fit B x:=by rw[<-Jf];exact aqc mn.out hlt tX.out
    have aCz:sh.length+ek<=D:=by have h1:=amZ.out (k+1) hlt;have h2:=congrArg List.length (PU S es k);rw[List.length_append,List.length_replicate,Vs,hsh]at h2;have h3:=abk.out;omega
    have afH:lT S es (k+1)=sh++List.replicate ek (mo S k):=by rw[PU,Vs,hsh]
    rw[hsh]at pG;have bQ:=LH.out.trans (pg.below (n:=w.heap.size) (by have:=LH.out.size;omega) (λb e=>by omega));obtain⟨RZ,iB,gP,ald,Hcf,aml,eJ,ak7,yR⟩:=Pf pG pg hcl hcv Vm afH bQ Jf hsh;clear pG pg hcl hcv Vm afH bQ Jf Vs Oj hsh ou;obtain⟨wk,hwk⟩:∃wk,wk=wr:=⟨_,rfl⟩;subst hwk;have KX:=iB.out.size;go_wp2_with fail;go_loopw[11,34] (λYc x wr=>∃(j:Nat) (v2:Value),j<=L/\x=ah (j:Int)/\v2=Yc/\wr.ownsRow wk.heap.size 48 3 v2 j ((qP.take j).flatMap bG)/\Bw wk wr) (λ_ x _=>L-(intOf x).toNat);case atStart=>exact⟨0,_,Nat.zero_le _,rfl,rfl,World.ownsRow_nil _ _ _ _,Below.refl _ _⟩
    case round=>
     clear m0 ya;obtain⟨j,v2,hj,rfl,rfl,ho,hb2⟩:=hrel;by_cases bC:j<L
     . have jr:j<rows.length:=by rw[HL.out];exact bC
       obtain⟨b1,o1,a1,c1,hab,hc1,hat⟩:=(Ha.out.below (eJ.out.trans (hb2.mono (by have:=eJ.out.size;omega)))).row j jr;have hrl:=mn.out _ (List.getElem_mem jr);have kr:k<rows[j].length:=by rw[hrl];exact hlt
       obtain⟨s1,m1,e1,hx1⟩:=pJ (rows[j][k]);obtain⟨b2,o2,iM,p0,p1,p2⟩:=hat.num k kr hx1;rw[hrl]at hc1;have jc:j<qP.length:=by rw[gP.out];exact bC
       have hst:(qP.take (j+1)).flatMap bG=(qP.take j).flatMap bG++[aj s1,ai m1,ah e1]:=by
        rw[aru bG qP j jc];congr 1;have:qP[j]=(s1,m1,e1):=by
         have h9:qP[j]?=(zw rows k)[j]?:=by rw[ak7.out]
         rw[List.getElem?_eq_getElem jc]at h9;unfold zw at h9;rw[List.getElem?_map,List.getElem?_eq_getElem jr]at h9;simp only[Option.map_some,Option.some.injEq]at h9;rw[h9];simp[List.getD_eq_getElem?_getD,kr,hx1]
        rw[this];rfl
       have EY:=Ai L cap j (j:Int) hab bC rfl;rw[Nat.mul_one]at EY;have Cz:=EW V c1 k (k:Int) iM hlt rfl;obtain⟨cn,Ho,dD⟩:=cX hst ho hb2;have Hp:Hid (bH wr b2 (o2+k*3) [aj s1,ai m1,ah e1]):=jH p0 p1 p2;have vh:=hb2.size;clear hst ho hb2 hab iM hat hrl kr hx1 p0 p1 p2;have Hb:=hbz wr;obtain⟨p0,p1,p2⟩:=Hp.out.w3;have P0:=p0;have P1:=p1;have P2:=p2;obtain⟨W6,uz,ag,Hd⟩:=cE wr 48 [aj s1,ai m1,ah e1];replace Hp:=kW Hp ag;obtain⟨p0,p1,p2⟩:=Hp.out.w3;obtain⟨d0,d1,d2⟩:=Hd.out.c3;replace Hb:=az Hb ag;have dR:=ownsRow_below Ho.out Hb.out;have ky:=Hb.out.size;have hnews:=gW Hd.out;go_wp2_with (at_builtin;refine wpList_append_own_at _ rfl _ _ 32 rfl wk.heap.size 48 i0 _ 3 32 Tryz.underlying32 Hi.out dF.out dv.out di.out rfl zd v2 j ((qP.take j).flatMap bG) rfl dR ⟨wr.heap.size,0,none⟩ 1 1 [aj s1,ai m1,ah e1] rfl rfl hnews zy zx zo zo ?_;intro v' w7 fg fM _ _;obtain⟨g',sL,rfl⟩:=ownsRow_succ fg);go_roundw;case rel=>
        refine⟨j+1,_,by omega,by go_num,rfl,?_,?_⟩
        . rw[cn.out];exact fg
        . exact(aO dD.out Hb.out).grown fM zo (λj e=>dX dR j e)
       case measure=>exact bI
     . obtain rfl:j=L:=by omega
       have hct:qP.take j=qP:=List.take_of_length_le (by rw[gP.out];exact Nat.le_refl _);rw[hct]at ho;obtain⟨a2,cap2,rfl,jR,iM⟩:=dS ho;obtain⟨Gm,aaZ,wN,QL,FQ⟩:=fU (RZ.out.below hb2) (iB.out.aFM hb2) jR iM ((fH.out.below eJ.out).below hb2);have vh:=hb2.size;clear ho hb2 hct jR iM;obtain⟨wj,ER⟩:∃wj,wj=wr:=⟨_,rfl⟩;subst ER;go_wp2_with fail;go_loopw[49] (λx wr=>∃i:Nat,i<=ek/\x=.int .u8 (i:Int)/\Gr wr w.heap.size (w1.heap.size+1) V (sh.length+i) (ik V 0 [c] (sh++List.replicate i (mo S k)))/\Chg (λb=>b=w1.heap.size+1) wj wr) (λx _=>ek-(intOf x).toNat);case atStart=>exact⟨0,Nat.zero_le _,rfl,by simpa using Gm.out,Chg.refl _ _⟩
       case round=>
        clear Gm;obtain⟨i,hie,rfl,pG,pg⟩:=hrel;by_cases fS:i<ek
        . have hw8:IntKind.u8.wrap ((i:Int)+1)=((i+1:Nat):Int):=by rw[IntKind.wrap_u8];omega
          obtain⟨aG,zq,hbk,uC,hbase⟩:=pG;obtain⟨uP,uJ⟩:∃ls,sh++List.replicate i (mo S k)=ls:=⟨_,rfl⟩;obtain⟨m,hm⟩:=aK (sh.length+i);have hlm:uP.length=m:=by rw[<-uJ,<-hm,List.length_append,List.length_replicate]
          have VH:m<D:=by omega
          have JG:ik V 0 [c] (sh++List.replicate (i+1) (mo S k))=su V m (ik V 0 [c] uP) (mo S k):=by rw[List.replicate_succ',<-List.append_assoc,uJ,adf,Nat.zero_add,hlm]
          have Jq:∀l∈uP,∀d∈l,Sm B d:=by
           intro l hl;rw[<-uJ,List.mem_append]at hl;rcases hl with hl|hl
           . exact abd.out k l (by rw[yR.out];exact hl)
           . rw[(List.mem_replicate.1 hl).2];exact ak8.out k
          rw[uJ]at uC;rw[hm]at hbk;obtain⟨N,hN⟩:=aK (cnt V m);obtain⟨M,hM⟩:=aK (cnt V (m+1));rw[hN]at hbk;have im:¬(0=w1.heap.size+1):=by have:=fH.out.lt;omega
          have rB:=aiU V m N M (B+20* (B+4608)) B aG zq (ik V 0 [c] uP) a2 cap2 qP (mo S k) j iA.out.symm (m+1) rfl wr hV hV2 zo hN hM (by rw[<-hN];exact LK.out m zo) (by rw[<-hM];exact LK.out (m+1) zo) (by rw[aav.out,hlm,hN]) gP.out ald.out uC (wN.out.chg pg (λb o e=>by have:=QL.out b o e;omega)) (aax.out uP zo Jq) Hcf.out zo (pg.tab FQ.out im);obtain⟨GA,Hg,Gp,Bc,Hm,HM⟩:=iq rB hbk pg JG hm hM;clear rB hbk pg JG hm hM hN hlm uC Jq uJ;have Hb:=hbz wr;have lg8:=Hg.out.lt;obtain⟨g0,Iu,g1,Iw,g2,Ix⟩:=Hg.out.g3;go_wp2_with fail;refine(GA.out).mono ?_;rintro e w2 ⟨bO,rfl,hbO,ng,ag⟩;obtain⟨Hg,g0,Iu,g1,Iw,g2,Ix⟩:=bg Hg ag;replace Hb:=az Hb ag;have QQ:=ar ng;have AV:Hid (Chg (λb=>b=w1.heap.size+1) wj w2):=Gp.out.aFM Hb.out;clear ng;go_wp2;go_roundw;case rel=>
           have hblk:=((Hg.out.set 0 (.slice (some ⟨bO,0,none⟩) M M)).set 1 (ah (V:Int))).set 2 (ah ((m:Int)+1));have Vn:=((AV.out.set (a:=⟨w1.heap.size+1,0,none⟩) rfl (.slice (some ⟨bO,0,none⟩) M M)).set (a:=⟨w1.heap.size+1,1,none⟩) rfl (ah (V:Int))).set (a:=⟨w1.heap.size+1,2,none⟩) rfl (ah ((m:Int)+1));have Ev:=QQ.out.chg ((((Chg.refl (λb=>b=w1.heap.size+1) w2).set (a:=⟨w1.heap.size+1,0,none⟩) rfl (.slice (some ⟨bO,0,none⟩) M M)).set (a:=⟨w1.heap.size+1,1,none⟩) rfl (ah (V:Int))).set (a:=⟨w1.heap.size+1,2,none⟩) rfl (ah ((m:Int)+1))) (λb o e=>by cases e;omega);refine⟨i+1,by omega,by go_num,⟨some ⟨bO,0,none⟩,M,?_,?_,λb o e=>by cases e;omega⟩,Vn⟩
           . have e9:sh.length+(i+1)=m+1:=by rw[<-Hm.out];omega
             have e10:((sh.length+(i+1):Nat):Int)=(m:Int)+1:=by omega
             rw[e10,e9,HM.out];exact hblk
           . rw[Bc.out];exact Ev
          case measure=>exact bI
        . obtain rfl:i=ek:=by omega
          obtain⟨amy,Gp⟩:=aZ pG (aaZ.out.trans pg (λb e=>.inl e));clear pG pg;go_wp2;go_roundw;case rel=>refine⟨k+1,by omega,by go_num,?_,Gp.out⟩;rw[aml.out,List.length_append,List.length_replicate];exact amy.out
          case measure=>exact bI
  . obtain rfl:V=k:=by omega
    obtain⟨sh,hsh⟩:=aK (lT S es V);rw[hsh]at pG;have af8:sh.length=es.sum:=by rw[<-hsh,Yj S es V (by rw[Rk.out];exact Nat.le_refl _),List.take_of_length_le (by rw[Rk.out];exact Nat.le_refl _)]
    have gsz:w1.heap.size+1<W3.heap.size:=by have:=Zr.out;omega
    have bQ:=LH.out.trans (pg.below (n:=w.heap.size) (by have:=LH.out.size;omega) (λb e=>by omega));obtain⟨RZ,iB,eJ,yR,abc⟩:=fU pG pg bQ hsh af8;clear pG pg bQ hsh af8;obtain⟨wk,hwk⟩:∃wk,wk=wr:=⟨_,rfl⟩;subst hwk;have KX:=iB.out.size;have hL9:L<=9:=by have:=iA.out;omega
    go_wp2_with fail;go_loopw[13,58] (λYd x wr=>∃(j:Nat) (v2:Value),j<=L/\x=ah (j:Int)/\v2=Yd/\wr.ownsRow wk.heap.size 48 3 v2 j ((List.replicate j (canon one)).flatMap bG)/\Bw wk wr) (λ_ x _=>L-(intOf x).toNat);case atStart=>exact⟨0,_,Nat.zero_le _,rfl,rfl,World.ownsRow_nil _ _ _ _,Below.refl _ _⟩
    case round=>
     obtain⟨j,v2,hj,rfl,rfl,ho,hb2⟩:=hrel;by_cases bC:j<L
     . have cn:Hid ((List.replicate (j+1) (canon one)).flatMap bG=(List.replicate j (canon one)).flatMap bG++[aj (aC (dN one)),ai (nt (dN one).natAbs),ah (dE one)]):=by
        show _=_
        rw[List.replicate_succ',List.flatMap_append];simp only[List.flatMap_cons,List.flatMap_nil,List.append_nil];rfl
       obtain⟨Ho,dD,FQ⟩:=cX ho hb2 ((fH.out.below eJ.out).below hb2);have vh:=hb2.size;clear ho hb2;have Hb:=hbz wr;go_wp2_with fail;refine(og.out _ FQ.out).mono ?_;rintro e w5 ⟨rfl,ag⟩;replace Hb:=az Hb ag;obtain⟨W6,uz,ag,Hd⟩:=cE w5 48 [aj (aC (dN one)),ai (nt (dN one).natAbs),ah (dE one)];obtain⟨d0,d1,d2⟩:=Hd.out.c3;replace Hb:=az Hb ag;have dR:=ownsRow_below Ho.out Hb.out;have ky:=Hb.out.size;have hnews:=gW Hd.out;go_wp2_with (at_builtin;refine wpList_append_own_at _ rfl _ _ 32 rfl wk.heap.size 48 i0 _ 3 32 Tryz.underlying32 Hi.out dF.out dv.out di.out rfl zd v2 j ((List.replicate j (canon one)).flatMap bG) rfl dR ⟨w5.heap.size,0,none⟩ 1 1 [aj (aC (dN one)),ai (nt (dN one).natAbs),ah (dE one)] rfl rfl hnews zy zx zo zo ?_;intro v' w7 fg fM _ _;obtain⟨g',sL,rfl⟩:=ownsRow_succ fg);go_roundw;case rel=>
        refine⟨j+1,_,by omega,by go_num,rfl,?_,?_⟩
        . rw[cn.out];exact fg
        . exact(aO dD.out Hb.out).grown fM zo (λj e=>dX dR j e)
       case measure=>exact bI
     . obtain rfl:L=j:=by omega
       obtain rfl:L=V+1:=iA.out;obtain⟨a2,cap2,rfl,jR,iM⟩:=dS ho;obtain⟨Gm,aaZ,wN,QL,FQ⟩:=fU (RZ.out.below hb2) (iB.out.aFM hb2) jR iM ((fH.out.below eJ.out).below hb2);have hbz:=eJ.out.trans (hb2.mono (by have:=eJ.out.size;omega));have jJ:=ar hbz;have vh:=hb2.size;clear ho hb2 jR iM hbz;obtain⟨wj,ER⟩:∃wj,wj=wr:=⟨_,rfl⟩;subst ER;have hsD:sh.length<=D:=by have:=abk.out;have:=abc.out;omega
       go_wp2_with fail;go_loopw[] (λwr=>∃i:Nat,sh.length+i<=D/\Gr wr w.heap.size (w1.heap.size+1) V (sh.length+i) (ik V 0 [c] (sh++List.replicate i (oP V)))/\Chg (λb=>b=w1.heap.size+1) wj wr) (λwr=>D-TT wr (w1.heap.size+1));case atStart=>exact⟨0,by omega,by simpa using Gm.out,Chg.refl _ _⟩
       case round=>
        clear Gm;obtain⟨i,hie,pG,pg⟩:=hrel;by_cases fS:sh.length+i<D
        . obtain⟨aG,zq,hbk,uC,hbase⟩:=pG;obtain⟨uP,uJ⟩:∃ls,sh++List.replicate i (oP V)=ls:=⟨_,rfl⟩;obtain⟨m,hm⟩:=aK (sh.length+i);have hlm:uP.length=m:=by rw[<-uJ,<-hm,List.length_append,List.length_replicate]
          have VH:m<D:=by omega
          have JG:ik V 0 [c] (sh++List.replicate (i+1) (oP V))=su V m (ik V 0 [c] uP) (oP V):=by rw[List.replicate_succ',<-List.append_assoc,uJ,adf,Nat.zero_add,hlm]
          have Jq:∀l∈uP,∀d∈l,Sm B d:=by
           intro l hl;rw[<-uJ,List.mem_append]at hl;rcases hl with hl|hl
           . exact abd.out V l (by rw[yR.out];exact hl)
           . rw[(List.mem_replicate.1 hl).2];exact vA.out
          rw[uJ]at uC;rw[hm]at hbk;obtain⟨N,hN⟩:=aK (cnt V m);obtain⟨M,hM⟩:=aK (cnt V (m+1));rw[hN]at hbk;have im:¬(0=w1.heap.size+1):=by have:=fH.out.lt;omega
          have rB:=aiU V m N M (B+20* (B+4608)) B aG zq (ik V 0 [c] uP) a2 cap2 (List.replicate (V+1) (canon one)) (oP V) (V+1) rfl (m+1) rfl wr hV hV2 zo hN hM (by rw[<-hN];exact LK.out m zo) (by rw[<-hM];exact LK.out (m+1) zo) (by rw[aav.out,hlm,hN]) zm (by rw[List.map_replicate,cp,<-ams.out];rfl) uC (wN.out.chg pg (λb o e=>by have:=QL.out b o e;omega)) (aax.out uP zo Jq) (λx hx=>by rw[(List.mem_replicate.1 hx).2];exact amq.out) zo (pg.tab FQ.out im);obtain⟨GA,Hg,Gp,Bc,Hm,HM⟩:=iq rB hbk pg JG hm hM;clear rB hbk pg JG hm hM hN hlm uC Jq uJ;have Hb:=hbz wr;have lg8:=Hg.out.lt;have Hg0:=Hg;obtain⟨g0,Iu,g1,Iw,g2,Ix⟩:=Hg.out.g3;go_wp2_with fail;refine(GA.out).mono ?_;rintro e w2 ⟨bO,rfl,hbO,ng,ag⟩;obtain⟨Hg,g0,Iu,g1,Iw,g2,Ix⟩:=bg Hg ag;replace Hb:=az Hb ag;have QQ:=ar ng;have AV:Hid (Chg (λb=>b=w1.heap.size+1) wj w2):=Gp.out.aFM Hb.out;clear ng;go_wp2;go_roundw;case rel=>
           have hblk:=((Hg.out.set 0 (.slice (some ⟨bO,0,none⟩) M M)).set 1 (ah (V:Int))).set 2 (ah ((m:Int)+1));have Vn:=((AV.out.set (a:=⟨w1.heap.size+1,0,none⟩) rfl (.slice (some ⟨bO,0,none⟩) M M)).set (a:=⟨w1.heap.size+1,1,none⟩) rfl (ah (V:Int))).set (a:=⟨w1.heap.size+1,2,none⟩) rfl (ah ((m:Int)+1));have Ev:=QQ.out.chg ((((Chg.refl (λb=>b=w1.heap.size+1) w2).set (a:=⟨w1.heap.size+1,0,none⟩) rfl (.slice (some ⟨bO,0,none⟩) M M)).set (a:=⟨w1.heap.size+1,1,none⟩) rfl (ah (V:Int))).set (a:=⟨w1.heap.size+1,2,none⟩) rfl (ah ((m:Int)+1))) (λb o e=>by cases e;omega);refine⟨i+1,by omega,⟨some ⟨bO,0,none⟩,M,?_,?_,λb o e=>by cases e;omega⟩,Vn⟩
           . have e9:sh.length+(i+1)=m+1:=by rw[<-Hm.out];omega
             have e10:((sh.length+(i+1):Nat):Int)=(m:Int)+1:=by omega
             rw[e10,e9,HM.out];exact hblk
           . rw[Bc.out];exact Ev
          case measure=>have hblk:=((Hg.out.set 0 (.slice (some ⟨bO,0,none⟩) M M)).set 1 (ah (V:Int))).set 2 (ah ((m:Int)+1));have e1:=acA Hg0.out;have e2:=acA (m:=m+1) (show au _ _ _ [.slice (some ⟨bO,0,none⟩) M M,ah (V:Int),ah ((m+1:Nat):Int)]from by rw[show((m+1:Nat):Int)=(m:Int)+1 by omega];exact hblk);rw[e1,e2];omega
        . have hiD:sh.length+i=D:=by omega
          obtain⟨aG,zq,hbk,uC,hbase⟩:=pG;rw[hiD]at hbk;have hfe:ik V 0 [c] (sh++List.replicate i (oP V))=kJ V D S c es:=by unfold kJ;rw[Rk.out,yR.out,<-abc.out,show D-sh.length=i by omega]
          rw[hfe]at uC;obtain⟨g0,g1,g2⟩:=hbk.c3;have aCW:¬(D:Int)<(D:Int):=by omega
          obtain⟨akO,akY,Hbq⟩:=cX uC hbase (jJ.out.trans (pg.below (n:=w.heap.size) (by have:=jJ.out.size;omega) (λb e=>by omega)));clear uC hbase hfe pg hbk;go_wp2;exact bodyPost_ret (v:=.slice aG (cnt V D) zq) (by simp[results,Tryz.results44,go_sem]) rfl ⟨aG,⟨zq,rfl⟩,akO.out,akY.out,Hbq.out⟩
end Go.Proofs.YtnjfebkelecgaaaGreatDoor
