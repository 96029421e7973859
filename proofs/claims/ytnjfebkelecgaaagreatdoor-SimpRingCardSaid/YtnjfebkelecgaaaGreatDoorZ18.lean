/- Package simp: a form times a sum of shares. -/
import Derived.Test.YtnjfebkelecgaaaGreatDoorZ16
import Derived.Test.YtnjfebkelecgaaaGreatDoorZ17
import Derived.Test.YtnjfebkelecgaaaGreatDoorZ7
import Derived.Laws.IdiomStrings
import Derived.Test.YtnjfebkelecgaaaGreatDoorZ11
set_option linter.unusedVariables false
set_option linter.unusedSimpArgs false
set_option maxRecDepth 100000
set_option maxHeartbeats 16000000
namespace Go.Proofs.YtnjfebkelecgaaaGreatDoor
open Go.RowKit
attribute [local go_sem ↓] Go.wp_at_zero Go.wp_at_succ
def sO (w:World)(b:Nat)(l:List UInt8):Prop:=∀j (hj:j<l.length),w.cell? ⟨b,j,none⟩=some (.int .u8 (l[j].toNat:Int))/\w.frozen? ⟨b,j,none⟩=false
theorem sO.below {w w':World}{b:Nat}{l:List UInt8}(h:sO w b l)(hb:Bw w w'):sO w' b l:=λj hj=>⟨cell_later hb (h j hj).1,by
 have h1:=World.block_lt_of_cell? w _ (h j hj).1;rw[World.frozen?_of_block (a:=⟨b,j,none⟩) (w:=w) (hb.block b h1)]
 exact(h j hj).2⟩
theorem NT (l:List UInt8)(w:World):∃c W',(convert 9 84 (.string (bs l))).run Tryz.prog w=.ok (.slice (some ⟨w.heap.size,0,none⟩) l.length c) W'/\Bw w W'/\w.heap.size<W'.heap.size/\sO W' w.heap.size l:=by
 have h:=run_bytes_of_string (P:=Tryz.prog) w 9 84 5 (bs l) Tryz.underlying9 Tryz.underlying84 Tryz.underlying5;refine⟨_,_,by rw[h,jd],((Below.refl _ _).drew).alloc (Nat.le_refl _) _,by simp,λj hj=>?_⟩;have hs:j<(bs l).data.size:=by simpa[bs]using hj
 have hb:=bytesRow_at (bs l) (grownCap w (bs l).size 0 5) j hs;refine⟨?_,?_⟩
 . have:=World.cell?_alloc_mark w.drew (bytesRow (bs l) (grownCap w (bs l).size 0 5)) 5 ((bytesRow (bs l) (grownCap w (bs l).size 0 5)).size,(bytesRow (bs l) (grownCap w (bs l).size 0 5)).size+1) j;refine this.trans (hb.trans ?_);simp[bs]
 . have:=World.frozen?_alloc_mark w.drew (bytesRow (bs l) (grownCap w (bs l).size 0 5)) 5 (bytesRow (bs l) (grownCap w (bs l).size 0 5)).size ((bytesRow (bs l) (grownCap w (bs l).size 0 5)).size+1) j;refine this.trans ?_;have hlt:=(Array.getElem?_eq_some_iff.1 hb).1;simp;omega
theorem sO.back {w:World}{b:Nat}{l:List UInt8}(h:sO w b l)(cap:Nat):(convert 84 9 (.slice (some ⟨b,0,none⟩) l.length cap)).run Tryz.prog w=.ok (ai l) w:=
 run_convert_bytes_back (P:=Tryz.prog) w 84 9 5 ⟨b,0,none⟩ cap l Tryz.underlying84 Tryz.underlying5 Tryz.underlying9 (λj hj=>by
  have:=(h j hj).1;rw[show(⟨b,0,none⟩:Addr).add j=⟨b,j,none⟩by simp[Addr.add];intro h;exact h.symm]
  exact this)
theorem sO.set {w:World}{b:Nat}{l:List UInt8}(h:sO w b l)(j:Nat)(hj:j<l.length)(u:UInt8):sO (w.setCell ⟨b,j,none⟩ (.int .u8 (u.toNat:Int))) b (l.set j u):=by
 intro i hi;have hi2:i<l.length:=by simpa using hi
 by_cases e:j=i
 . subst e;refine⟨?_,?_⟩
   . rw[World.cell?_setCell_same _ _ _ (h j hj).1];simp
   . rw[World.frozen?_setCell];exact(h j hj).2
 . refine⟨?_,?_⟩
   . rw[World.cell?_setCell_other _ _ _ _ (show(⟨b,j,none⟩:Addr)≠⟨b,i,none⟩from λh=>e (Addr.mk.inj h).2.1),(h i hi2).1];simp[e]
   . rw[World.frozen?_setCell];exact(h i hi2).2
theorem aeG (c:Int)(n:Nat)(hc:c=n)(h:n<=1048576)(w:World):
 (Instr.makeSlice 78 (ah c) (ah c)).run Tryz.prog w=.ok (.slice (some ⟨w.heap.size,0,none⟩) n n) (w.alloc (.cells (dC (List.replicate n 0)).toArray 48)):=by
 subst hc;obtain⟨i0,hi,hz0,hz1,hz2⟩:=info_parts Tryz.aBk;rw[run_make (P:=Tryz.prog) w 78 48 i0 _ Tryz.underlying78 hi hz0 .i64 .i64 n n zo zo (by rw[hz2];omega) zo];simp only[Int.toNat_natCast,hz1];rw[arN]
theorem ato (V D:Nat)(hV:1<=V)(hV2:V<=8)(hD:D<=20)(hc:cnt V D<=512):Jl (V:Int) (D:Int)=cQ (V+1) D:=by unfold Jl;rw[if_pos ⟨by omega,by omega,by omega,by omega,by simpa using hc⟩];simp only[Int.toNat_natCast]
theorem avG (V D N M A B:Nat)(cs L:List Dyadic)(hV:1<=V)(hV2:V<=8)(hD:D<20)(hN:cnt V D=N)(hM:cnt V (D+1)=M)(wO:N<=512)(hcm:∀c∈cs,Sm A c)(vA:∀x∈L,Sm B x):
 ∃DS:Nat->Nat->List Dyadic,DS 0 0=List.replicate M 0/\(∀k,k<N->DS k (V+1)=DS (k+1) 0)/\DS N 0=mP V D cs L/\
  ∀k j,k<N->j<V+1->(DS k j).length=M/\(∀d∈DS k j,Sm (A+B+4608) d)/\
   ∃q,place ((cQ (V+1) (D+1)).map λx=>x.map UInt8.ofNat) M ((kx ((cQ (V+1) D).getD k []) j).map UInt8.ofNat)=q/\q<M/\DS k (j+1)=(DS k j).set q ((DS k j).getD q 0+cs.getD k 0*L.getD j 0):=by
 obtain⟨R,hR⟩:=aK (cQ (V+1) D);obtain⟨R',hR'⟩:=aK (cQ (V+1) (D+1));have jm:R.length=N:=by rw[<-hR,sK];exact hN
 have Gu:R'.length=M:=by rw[<-hR',sK];exact hM
 have hmem:∀x∈R,x.length=V+1/\x.sum=D:=λx hx=>(rH V D x).1 (by rw[hR];exact hx);have acF:∀x∈R,∀t,t<V+1->kx x t∈R':=λx hx t ht=>by obtain⟨h1,h2⟩:=hmem x hx;rw[<-hR'];exact(rH V (D+1) _).2 ⟨by rw[aqj];exact h1,by rw[ad2 _ _ zo];omega⟩
 obtain⟨f,hf⟩:=aK (place (R'.map λx=>x.map UInt8.ofNat) M);have adl:∀x∈R',∃q,∃h:q<R'.length,R'[q]=x/\f (x.map UInt8.ofNat)=q:=λx hx=>by have:=as6 (n:=V) (s:=D+1) zo (x:=x) (by rw[hR'];exact hx);rw[hR']at this;rw[<-hf,<-Gu];exact this
 have hnd:R'.Nodup:=by rw[<-hR'];exact Vx V (D+1)
 obtain⟨P,hP⟩:∃P:Nat->jh,P=λk=>uB (R.getD k []) (cs.getD k 0) λt=>L.getD t 0:=⟨_,rfl⟩;have hrow:∀k,k<N->R.getD k []∈R:=λk hk=>by
  have:R.getD k []=R[k]'zo:=by simp[show k<R.length by omega]
  rw[this];exact List.getElem_mem _
 have Sn:∀k,k<N->P k=(List.range (V+1)).map λt=>(kx (R.getD k []) t,cs.getD k 0*L.getD t 0):=λk hk=>by
  rw[hP];show uB _ _ _=_
  unfold uB;rw[(hmem _ (hrow k hk)).1]
 have hsm:∀k t,Sm (A+B) (cs.getD k 0*L.getD t 0):=λk t=>Sm.mul (pU hcm k) (pU vA t);rw[hR,hR',hf];refine⟨λk j=>lL f (List.replicate M 0) (uz P k++(List.range j).map λt=>(kx (R.getD k []) t,cs.getD k 0*L.getD t 0)),rfl,λk hk=>?_,?_,λk j hk hj=>⟨?_,?_,?_⟩⟩
 . show lL _ _ _=lL _ _ _
   rw[afd,Sn k hk];simp
 . show lL _ _ _=_
   have e:uz P N=BN R cs λt=>L.getD t 0:=by rw[hP,<-jm];rfl
   rw[List.range_zero,List.map_nil,List.append_nil,e,<-Gu,atB R' hnd f adl _ (af3 (λx hx=>(hmem x hx).1) acF)];unfold mP;rw[hR,hR']
 . show(lL _ _ _).length=M
   rw[atz];simp
 . intro d hd;have hlen:(uz P k++(List.range j).map λt=>(kx (R.getD k []) t,cs.getD k 0*L.getD t 0)).length<=4608:=by have h1:=afc P 9 N k zo (λk hk=>by rw[Sn k hk];simp;omega);rw[List.length_append,List.length_map,List.length_range];have:=Nat.mul_le_mul_right 9 (show k+1<=512 by omega);omega
   refine(atA (B:=A+B) f (List.replicate M 0) _ (λd hd=>by rw[List.eq_of_mem_replicate hd];exact Sm.zero _) (λp hp=>?_) d hd).mono zo;rw[List.mem_append]at hp;rcases hp with hp|hp
   . refine afb P N k zo (Q:=λp=>Sm (A+B) p.2) (λk hk p hp=>?_) p hp;rw[Sn k hk,List.mem_map]at hp;obtain⟨t,_,rfl⟩:=hp;exact hsm k t
   . rw[List.mem_map]at hp;obtain⟨t,_,rfl⟩:=hp;exact hsm k t
 . obtain⟨q,hq,hq2,pZ⟩:=adl _ (acF _ (hrow k hk) j hj);refine⟨q,pZ,by omega,?_⟩;show lL _ _ _=_
   rw[List.range_succ,List.map_append,<-List.append_assoc,atx];simp only[List.map_cons,List.map_nil];show tE _ _ _=_
   unfold tE;simp only[pZ]
theorem Jm (V D N:Nat)(hV:1<=V)(hV2:V<=8)(hD:D<=20)(hN:cnt V D=N)(wO:N<=512)(w:World):
 Calls Tryz.prog 21 #[ah (V:Int),ah (D:Int)] w λe w'=>∃a cap,e=.returned (.slice a N cap)/\At w' a ((cQ (V+1) D).map λx=>Value.string (bs (x.map UInt8.ofNat)))/\(∀b o,a=some ⟨b,o,none⟩->w.heap.size<=b)/\Bw w w':=by
 have h:=atp (V:Int) (D:Int) w;rw[ato V D hV hV2 hD zo,sK,hN]at h;exact h
theorem af4 (V D N M A B:Nat)(aN:Option Addr)(FX:Nat)(cs:List Dyadic)(aL:Option Addr)(Zz:Nat)(ls:List Raw)(L:List Dyadic)(v1:Nat)(hv1:V+1=v1)(d1:Nat)(hd1:D+1=d1)(w:World)
 (hV:1<=V) (hV2:V<=8) (hD:D<20) (hN:cnt V D=N) (hM:cnt V (D+1)=M) (wO:N<=512) (hM5:M<=512) (hcs:cs.length=N) (hls:ls.length=v1) (hL:ls.map aM=L)
 (haN:At w aN (dC cs)) (haL:At w aL (ls.flatMap cz)) (hcm:∀c∈cs,Sm A c) (vA:∀x∈ls,Fit B x) (RP:A+B<=100000000) (hT:aO w):
 Calls Tryz.prog 87 #[.agg #[.slice aN N FX,ah (V:Int),ah (D:Int)],.slice aL v1 Zz] w λe w'=>∃bO,e=.returned (.agg #[.slice (some ⟨bO,0,none⟩) M M,ah (V:Int),ah (d1:Int)])/\
  w.heap.size<=bO/\At w' (some ⟨bO,0,none⟩) (dC (mP V D cs L))/\Bw w w':=by
 have hLs:∀x∈L,Sm B x:=by intro x hx;rw[<-hL]at hx;obtain⟨r,hr,rfl⟩:=List.mem_map.1 hx;exact(vA r hr).2
 obtain⟨DS,hd0,AR,hdf,hds⟩:=avG V D N M A B cs L hV hV2 hD hN hM wO hcm hLs;have hp1:=λW=>Jm V (D+1) M hV hV2 zo hM hM5 W;have hp0:=λW=>Jm V D N hV hV2 zo hN wO W;obtain⟨R,hR⟩:=aK (cQ (V+1) D);obtain⟨R',hR'⟩:=aK (cQ (V+1) (D+1));have jm:R.length=N:=by rw[<-hR,sK];exact hN
 have Gu:R'.length=M:=by rw[<-hR',sK];exact hM
 have hmem:∀x∈R,x.length=v1/\∀a∈x,a<=20:=λx hx=>by have h:=(rH V D x).1 (by rw[hR];exact hx);exact⟨by omega,λa ha=>by have:=Nv ha;omega⟩
 have acZ:∀x∈R',x.length=v1:=λx hx=>by have h:=(rH V (D+1) x).1 (by rw[hR'];exact hx);omega
 rw[hR]at hp0 hds;rw[hR',hd1]at hp1;rw[hR']at hds;obtain⟨f,hf⟩:=aK (place (R'.map λx=>x.map UInt8.ofNat) M);rw[hf]at hds
 have hpl:=λa cap W=>λ(h:At W a (R'.map λx=>Value.string (bs (x.map UInt8.ofNat))))=>as8 a cap M (R'.map λx=>x.map UInt8.ofNat) (by simpa using Gu) hM5 (by
  intro l hl;obtain⟨x,hx,rfl⟩:=List.mem_map.1 hl
  rw[List.length_map,acZ x hx];omega) W (by rw[List.map_map];exact h)
 rw[hf]at hpl;have hwD:IntKind.i64.wrap ((D:Int)+1)=(d1:Int):=by rw[IntKind.wrap_i64];omega
 have hmk:=aeG (M:Int) M rfl zo;obtain⟨XA,Ck,XE,Kg,mY,Ks,uJ,Yg,vR,HL,ES,zV⟩:=gy hd0 AR hdf hds hp1 hp0 hpl hmem jm hL hls hcs;obtain⟨Xz,Kl,JX,JW,HT,CB,Hd1,lu⟩:=rG hcm vA haN haL hT hv1 hd1 hmk;clear hd0 AR hdf hds hp1 hp0 hpl hmem acZ jm Gu hR hR' hf hL hls hcs hcm vA haN haL hT hLs hN hM hv1 hd1 hmk;obtain⟨W,dw,Hb,Hg,Hr⟩:=mK w 121 [.slice aN N FX,ah (V:Int),ah (D:Int)] 121 [.slice none 0 0,ah 0,ah 0];obtain⟨g0,g1,g2⟩:=Hg.out.c3;obtain⟨r0,au,r1,az,r2,aJ⟩:=Hr.out.g3;have sS:Hid (At W aN (dC cs)):=JX.out.below Hb.out;have sQ:Hid (At W aL (ls.flatMap cz)):=JW.out.below Hb.out;have HU:Hid (aO W):=HT.out.below Hb.out;go_enter Tryz.func87,Tryz.ntmps87;go_wp2_with fail;refine(mY.out _).mono ?_;rintro e w1 ⟨a1,aml,rfl,jK,apa,ag⟩;clear g0 g1 g2 r0 au r1 az r2 aJ;obtain⟨Hg,g0,g1,g2⟩:=bP Hg ag;obtain⟨Hr,r0,au,r1,az,r2,aJ⟩:=bg Hr ag;replace sS:=kA sS ag;replace sQ:=kA sQ ag;replace HU:=kT HU ag;replace Hb:=aF Hb ag;clear ag;have JY:=aj jK;clear jK apa;go_wp2_with fail;refine(uJ.out a1 aml _ JY.out).mono ?_;rintro e w2 ⟨bm,rfl,⟨hmp,GD⟩,ag⟩;clear g0 g1 g2 r0 au r1 az r2 aJ;obtain⟨Hg,g0,g1,g2⟩:=bP Hg ag;obtain⟨Hr,r0,au,r1,az,r2,aJ⟩:=bg Hr ag;replace sS:=kA sS ag;replace sQ:=kA sQ ag;replace HU:=kT HU ag;replace Hb:=aF Hb ag;clear ag;have lh:Hid (Mp w2 bm M f):=hmp;clear hmp JY;have ah1:Hid (bm<w2.heap.size):=lh.out.lt;have Es:=Hb.out.size;have lg:=Hg.out.lt;have lr:=Hr.out.lt;go_upto_region 3 with fail
 go_cut[7] (λs7 wx=>∃bO bB:Nat,s7=.pointer (some ⟨bO,0,none⟩)/\w2.heap.size<=bO/\w2.heap.size<=bB/\bO≠bB/\aC wx bO 121 [.slice (some ⟨bB,0,none⟩) M M,ah (V:Int),ah (d1:Int)]/\aC wx bB 48 (dC (List.replicate M 0))/\Bw w2 wx);case first=>
  have hmk:=lu.out;clear r0 r1 r2 au az aJ Hr sS sQ HU lh XA Ck XE Kg mY Ks uJ Yg vR HL ES zV Xz Kl JX JW HT lu;obtain⟨w0,hw0⟩:∃w0,w0=w:=⟨_,rfl⟩;subst hw0;obtain⟨w,IJ⟩:∃w,w=w2:=⟨_,rfl⟩;subst IJ;clear Hb;have Hb:Hid (Bw w w):=Below.refl _ _;obtain⟨g0,g1,g2⟩:=Hg.out.c3;have fE:∀w',eu w w'->aH w' (w0.heap.size) 1 (ah (V:Int))/\aH w' (w0.heap.size) 2 (ah (D:Int)):=λw' h=>⟨cell_later h g1,cell_later h g2⟩;have bu:Hid (eu w w):=Below.refl _ _;refine Oq (λw'=>eu w w') (λi=>Nat.blt i 10) (.rd 0 (.rd 1 (.rd 3 (.rd 4 (.rd 5 (.rd 6 (.rd 7 (.br 2 9 (.lin [(8,true),(9,false),(10,false)]) (.lin [(2,false),(8,true),(10,false)]))))))))) zk zk rfl zk zc bu.out.drew ?_;iterate 7 (refine NK rfl rfl (v:=?_) (λw' hw'=>?_) ?_;rotate_left;(focus have hw':=fE w' hw';obtain⟨q0,q1⟩:=hw';go_simp;try with_reducible rfl);try simp only[UU])
  clear  fE;refine Ji rfl rfl rfl rfl rfl rfl  (λK hK=>?_) (λK hK=>?_) 
  . go_simp;have arj:=Hb.out.size;refine hK _ _ (λ_=>by first|exact bu.out.alloc _|exact(bu.out.alloc _).drew|exact(bu.out.drew).alloc _) ?_;clear hK K;try simp only[UU]
    refine Jj (λWn=>aC Wn (w.heap.size) 48 (dC (List.replicate M 0))/\Bw w Wn) (by first|exact dZ|exact ej) ?_;rintro Wn ⟨Ju,ag⟩;clear g0 g1 g2;have arf:=Hg.out.lt;replace bu:=aj (bu.out.below ag);replace Hg:=kB Hg ag;have gh:=aj Ju;clear Ju;obtain⟨g0,g1,g2⟩:=Hg.out.c3;replace Hb:=aF Hb ag;clear ag;refine xA ?_;refine pT rfl rfl ?_;try simp only[UU]
    refine aW rfl rfl (λK hK=>?_);go_simp;have arn:=Hb.out.size;refine hK _ _ (λ_=>by first|exact bu.out.alloc _|exact(bu.out.alloc _).drew|exact(bu.out.drew).alloc _) ?_;clear hK K;try simp only[UU]
    refine cn (λWo=>aC Wo (Wn.heap.size) 121 [.slice none 0 0,ah 0,ah 0]/\Bw Wn Wo) (by first|exact dZ|exact ej) ?_;rintro Wo ⟨Jv,ag⟩;clear g0 g1 g2;have arh:=Hg.out.lt;have azS:=gh.out.lt;replace bu:=aj (bu.out.below ag);replace Hg:=kB Hg ag;replace gh:=kB gh ag;have ow:=aj Jv;clear Jv;obtain⟨g0,g1,g2⟩:=Hg.out.c3;obtain⟨BD,Ay,BF,Az,BG,AA⟩:=ow.out.g3;replace Hb:=aF Hb ag;clear ag;refine aW rfl rfl (λK hK=>?_);go_simp;refine hK _ _ (λh=>absurd h zd) ?_;clear hK K;try simp only[UU]
    clear g0 g1 g2 BD Ay BF Az BG AA;refine cn (cm Wo (Wn.heap.size) 0 [.slice (some ⟨w.heap.size,0,none⟩) M M,ah (V:Int),ah (d1:Int)]) cC ?_;intro Ws hs;replace Hg:=kS Hg hs zo;replace gh:=kS gh hs zo;replace ow:=cX ow hs;obtain⟨g0,g1,g2⟩:=Hg.out.c3;obtain⟨BD,Ay,BF,Az,BG,AA⟩:=ow.out.g3;replace Hb:=bS Hb hs ZS;clear hs;simp only[bD];go_wp2_with fail;go_meet;exact⟨_,_,rfl,by omega,by omega,by omega,ow.out,gh.out,Hb.out⟩
  . go_simp;have arn:=Hb.out.size;refine hK _ _ (λ_=>by first|exact bu.out.alloc _|exact(bu.out.alloc _).drew|exact(bu.out.drew).alloc _) ?_;clear hK K;try simp only[UU]
    refine Jj (λWo=>aC Wo (w.heap.size) 121 [.slice none 0 0,ah 0,ah 0]/\Bw w Wo) (by first|exact dZ|exact ej) ?_;rintro Wo ⟨Jv,ag⟩;clear g0 g1 g2;have arh:=Hg.out.lt;replace bu:=aj (bu.out.below ag);replace Hg:=kB Hg ag;have ow:=aj Jv;clear Jv;obtain⟨g0,g1,g2⟩:=Hg.out.c3;obtain⟨BD,Ay,BF,Az,BG,AA⟩:=ow.out.g3;replace Hb:=aF Hb ag;clear ag;refine xA ?_;refine aW rfl rfl (λK hK=>?_);go_simp;have arj:=Hb.out.size;refine hK _ _ (λ_=>by first|exact bu.out.alloc _|exact(bu.out.alloc _).drew|exact(bu.out.drew).alloc _) ?_;clear hK K;try simp only[UU]
    refine cn (λWn=>aC Wn (Wo.heap.size) 48 (dC (List.replicate M 0))/\Bw Wo Wn) (by first|exact dZ|exact ej) ?_;rintro Wn ⟨Ju,ag⟩;clear g0 g1 g2 BD Ay BF Az BG AA;have arf:=Hg.out.lt;have azV:=ow.out.lt;replace bu:=aj (bu.out.below ag);replace Hg:=kB Hg ag;replace ow:=kB ow ag;have gh:=aj Ju;clear Ju;obtain⟨g0,g1,g2⟩:=Hg.out.c3;obtain⟨BD,Ay,BF,Az,BG,AA⟩:=ow.out.g3;replace Hb:=aF Hb ag;clear ag;refine pT rfl rfl ?_;try simp only[UU]
    refine aW rfl rfl (λK hK=>?_);go_simp;refine hK _ _ (λh=>absurd h zd) ?_;clear hK K;try simp only[UU]
    clear g0 g1 g2 BD Ay BF Az BG AA;refine cn (cm Wn (w.heap.size) 0 [.slice (some ⟨Wo.heap.size,0,none⟩) M M,ah (V:Int),ah (d1:Int)]) cC ?_;intro Ws hs;replace Hg:=kS Hg hs zo;replace ow:=cX ow hs;replace gh:=kS gh hs zo;obtain⟨g0,g1,g2⟩:=Hg.out.c3;obtain⟨BD,Ay,BF,Az,BG,AA⟩:=ow.out.g3;replace Hb:=bS Hb hs ZS;clear hs;simp only[bD];go_wp2_with fail;go_meet;exact⟨_,_,rfl,by omega,by omega,by omega,ow.out,gh.out,Hb.out⟩
 case rest=>
  obtain⟨bO,bB,rfl,h1,h2,h3,qO,qB,qb⟩:=hcut;clear g0 g1 g2 r0 au r1 az r2 aJ;replace Hg:=kB Hg qb;replace Hr:=kB Hr qb;replace sS:=kA sS qb;replace sQ:=kA sQ qb;replace HU:=kT HU qb;replace lh:=kM lh qb;obtain⟨g0,g1,g2⟩:=Hg.out.c3;obtain⟨r0,au,r1,az,r2,aJ⟩:=Hr.out.g3;replace Hb:=aj (aV Hb.out qb);clear qb;have HO:Hid (aC wc bO 121 [.slice (some ⟨bB,0,none⟩) M M,ah (V:Int),ah (d1:Int)]):=qO;have HB:Hid (aC wc bB 48 (dC (List.replicate M 0))):=qB;clear qO qB;have lO:=HO.out.lt;have lB:=HB.out.lt;go_wp2_with fail;refine(Ks.out _).mono ?_;rintro e w3 ⟨a0,Lg,rfl,ru,GA,ag⟩;clear g0 g1 g2 r0 au r1 az r2 aJ;obtain⟨Hg,g0,g1,g2⟩:=bP Hg ag;obtain⟨Hr,r0,au,r1,az,r2,aJ⟩:=bg Hr ag;replace sS:=kA sS ag;replace sQ:=kA sQ ag;replace HU:=kT HU ag;replace lh:=kM lh ag;replace HO:=kB HO ag;replace HB:=kB HB ag;replace Hb:=aF Hb ag;clear ag;have xP:=aj ru;have neB:∀b,b≠bB->¬(λb=>b=bB) b:=λb h=>h;have nN:∀b o,aN=some ⟨b,o,none⟩->cs≠[]->b≠bB:=by intro b o e h0;subst e;have:=JX.out.lt (by intro h;have:=congrArg List.length h;rw[Rk]at this;simp at this;exact h0 (List.length_eq_zero_iff.1 zo));omega
  have nL:∀b o,aL=some ⟨b,o,none⟩->ls≠[]->b≠bB:=by intro b o e h0;subst e;have:=JW.out.lt (by intro h;have:=congrArg List.length h;rw[oM cz 3 (λ_=>rfl)]at this;simp at this;exact h0 (List.length_eq_zero_iff.1 zo));omega
  have n0:∀b o,a0=some ⟨b,o,none⟩->b≠bB:=λb o e=>by have:=GA b o e;omega
  have nM:bm≠bB:=by rintro rfl;have h4:bm<w2.heap.size:=ah1.out;omega
  have nT:¬(0=bB):=by have:=HT.out.lt;omega
  obtain⟨HnN,HnL,qT⟩:=dc nN nL n0;have szW:=Hb.out.size;clear ru GA nN nL n0;have lw:aC w3 bB 48 (dC (DS 0 0)):=by rw[XA.out];exact HB.out
  have rP:=aj lw;clear lw;obtain⟨E0,E1,E2,E3,E4,E5,E6,E7⟩:=rG Hg.out Hr.out sS.out sQ.out lh.out HO.out HU.out Hb.out;clear Hg Hr sS sQ lh HO HU Hb HB g0 g1 g2 r0 r1 r2 au az aJ JX JW;go_wp2_with fail;go_loopw[36] (λx wr=>∃k:Nat,k<=N/\x=ah (k:Int)/\aC wr bB 48 (dC (DS k 0))/\Chg (λb=>b=bB) w3 wr) (λx _=>N-(intOf x).toNat);case atStart=>exact⟨0,Nat.zero_le _,rfl,rP.out,Chg.refl _ _⟩
  case round=>
   clear rP;obtain⟨k,hk,rfl,pB,pg⟩:=hrel;by_cases hlt:k<N
   . have hk2:k<R.length:=by rw[vR.out];exact hlt
     obtain⟨xk,hxk⟩:∃x,R[k]=x:=⟨_,rfl⟩;obtain⟨hxl,uu⟩:=Yg.out _ (List.getElem_mem hk2);have lF:R.getD k []=xk:=by simp[hk2,hxk]
     rw[hxk]at hxl uu;have hat:=xP.out.chg pg (λb o e=>qT.out b o e);have ry:At wr a0 (R.flatMap λx=>[Value.string (bs (x.map UInt8.ofNat))]):=by rw[Gi];exact hat
     obtain⟨b0,o0,hab,yC⟩:=ry.elem (f:=λx=>[Value.string (bs (x.map UInt8.ofNat))]) (sz:=1) (λ_=>rfl) zd k hk2;obtain⟨l8,mC⟩:∃l,xk.map UInt8.ofNat=l:=⟨_,rfl⟩;have hc0:wr.cell? ⟨b0,o0+k,none⟩=some (ai l8):=by have:=yC 0 zd;rw[hxk,mC]at this;simpa using this
     have bK:=xo N Lg k (k:Int) hab hlt rfl;rw[Nat.mul_one]at bK;have yI:l8.length=v1:=by rw[<-mC,List.length_map];exact hxl
     obtain⟨gZ,gY,Kk,ake,QA,uL,ww⟩:=lG pg pB mC uu hxl lF yI;clear pg pB mC uu hxl lF hat ry yC hab hxk yI;obtain⟨wk,hwk⟩:∃wk,wk=wr:=⟨_,rfl⟩;subst hwk;go_wp2_with fail;go_loopw[43] (λx wr=>∃j:Nat,j<=v1/\x=ah (j:Int)/\aC wr bB 48 (dC (DS k j))/\Chg (λb=>b=bB) w3 wr) (λx _=>v1-(intOf x).toNat);case atStart=>exact⟨0,Nat.zero_le _,rfl,gY.out,gZ.out⟩
     case round=>
      clear hc0 bK gY gZ;obtain⟨j,hj,rfl,pB,pg⟩:=hrel;by_cases bM:j<v1
      . have IU:j<ls.length:=by rw[ES.out];exact bM
        have IV:k<(cs.map canon).length:=by rw[List.length_map,zV.out];exact hlt
        have jV:j<V+1:=by rw[CB.out];exact bM
        obtain⟨hlen,SY,qv,hq1,hq2,pZ⟩:=Kg.out k j hlt jV;obtain⟨s,m,e,hx⟩:=rZ (ls[j]);obtain⟨c,hc⟩:=aK (cs.getD k 0);obtain⟨X,hX⟩:=aK (aM (s,m,e));have dP:=Kl.out _ (List.getElem_mem IU);rw[hx]at dP;have hLj:L.getD j 0=X:=by rw[<-HL.out,<-hX,<-hx];simp[List.getD_eq_getElem?_getD,IU]
        have hcc:(cs.map canon)[k]=(aI (dN c),nt (dN c).natAbs,dE c):=by
         have:cs.getD k 0=cs[k]'(by simpa using IV):=by simp[List.getD_eq_getElem?_getD,show k<cs.length by simpa using IV]
         rw[List.getElem_map,<-this,hc];rfl
        have ud:Sm A c:=by rw[<-hc];exact pU Xz.out k
        rw[hc,hLj]at pZ;rw[uL.out]at hq1;obtain⟨E,hE⟩:=aK (c*X);rw[hE]at pZ;obtain⟨ds,ack⟩:=aK (DS k j);obtain⟨ds',SX⟩:∃ds,DS k (j+1)=ds:=⟨_,rfl⟩;rw[ack]at hlen SY pZ pB;rw[SX]at pZ;have TS:qv<ds.length:=by omega
        have hgd:ds.getD qv 0=ds[qv]:=by simp[List.getD_eq_getElem?_getD,TS]
        obtain⟨D9,AG⟩:=aK (ds[qv]+E);rw[hgd,AG]at pZ;have fx:=aj (dP.mono (show B<=A+B by omega));have Cl:Hid (Fit (A+B) (aI (dN c),nt (dN c).natAbs,dE c)):=(ud.mono (show A<=A+B by omega)).fit zo;have HmE:Hid (aM (aI (dN c),nt (dN c).natAbs,dE c) *aM (s,m,e)=E):=by show aM (canon c) *_=E;rw[cN,hX];exact hE
        have aaS:Sm (A+B) E:=by rw[<-hE,<-hX];exact Sm.mul ud dP.2
        have HfE:Hid (Fit (A+B+4608) (aI (dN E),nt (dN E).natAbs,dE E)):=(aaS.mono zo).fit zo;have HdE:Hid (ds[qv]+aM (aI (dN E),nt (dN E).natAbs,dE E)=D9):=by show ds[qv]+aM (canon E)=D9;rw[cN];exact AG
        have OW:Hid (Sm (A+B+4608) ds[qv]):=SY _ (List.getElem_mem TS);obtain⟨lT,Fh,aid⟩:=dc hlen pZ SX;obtain⟨bN,oN,abN,n0,n1,n2⟩:=(show At wr aN ((cs.map canon).flatMap cz)by rw[<-qX];exact E2.out.chg pg (λb o e=>HnN.out b o e (by intro h0;rw[h0]at IV;simp at IV))).num k IV hcc;obtain⟨bL,oL,abM,u0,u1,u2⟩:=(E3.out.chg pg (λb o e=>HnL.out b o e (by intro h0;rw[h0]at IU;simp at IU))).num j IU hx;have ixN:=Ul N FX k (k:Int) abN hlt rfl;have ixL:=mG v1 Zz j (j:Int) abM bM rfl;have IR:j<l8.length:=by rw[ww.out];exact bM
        have hux:l8[j].toNat<=20:=by
         have jxk:j<xk.length:=by rw[QA.out];exact bM
         have e8:l8[j]=UInt8.ofNat xk[j]:=by
          have:l8[j]?=(xk.map UInt8.ofNat)[j]?:=by rw[Kk.out]
          rw[List.getElem?_eq_getElem IR,List.getElem?_eq_getElem (by simpa using jxk)]at this;simpa using this
         have h20:=ake.out _ (List.getElem_mem jxk);rw[e8];simp;omega
        have hu1:(l8[j]+1).toNat=l8[j].toNat+1:=by rw[UInt8.toNat_add];simp;omega
        obtain⟨l9,MH⟩:∃l,l8.set j (l8[j]+1)=l:=⟨_,rfl⟩;have acN:l9.length=v1:=by rw[<-MH,List.length_set];exact ww.out
        have hkey:f l9=qv:=by rw[<-hq1,<-aqi xk j (by rw[QA.out];exact bM),Kk.out,<-MH];congr 2;simp[List.getD_eq_getElem?_getD,IR]
        obtain⟨p8,yM⟩:∃p:Int,(l8[j].toNat:Int)=p:=⟨_,rfl⟩;obtain⟨q8,hq8⟩:∃q:Int,((l8[j]+1).toNat:Int)=q:=⟨_,rfl⟩;have hw8:IntKind.u8.wrap (p8+1)=q8:=by rw[IntKind.wrap_u8];omega
        have Md:M<9223372036854775808:=by omega
        have Hg:Hid (aC wr w.heap.size 121 [.slice aN N FX,ah (V:Int),ah (D:Int)]):=pg.blk E0.out zo;have Ho:Hid (aC wr bO 121 [.slice (some ⟨bB,0,none⟩) M M,ah (V:Int),ah (d1:Int)]):=pg.blk E5.out zo;have gh:Hid (bY wr bN (oN+k*3) [ar (aI (dN c)),ai (nt (dN c).natAbs),ah (dE c)]):=kX n0 n1 n2;have Hu:Hid (bY wr bL (oL+j*3) [ar s,ai m,ah e]):=kX u0 u1 u2;have hMp:Mp wr bm M f:=pg.mp E4.out zo;have hTb:aO wr:=pg.tab E6.out nT;obtain⟨gZ,gY,aiJ,Pq,XX,PR,Hq8⟩:=lG pg pB hkey MH acN yM hq8;have lbB:=pB.lt;clear pg pB hkey MH acN hq1 pZ SX hlen SY hgd AG hE hX hLj hcc hc hx dP ud aaS n0 n1 n2 u0 u1 u2 abN abM yM hq8 hu1 hux ack;have Hb:Hid (Bw wr wr):=Below.refl _ _;obtain⟨g0,g1,g2⟩:=Hg.out.c3;obtain⟨o0,o1,o2⟩:=Ho.out.c3;obtain⟨rI,rJ,rK⟩:=gh.out.w3;obtain⟨u0,u1,u2⟩:=Hu.out.w3;have lh:Hid (Mp wr bm M f):=hMp;have bZ:Hid (aO wr):=hTb;have fD:Hid (aC wr bB 48 (dC ds)):=gY.out;clear hMp hTb gY;have P0:=u0;have P1:=u1;have P2:=u2;have azB:=Hg.out.lt;have arl:=Ho.out.lt;obtain⟨W4,rp,ag,Hy⟩:=cF wr 48 [ar s,ai m,ah e];clear g0 g1 g2;replace Hg:=kB Hg ag;clear o0 o1 o2;replace Ho:=kB Ho ag;clear rI rJ rK;replace gh:=kW gh ag;clear u0 u1 u2;replace Hu:=kW Hu ag;replace lh:=kM lh ag;replace bZ:=kT bZ ag;replace fD:=kB fD ag;obtain⟨g0,g1,g2⟩:=Hg.out.c3;obtain⟨o0,o1,o2⟩:=Ho.out.c3;obtain⟨rI,rJ,rK⟩:=gh.out.w3;obtain⟨u0,u1,u2⟩:=Hu.out.w3;obtain⟨y0,y1,y2⟩:=Hy.out.c3;replace Hb:=aF Hb ag;clear ag;obtain⟨cb,W5,hcv,dm,hs5,jY⟩:=NT l8 W4;rw[ww.out]at hcv;have xp:=sF v1 cb j (j:Int) (rfl:(some ⟨W4.heap.size,0,none⟩:Option Addr)=_) bM rfl;rw[Nat.zero_add,Nat.mul_one]at xp;have m0:W5.cell? ⟨W4.heap.size,j,none⟩=some (.int .u8 p8):=by rw[(jY j IR).1,PR.out]
        have mf:W5.frozen? ⟨W4.heap.size,j,none⟩=false:=(jY j IR).2;have SK:=jY.set j IR (l8[j]+1);rw[Pq.out,Hq8.out]at SK;obtain⟨Xu,eX⟩:=aZ SK dm;clear jY SK dm;go_wp2_with fail;refine cj (λW6=>sO W6 W4.heap.size l9/\Bw W4 W6) ⟨Xu.out,eX.out.setCell (Nat.le_refl _) _⟩ ?_;rintro W6 ⟨qM,mz⟩;have HqM:=aj qM;clear g0 g1 g2 o0 o1 o2 rI rJ rK u0 u1 u2 y0 y1 y2;replace Hg:=kB Hg mz;replace Ho:=kB Ho mz;replace gh:=kW gh mz;replace Hu:=kW Hu mz;replace lh:=kM lh mz;replace bZ:=kT bZ mz;replace fD:=kB fD mz;replace Hy:=kB Hy mz;obtain⟨g0,g1,g2⟩:=Hg.out.c3;obtain⟨o0,o1,o2⟩:=Ho.out.c3;obtain⟨rI,rJ,rK⟩:=gh.out.w3;obtain⟨u0,u1,u2⟩:=Hu.out.w3;obtain⟨y0,y1,y2⟩:=Hy.out.c3;replace Hb:=aj (aV Hb.out mz);clear qM mz m0 mf hcv Xu eX P0 P1 P2 hs5;have hback:∀w',eu W6 w'->(convert 84 9 (.slice (some ⟨W4.heap.size,0,none⟩) v1 cb)).run Tryz.prog w'=.ok (ai l9) w':=λw' h=>by have:=(HqM.out.below h).back cb;rw[XX.out]at this;exact this
        have acS:∀w',eu W6 w'->(Instr.lookup 160 (.map (some bm)) (ai l9) false).run Tryz.prog w'=.ok (ah (qv:Int)) w':=λw' h=>by have:=(lh.out.below h).look l9 (by simp[maxLen];have:=XX.out;have:=CB.out;omega);rw[aiJ.out]at this;exact this
        have fE:∀w',eu W6 w'->aH w' bO 0 (.slice (some ⟨bB,0,none⟩) M M)/\aH w' (w.heap.size) 0 (.slice aN N FX)/\aH w' bN (oN+k*3) (ar (aI (dN c)))/\aH w' bN (oN+k*3+1) (ai (nt (dN c).natAbs))/\aH w' bN (oN+k*3+2) (ah (dE c))/\aH w' (wr.heap.size) 0 (ar s)/\aH w' (wr.heap.size) 1 (ai m)/\aH w' (wr.heap.size) 2 (ah e)/\(convert 84 9 (.slice (some ⟨W4.heap.size,0,none⟩) v1 cb)).run Tryz.prog w'=.ok (ai l9) w'/\(Instr.lookup 160 (.map (some bm)) (ai l9) false).run Tryz.prog w'=.ok (ah (qv:Int)) w':=λw' h=>⟨cell_later h o0,cell_later h g0,cell_later h rI,cell_later h rJ,cell_later h rK,cell_later h y0,cell_later h y1,cell_later h y2,hback w' h,acS w' h⟩;have bu:Hid (eu W6 W6):=Below.refl _ _;refine cg (λw'=>eu W6 w') (λi=>Nat.blt i 14) [(0,true),(1,true),(2,true),(3,true),(4,true),(5,true),(6,true),(7,true),(8,true),(9,true),(10,true),(11,true),(12,false),(13,false),(14,false)] zk zk rfl zk zc bu.out.drew ?_;iterate 12 (refine NJ rfl rfl (v:=?_) (λw' hw'=>?_) ?_;rotate_left;(focus have hw':=fE w' hw';obtain⟨q0,q1,q2,q3,q4,q5,q6,q7,q8,q9⟩:=hw';go_simp;try with_reducible rfl);try simp only[UU])
        refine aW rfl rfl (λK hK=>?_);go_simp;refine hK _ _ (λ_=>by first|exact bu.out.alloc _|exact(bu.out.alloc _).drew|exact(bu.out.drew).alloc _) ?_;clear hK K;try simp only[UU]
        refine cn (λW7=>aC W7 (W6.heap.size) 48 [ar (aI (dN c)),ai (nt (dN c).natAbs),ah (dE c),ar s,ai m,ah e]/\Bw W6 W7) (by first|exact dZ|exact ej) ?_;rintro W7 ⟨qm1,ag⟩;clear g0 g1 g2 o0 o1 o2 rI rJ rK u0 u1 u2 y0 y1 y2;have azC:=Hg.out.lt;have aeq:=Ho.out.lt;have aet:=Hy.out.lt;replace bu:=aj (bu.out.below ag);replace Hg:=kB Hg ag;replace Ho:=kB Ho ag;replace gh:=kW gh ag;replace Hu:=kW Hu ag;replace lh:=kM lh ag;replace bZ:=kT bZ ag;replace fD:=kB fD ag;replace Hy:=kB Hy ag;have Cq:=aj qm1;clear qm1;obtain⟨g0,g1,g2⟩:=Hg.out.c3;obtain⟨o0,o1,o2⟩:=Ho.out.c3;obtain⟨rI,rJ,rK⟩:=gh.out.w3;obtain⟨u0,u1,u2⟩:=Hu.out.w3;obtain⟨y0,y1,y2⟩:=Hy.out.c3;obtain⟨m10,m11,m12,Ns,Nt,m15⟩:=Cq.out.c6;replace Hb:=aF Hb ag;clear ag;refine aW rfl rfl (λK hK=>?_);go_simp;with_reducible refine(Aq _ _ _ _ _ _ E (A+B) HmE.out _ 2 _ _ Cl.out fx.out zo Cq.out (by first|exact bZ.out|exact aO.drew bZ.out|exact aO.alloc bZ.out _|exact aO.drew (aO.alloc bZ.out _) |exact aO.alloc (aO.drew bZ.out) _)).mono ?_
        rintro e w8 ⟨rfl,hq⟩;have ag:Bw W7 w8:=by first|exact hq|exact bo hq
        clear g0 g1 g2 o0 o1 o2 rI rJ rK u0 u1 u2 y0 y1 y2 m10 m11 m12 Ns Nt m15;replace bu:=aj (bu.out.below ag);obtain⟨Hg,g0,g1,g2⟩:=bP Hg ag;obtain⟨Ho,o0,o1,o2⟩:=bP Ho ag;replace gh:=kW gh ag;replace Hu:=kW Hu ag;replace lh:=kM lh ag;replace bZ:=kT bZ ag;replace fD:=kB fD ag;obtain⟨Hy,y0,y1,y2⟩:=bP Hy ag;obtain⟨Cq,m10,m11,m12,Ns,Nt,m15⟩:=jO Cq ag;obtain⟨rI,rJ,rK⟩:=gh.out.w3;obtain⟨u0,u1,u2⟩:=Hu.out.w3;replace Hb:=aF Hb ag;clear ag;refine hK _ _ (λ_=>bu.out) ?_;clear hK K;try simp only[UU]
        refine aW rfl rfl (λK hK=>?_);go_simp;with_reducible refine(afM bB M qv (A+B+4608) ds (aI (dN E)) (nt (dN E).natAbs) (dE E) D9 _ lT.out fD.out TS HfE.out OW.out zo HdE.out (by first|exact bZ.out|exact aO.drew bZ.out|exact aO.alloc bZ.out _|exact aO.drew (aO.alloc bZ.out _) |exact aO.alloc (aO.drew bZ.out) _)).mono ?_
        rintro e' w9 ⟨⟨rv,rfl⟩,qB,qg⟩;refine hK _ _ (λh=>absurd h zd) ?_;clear hK K;simp only[bD];have PZ:=aj qB;have Qa:Hid (Chg (λb=>b=bB) w3 w9):=(gZ.out.aBh Hb.out).trans (Chg.aBi qg (λb e=>by cases e;rfl)) (λb h=>.inl h);clear qB qg hback acS fE;go_wp2;go_roundw;case rel=>exact⟨j+1,by omega,by go_num,by rw[aid.out,Fh.out];exact PZ.out,Qa.out⟩
        case measure=>simp[intOf];omega
      . obtain rfl:j=v1:=by omega
        have hn:=Ck.out k hlt;rw[CB.out]at hn;rw[hn]at pB;have gY:=aj pB;clear pB hn;go_wp2;go_roundw;case rel=>exact⟨k+1,by omega,by go_num,gY.out,pg⟩
        case measure=>simp[intOf];omega
   . obtain rfl:k=N:=by omega
     have su:=pg.blk E0.out zo;have kP:=pg.blk E1.out zo;have fS:=pg.blk E5.out zo;rw[XE.out]at pB;obtain⟨r0,au,r1,az,r2,aJ⟩:=kP.g3;obtain⟨o0,o1,o2⟩:=fS.c3;obtain⟨jC,gY⟩:=aZ (E7.out.trans (pg.below (n:=w.heap.size) zo (λb e=>by omega))) pB;clear pB su kP fS;go_wp2;refine bodyPost_ret (v:=.agg #[.slice (some ⟨bB,0,none⟩) M M,ah (V:Int),ah (d1:Int)]) (by simp[results,Tryz.results87,go_sem,r0,r1,r2]) rfl ⟨bB,rfl,by omega,At.aBf (t:=48) ?_,?_⟩
     . exact((gY.out.so _ _ zo _).so _ _ zo _).so _ _ zo _
     . exact((jC.out.setCell zp _).setCell zp _).setCell zp _
def Gr (w:World)(base g8 V m:Nat)(cs:List Dyadic):Prop:=
 ∃aG yj,aC w g8 121 [.slice aG (cnt V m) yj,ah (V:Int),ah (m:Int)]/\At w aG (dC cs)/\∀b o,aG=some ⟨b,o,none⟩->base<=b
theorem Gr.below {w w':World}{base g8 V m:Nat}{cs:List Dyadic}(h:Gr w base g8 V m cs)(hb:Bw w w'):Gr w' base g8 V m cs:=by obtain⟨a,c,h1,h2,h3⟩:=h;exact⟨a,c,h1.below hb,h2.below hb,h3⟩
def yl (rows:List (List Raw))(k:Nat):List Raw:=rows.map λr=>r.getD k (false,[],0)
theorem amS (rows:List (List Raw))(k V:Nat)(hrow:∀r∈rows,r.length=V)(hk:k<V):(yl rows k).map aM=oI (rows.map λr=>r.map aM) k:=by
 unfold yl oI;rw[List.map_map,List.map_map];refine List.map_congr_left (λr hr=>?_);have h:=hrow r hr;show aM (r.getD k _)=(r.map aM).getD k 0
 simp[List.getD_eq_getElem?_getD,show k<r.length by omega]
theorem amR {B V k:Nat}{rows:List (List Raw)}(hrow:∀r∈rows,r.length=V)(hk:k<V)(hfit:∀r∈rows,∀c∈r,Fit B c):∀x∈yl rows k,Fit B x:=by
 intro x hx;unfold yl at hx;obtain⟨r,hr,rfl⟩:=List.mem_map.1 hx;have h:=hrow r hr;have e:r.getD k (false,[],0)=r[k]'zo:=by simp[List.getD_eq_getElem?_getD,show k<r.length by omega]
 rw[e];exact hfit r hr _ (List.getElem_mem _)
theorem an2 {α β:Type}(f:α->List β)(xs:List α)(k:Nat)(h:k<xs.length):(xs.take (k+1)).flatMap f=(xs.take k).flatMap f++f xs[k]:=by rw[List.take_succ_eq_append_getElem h,List.flatMap_append];simp
theorem avy (es:List Nat)(k:Nat):(es.take k).sum<=es.sum:=by
 induction es generalizing k with
 |nil=>simp
 | cons x es ih=>
   cases k with
   |zero=>simp
   |succ k=>have:=ih k;simp at this⊢;omega
def Rn (w:World)(g8:Nat):Nat:=match w.cell? ⟨g8,2,none⟩with|some v=>(intOf v).toNat|none=>0
theorem ZY {w:World}{g8 m:Nat}{t:TypeId}{x y:Value}(h:aC w g8 t [x,y,ah (m:Int)]):Rn w g8=m:=by unfold Rn;rw[h.cell];simp[intOf]
theorem avF (V D L:Nat)(l:List UInt8)(s:Bool)(mm:List UInt8)(e:Int)(a:Option Addr)(cap:Nat)(rows:List (List Raw))(B:Nat)(c:Dyadic)(w:World)(hV:1<=V)(hV2:V<=8)(hL:rows.length=L)(oO:L=V+1)(hrow:∀r∈rows,r.length=V)
 (hll:l.length=V) (sA:(l.map UInt8.toNat).sum<=D) (hD:D<=20) (ua:∀d,d<=D->cnt V d<=512) (ha:cM w a rows) (hfit:∀r∈rows,∀c∈r,Fit B c) (hx:Ok (s,mm,e)) (hc:aM (s,mm,e)=c) (hcs:Sm B c) (cd:1<=B) (hB:B<=100000) (hT:aO w):
 Calls Tryz.prog 44 #[.agg #[ai l,ar s,ai mm,ah e],.slice a L cap,ah (D:Int)] w λe w'=>∃a' c',e=.returned (.slice a' (cnt V D) c')/\
  At w' a' (dC (gH V D (rows.map λr=>r.map aM) c (l.map UInt8.toNat)))/\(∀b o,a'=some ⟨b,o,none⟩->w.heap.size<=b)/\Bw w w':=by
 obtain⟨i0,hi,hz0,hz1,hz2⟩:=info_parts Tryz.aBk;obtain⟨S,hS⟩:=aK (rows.map λr=>r.map aM);obtain⟨es,hes⟩:=aK (l.map UInt8.toNat);have acm:es.length=V:=by rw[<-hes];simpa using hll
 have kw:∀r∈S,∀d∈r,Sm B d:=by intro r hr d hd;rw[<-hS]at hr;obtain⟨x,hx,rfl⟩:=List.mem_map.1 hr;obtain⟨y,hy,rfl⟩:=List.mem_map.1 hd;exact(hfit x hx y hy).2
 have SU:∀k,∀d∈oI S k,Sm B d:=by intro k d hd;unfold oI at hd;obtain⟨r,hr,rfl⟩:=List.mem_map.1 hd;exact pU (kw r hr) k
 have hone:∀d∈pj V,Sm B d:=by intro d hd;rw[(List.mem_replicate.1 hd).2];exact Sm.mono (A:=1) ⟨2,by decide,by decide⟩ cd
 rw[hS,hes];rw[hes]at sA;have acD:∀ls:List (List Dyadic),ls.length<=D->(∀l∈ls,∀d∈l,Sm B d)->∀d∈gw V 0 [c] ls,Sm (B+20* (B+4608)) d:=by intro ls h1 h2 d hd;refine(aaF (A:=B) (B:=B) (V:=V) (D:=0) (cs:=[c]) ls (by simpa using hcs) h2 hV2 (λd hd=>ua d zo) d hd).mono ?_;have:=Nat.mul_le_mul_right (B+4608) (show ls.length<=20 by omega);omega
 have acB:∀ls:List (List Dyadic),(gw V 0 [c] ls).length=cnt V ls.length:=λls=>by have:=aaE V 0 [c] ls (by rw[Al];rfl);rw[Nat.zero_add]at this;exact this
 have Bi:∀k,k<=V->(mO S es k).length<=es.sum:=λk hk=>by rw[VG S es k zo];exact avy es k
 have adx:∀k,∀l∈mO S es k,∀d∈l,Sm B d:=by intro k l hl;unfold mO at hl;rw[List.mem_flatMap]at hl;obtain⟨t,_,hl⟩:=hl;rw[(List.mem_replicate.1 hl).2];exact SU t
 have hform:=λW=>λ(hT:aO W)=>se s mm e c hc W hx hT;obtain⟨one,MQ⟩:∃one:Dyadic,(1:Dyadic)=one:=⟨_,rfl⟩;have hof:=λW=>λ(hT:aO W)=>Gd 1 one MQ W zd hT;have adb:Fit B (canon one):=by rw[<-MQ];exact(Sm.mono (A:=1) ⟨2,by decide,by decide⟩ cd:Sm B 1).fit zo
 obtain⟨aji,ajk⟩:=aZ adb MQ;clear adb MQ;have hfc:Fit B (canon c):=hcs.fit zo;obtain⟨aiu,pI,Hi,dz,dA,dh,HS,Hes,Pb,ah6,uI,YG⟩:=gy hform hof hi hz0 hz1 hz2 hS hes acm SU hone sA;obtain⟨XT,XR,ajR,YB,gW,HL,qV,Km,Kf,Ha,qQ,fM⟩:=gy acD acB Bi adx oO hL hrow hll ua ha hfit hT;have hwV:IntKind.i64.wrap ((L:Int)-1)=(V:Int):=by rw[IntKind.wrap_i64];omega
 clear oO hform hof hi hz0 hz1 hz2 hS hes acm kw SU hone sA acD acB Bi adx hL hrow hll ua ha hfit hx hc hcs hT hfc;obtain⟨W,dw,Hb,Ht⟩:=jT w 67 [ai l,ar s,ai mm,ah e];obtain⟨t0,t1,t2,t3⟩:=Ht.out.c4;have bZ:Hid (aO W):=fM.out.below Hb.out;go_enter Tryz.func44,Tryz.ntmps44;go_wp2_with fail;refine(aiu.out _ bZ.out).mono ?_;rintro e w1 ⟨rfl,ag⟩;clear t0 t1 t2 t3;obtain⟨Ht,t0,t1,t2,t3⟩:=dK Ht ag;replace bZ:=kT bZ ag;replace Hb:=aF Hb ag;clear ag;have P0:=t0;have arB:=Ht.out.lt;obtain⟨W2,nk,ag,PI,Hg⟩:=asz w1 48 [ar (aI (dN c)),ai (nt (dN c).natAbs),ah (dE c)] 121 [.slice (some ⟨w1.heap.size,0,none⟩) 1 1,ah (V:Int),ah 0];clear t0 t1 t2 t3;obtain⟨Ht,t0,t1,t2,t3⟩:=dK Ht ag;replace bZ:=kT bZ ag;obtain⟨na0,na1,na2⟩:=PI.out.c3;obtain⟨g0,Av,g1,Aw,g2,Ax⟩:=Hg.out.g3;replace Hb:=aF Hb ag;clear ag P0;have Es:=Hb.out.size;have lz1:w.heap.size<w1.heap.size:=arB;go_upto_region 3 with fail
 refine cj (λW9=>aC W9 w.heap.size 67 [ai l,ar s,ai mm,ah e]/\aC W9 w1.heap.size 48 [ar (aI (dN c)),ai (nt (dN c).natAbs),ah (dE c)]/\aC W9 (w1.heap.size+1) 121 [.slice (some ⟨w1.heap.size,0,none⟩) 1 1,ah (V:Int),ah 0]/\Bw w W9)
  ⟨Ht.out.so _ _ zo _,PI.out.so _ _ zo _,Hg.out.set 2 _,Hb.out.sc _ _ zo _⟩ ?_
 rintro W9 ⟨qt,qn,qg,eQ⟩;have t0:W9.cell? ⟨w.heap.size,0,none⟩=some (ai l):=qt.cell 0;obtain⟨cb,W3,hcv,hb3,hs3,jY⟩:=NT l W9;rw[Km.out]at hcv;have lg:=qg.lt;have hGr:Gr W3 w.heap.size (w1.heap.size+1) V 0 [c]:=by
  refine⟨some ⟨w1.heap.size,0,none⟩,1,?_,?_,λb o e=>by cases e;omega⟩
  . rw[Al];exact qg.below hb3
  . exact At.aBf (qn.below hb3)
 have SL:=aV eQ hb3;have abw:=fM.out.below SL;have WK:Hid (w1.heap.size+1<W9.heap.size/\W9.heap.size<=W3.heap.size):=⟨lg,hb3.size⟩;obtain⟨WJ,Kc,awX,pD⟩:=eN hGr SL abw jY;clear hGr SL abw jY bZ PI Hg Hb hb3 eQ qt qn qg Ht na0 na1 na2 g0 g1 g2 Av Aw Ax;go_wp2_with fail;clear t0 hcv;go_loopw[27] (λx wr=>∃k:Nat,k<=V/\x=ah (k:Int)/\Gr wr w.heap.size (w1.heap.size+1) V (mO S es k).length (gw V 0 [c] (mO S es k))/\Chg (λb=>b=w1.heap.size+1) W3 wr) (λx _=>V-(intOf x).toNat);case atStart=>exact⟨0,Nat.zero_le _,rfl,WJ.out,Chg.refl _ _⟩
 case round=>
  clear WJ;obtain⟨k,hk,rfl,pG,pg⟩:=hrel;by_cases hlt:k<V
  . have jl:k<l.length:=by rw[Km.out];exact hlt
    have oO:=gW.out;have hL9:L<=9:=by omega
    have gsz:w1.heap.size+1<W3.heap.size:=by have:=WK.out;omega
    have m0:wr.cell? ⟨W9.heap.size,k,none⟩=some (.int .u8 (l[k].toNat:Int)):=pg.cell (pD.out k jl).1 zp;have xp:=sF V cb k (k:Int) (rfl:(some ⟨W9.heap.size,0,none⟩:Option Addr)=_) hlt rfl;rw[Nat.zero_add,Nat.mul_one]at xp;obtain⟨ek,My⟩:=aK (l[k].toNat);have aye:ek<=255:=by rw[<-My];have:=l[k].toNat_lt;omega
    have SZ:es.getD k 0=ek:=by rw[<-My,<-Hes.out];simp[List.getD_eq_getElem?_getD,jl]
    rw[My]at m0;obtain⟨sh,hsh⟩:=aK (mO S es k);obtain⟨pL,GH⟩:=aK (yl rows k);have hcl:pL.length=L:=by rw[<-GH];simp[yl,HL.out]
    have hcv:pL.map aM=oI S k:=by rw[<-GH,<-HS.out];exact amS rows k V qV.out hlt
    have SQ:∀x∈pL,Fit B x:=by rw[<-GH];exact amR qV.out hlt qQ.out
    have ax6:sh.length+ek<=D:=by have h1:=ajR.out (k+1) hlt;have h2:=congrArg List.length (VH S es k);rw[List.length_append,List.length_replicate,SZ,hsh]at h2;have h3:=YG.out;omega
    have ac6:mO S es (k+1)=sh++List.replicate ek (oI S k):=by rw[VH,SZ,hsh]
    rw[hsh]at pG;have bW:=Kc.out.trans (pg.below (n:=w.heap.size) (by have:=Kc.out.size;omega) (λb e=>by omega));obtain⟨PU,gZ,fY,aib,Hcf,aje,eP,ah5,xZ⟩:=DZ pG pg hcl hcv SQ ac6 bW GH hsh;clear pG pg hcl hcv SQ ac6 bW GH SZ My hsh oO;obtain⟨wk,hwk⟩:∃wk,wk=wr:=⟨_,rfl⟩;subst hwk;have JD:=gZ.out.size;go_wp2_with fail;go_loopw[11,34] (λJA x wr=>∃(j:Nat) (v2:Value),j<=L/\x=ah (j:Int)/\v2=JA/\wr.ownsRow wk.heap.size 48 3 v2 j ((pL.take j).flatMap cz)/\Bw wk wr) (λ_ x _=>L-(intOf x).toNat);case atStart=>exact⟨0,_,Nat.zero_le _,rfl,rfl,World.ownsRow_nil _ _ _ _,Below.refl _ _⟩
    case round=>
     clear m0 xp;obtain⟨j,v2,hj,rfl,rfl,ho,hb2⟩:=hrel;by_cases bM:j<L
     . have jr:j<rows.length:=by rw[HL.out];exact bM
       obtain⟨b1,o1,a1,c1,hab,hc1,hat⟩:=(Ha.out.below (eP.out.trans (hb2.mono (by have:=eP.out.size;omega)))).row j jr;have hrl:=qV.out _ (List.getElem_mem jr);have kr:k<rows[j].length:=by rw[hrl];exact hlt
       obtain⟨s1,m1,e1,hx1⟩:=rZ (rows[j][k]);obtain⟨b2,o2,jp,p0,p1,p2⟩:=hat.num k kr hx1;rw[hrl]at hc1;have jc:j<pL.length:=by rw[fY.out];exact bM
       have hst:(pL.take (j+1)).flatMap cz=(pL.take j).flatMap cz++[ar s1,ai m1,ah e1]:=by
        rw[an2 cz pL j jc];congr 1;have:pL[j]=(s1,m1,e1):=by
         have h9:pL[j]?=(yl rows k)[j]?:=by rw[ah5.out]
         rw[List.getElem?_eq_getElem jc]at h9;unfold yl at h9;rw[List.getElem?_map,List.getElem?_eq_getElem jr]at h9;simp only[Option.map_some,Option.some.injEq]at h9;rw[h9];simp[List.getD_eq_getElem?_getD,kr,hx1]
        rw[this];rfl
       have DX:=DV L cap j (j:Int) hab bM rfl;rw[Nat.mul_one]at DX;have Bp:=Ng V c1 k (k:Int) jp hlt rfl;obtain⟨cB,Ho,df⟩:=dc hst ho hb2;have Hp:Hid (bY wr b2 (o2+k*3) [ar s1,ai m1,ah e1]):=kX p0 p1 p2;have Er:=hb2.size;clear hst ho hb2 hab jp hat hrl kr hx1 p0 p1 p2;have Hb:Hid (Bw wr wr):=Below.refl _ _;obtain⟨p0,p1,p2⟩:=Hp.out.w3;have P0:=p0;have P1:=p1;have P2:=p2;obtain⟨W6,vr,ag,Hd⟩:=cF wr 48 [ar s1,ai m1,ah e1];clear p0 p1 p2;replace Hp:=kW Hp ag;obtain⟨p0,p1,p2⟩:=Hp.out.w3;obtain⟨d0,d1,d2⟩:=Hd.out.c3;replace Hb:=aF Hb ag;clear ag;have eF:=ownsRow_below Ho.out Hb.out;have nD:=Hb.out.size;have hnews:=iz Hd.out;clear d0 d1 d2;go_wp2_with (at_builtin;refine wpList_append_own_at _ rfl _ _ 32 rfl wk.heap.size 48 i0 _ 3 32 Tryz.underlying32 Hi.out dz.out dA.out dh.out rfl zd v2 j ((pL.take j).flatMap cz) rfl eF ⟨wr.heap.size,0,none⟩ 1 1 [ar s1,ai m1,ah e1] rfl rfl hnews zy zx zo zo ?_;intro v' w7 fA fR _ _;obtain⟨g',uQ,rfl⟩:=ownsRow_succ fA);go_roundw;case rel=>
        refine⟨j+1,_,by omega,by go_num,rfl,?_,?_⟩
        . rw[cB.out];exact fA
        . exact(aV df.out Hb.out).grown fR zo (λj e=>dL eF j e)
       case measure=>simp[intOf];omega
     . obtain rfl:j=L:=by omega
       have hct:pL.take j=pL:=List.take_of_length_le (by rw[fY.out];exact Nat.le_refl _);rw[hct]at ho;obtain⟨a2,cap2,rfl,iI,jp⟩:=dU ho;obtain⟨EZ,Yp,zO,OD,EH⟩:=fU (PU.out.below hb2) (gZ.out.aBh hb2) iI jp ((fM.out.below eP.out).below hb2);have Er:=hb2.size;clear ho hb2 hct iI jp;obtain⟨wj,II⟩:∃wj,wj=wr:=⟨_,rfl⟩;subst II;go_wp2_with fail;go_loopw[49] (λx wr=>∃i:Nat,i<=ek/\x=.int .u8 (i:Int)/\Gr wr w.heap.size (w1.heap.size+1) V (sh.length+i) (gw V 0 [c] (sh++List.replicate i (oI S k)))/\Chg (λb=>b=w1.heap.size+1) wj wr) (λx _=>ek-(intOf x).toNat);case atStart=>exact⟨0,Nat.zero_le _,rfl,by simpa using EZ.out,Chg.refl _ _⟩
       case round=>
        clear EZ;obtain⟨i,hie,rfl,pG,pg⟩:=hrel;by_cases gL:i<ek
        . have hw8:IntKind.u8.wrap ((i:Int)+1)=((i+1:Nat):Int):=by rw[IntKind.wrap_u8];omega
          obtain⟨aG,yj,hbk,tZ,hbase⟩:=pG;obtain⟨uv,ui⟩:∃ls,sh++List.replicate i (oI S k)=ls:=⟨_,rfl⟩;obtain⟨m,hm⟩:=aK (sh.length+i);have hlm:uv.length=m:=by rw[<-ui,<-hm,List.length_append,List.length_replicate]
          have Tt:m<D:=by omega
          have Iq:gw V 0 [c] (sh++List.replicate (i+1) (oI S k))=mP V m (gw V 0 [c] uv) (oI S k):=by rw[List.replicate_succ',<-List.append_assoc,ui,RN,Nat.zero_add,hlm]
          have GV:∀l∈uv,∀d∈l,Sm B d:=by
           intro l hl;rw[<-ui,List.mem_append]at hl;rcases hl with hl|hl
           . exact YB.out k l (by rw[xZ.out];exact hl)
           . rw[(List.mem_replicate.1 hl).2];exact ah6.out k
          rw[ui]at tZ;rw[hm]at hbk;obtain⟨N,hN⟩:=aK (cnt V m);obtain⟨M,hM⟩:=aK (cnt V (m+1));rw[hN]at hbk;have gM:¬(0=w1.heap.size+1):=by have:=fM.out.lt;omega
          have qi:=af4 V m N M (B+20* (B+4608)) B aG yj (gw V 0 [c] uv) a2 cap2 pL (oI S k) j gW.out.symm (m+1) rfl wr hV hV2 zo hN hM (by rw[<-hN];exact Kf.out m zo) (by rw[<-hM];exact Kf.out (m+1) zo) (by rw[XR.out,hlm,hN]) fY.out aib.out tZ (zO.out.chg pg (λb o e=>by have:=OD.out b o e;omega)) (XT.out uv zo GV) Hcf.out zo (pg.tab EH.out gM);obtain⟨Fq,Hg,Ff,Aa,Hm,HM⟩:=gP qi hbk pg Iq hm hM;clear qi hbk pg Iq hm hM hN hlm tZ GV ui;have Hb:Hid (Bw wr wr):=Below.refl _ _;have lg8:=Hg.out.lt;obtain⟨g0,Av,g1,Aw,g2,Ax⟩:=Hg.out.g3;go_wp2_with fail;refine(Fq.out).mono ?_;rintro e w2 ⟨bO,rfl,hbO,mr,ag⟩;clear g0 Av g1 Aw g2 Ax;obtain⟨Hg,g0,Av,g1,Aw,g2,Ax⟩:=bg Hg ag;replace Hb:=aF Hb ag;clear ag;have OJ:=aj mr;have zU:Hid (Chg (λb=>b=w1.heap.size+1) wj w2):=Ff.out.aBh Hb.out;clear mr;go_wp2;go_roundw;case rel=>
           have hblk:=((Hg.out.set 0 (.slice (some ⟨bO,0,none⟩) M M)).set 1 (ah (V:Int))).set 2 (ah ((m:Int)+1));have SR:=((zU.out.set (a:=⟨w1.heap.size+1,0,none⟩) rfl (.slice (some ⟨bO,0,none⟩) M M)).set (a:=⟨w1.heap.size+1,1,none⟩) rfl (ah (V:Int))).set (a:=⟨w1.heap.size+1,2,none⟩) rfl (ah ((m:Int)+1));have wW:=OJ.out.chg ((((Chg.refl (λb=>b=w1.heap.size+1) w2).set (a:=⟨w1.heap.size+1,0,none⟩) rfl (.slice (some ⟨bO,0,none⟩) M M)).set (a:=⟨w1.heap.size+1,1,none⟩) rfl (ah (V:Int))).set (a:=⟨w1.heap.size+1,2,none⟩) rfl (ah ((m:Int)+1))) (λb o e=>by cases e;omega);refine⟨i+1,by omega,by go_num,⟨some ⟨bO,0,none⟩,M,?_,?_,λb o e=>by cases e;omega⟩,SR⟩
           . have e9:sh.length+(i+1)=m+1:=by rw[<-Hm.out];omega
             have e10:((sh.length+(i+1):Nat):Int)=(m:Int)+1:=by omega
             rw[e10,e9,HM.out];exact hblk
           . rw[Aa.out];exact wW
          case measure=>simp[intOf];omega
        . obtain rfl:i=ek:=by omega
          obtain⟨ajr,Ff⟩:=aZ pG (Yp.out.trans pg (λb e=>.inl e));clear pG pg;go_wp2;go_roundw;case rel=>refine⟨k+1,by omega,by go_num,?_,Ff.out⟩;rw[aje.out,List.length_append,List.length_replicate];exact ajr.out
          case measure=>simp[intOf];omega
  . obtain rfl:V=k:=by omega
    obtain⟨sh,hsh⟩:=aK (mO S es V);rw[hsh]at pG;have adw:sh.length=es.sum:=by rw[<-hsh,VG S es V (by rw[Pb.out];exact Nat.le_refl _),List.take_of_length_le (by rw[Pb.out];exact Nat.le_refl _)]
    have gsz:w1.heap.size+1<W3.heap.size:=by have:=WK.out;omega
    have bW:=Kc.out.trans (pg.below (n:=w.heap.size) (by have:=Kc.out.size;omega) (λb e=>by omega));obtain⟨PU,gZ,eP,xZ,YA⟩:=fU pG pg bW hsh adw;clear pG pg bW hsh adw;obtain⟨wk,hwk⟩:∃wk,wk=wr:=⟨_,rfl⟩;subst hwk;have JD:=gZ.out.size;have hL9:L<=9:=by have:=gW.out;omega
    go_wp2_with fail;go_loopw[13,58] (λVB x wr=>∃(j:Nat) (v2:Value),j<=L/\x=ah (j:Int)/\v2=VB/\wr.ownsRow wk.heap.size 48 3 v2 j ((List.replicate j (canon one)).flatMap cz)/\Bw wk wr) (λ_ x _=>L-(intOf x).toNat);case atStart=>exact⟨0,_,Nat.zero_le _,rfl,rfl,World.ownsRow_nil _ _ _ _,Below.refl _ _⟩
    case round=>
     obtain⟨j,v2,hj,rfl,rfl,ho,hb2⟩:=hrel;by_cases bM:j<L
     . have cB:Hid ((List.replicate (j+1) (canon one)).flatMap cz=(List.replicate j (canon one)).flatMap cz++[ar (aI (dN one)),ai (nt (dN one).natAbs),ah (dE one)]):=by
        show _=_
        rw[List.replicate_succ',List.flatMap_append];simp only[List.flatMap_cons,List.flatMap_nil,List.append_nil];rfl
       obtain⟨Ho,df,EH⟩:=dc ho hb2 ((fM.out.below eP.out).below hb2);have Er:=hb2.size;clear ho hb2;have Hb:Hid (Bw wr wr):=Below.refl _ _;go_wp2_with fail;refine(pI.out _ EH.out).mono ?_;rintro e w5 ⟨rfl,ag⟩;replace Hb:=aF Hb ag;clear ag;obtain⟨W6,vr,ag,Hd⟩:=cF w5 48 [ar (aI (dN one)),ai (nt (dN one).natAbs),ah (dE one)];obtain⟨d0,d1,d2⟩:=Hd.out.c3;replace Hb:=aF Hb ag;clear ag;have eF:=ownsRow_below Ho.out Hb.out;have nD:=Hb.out.size;have hnews:=iz Hd.out;clear d0 d1 d2;go_wp2_with (at_builtin;refine wpList_append_own_at _ rfl _ _ 32 rfl wk.heap.size 48 i0 _ 3 32 Tryz.underlying32 Hi.out dz.out dA.out dh.out rfl zd v2 j ((List.replicate j (canon one)).flatMap cz) rfl eF ⟨w5.heap.size,0,none⟩ 1 1 [ar (aI (dN one)),ai (nt (dN one).natAbs),ah (dE one)] rfl rfl hnews zy zx zo zo ?_;intro v' w7 fA fR _ _;obtain⟨g',uQ,rfl⟩:=ownsRow_succ fA);go_roundw;case rel=>
        refine⟨j+1,_,by omega,by go_num,rfl,?_,?_⟩
        . rw[cB.out];exact fA
        . exact(aV df.out Hb.out).grown fR zo (λj e=>dL eF j e)
       case measure=>simp[intOf];omega
     . obtain rfl:L=j:=by omega
       obtain rfl:L=V+1:=gW.out;obtain⟨a2,cap2,rfl,iI,jp⟩:=dU ho;obtain⟨EZ,Yp,zO,OD,EH⟩:=fU (PU.out.below hb2) (gZ.out.aBh hb2) iI jp ((fM.out.below eP.out).below hb2);have hbz:=eP.out.trans (hb2.mono (by have:=eP.out.size;omega));have jC:=aj hbz;have Er:=hb2.size;clear ho hb2 iI jp hbz;obtain⟨wj,II⟩:∃wj,wj=wr:=⟨_,rfl⟩;subst II;have hsD:sh.length<=D:=by have:=YG.out;have:=YA.out;omega
       go_wp2_with fail;go_loopw[] (λwr=>∃i:Nat,sh.length+i<=D/\Gr wr w.heap.size (w1.heap.size+1) V (sh.length+i) (gw V 0 [c] (sh++List.replicate i (pj V)))/\Chg (λb=>b=w1.heap.size+1) wj wr) (λwr=>D-Rn wr (w1.heap.size+1));case atStart=>exact⟨0,by omega,by simpa using EZ.out,Chg.refl _ _⟩
       case round=>
        clear EZ;obtain⟨i,hie,pG,pg⟩:=hrel;by_cases gL:sh.length+i<D
        . obtain⟨aG,yj,hbk,tZ,hbase⟩:=pG;obtain⟨uv,ui⟩:∃ls,sh++List.replicate i (pj V)=ls:=⟨_,rfl⟩;obtain⟨m,hm⟩:=aK (sh.length+i);have hlm:uv.length=m:=by rw[<-ui,<-hm,List.length_append,List.length_replicate]
          have Tt:m<D:=by omega
          have Iq:gw V 0 [c] (sh++List.replicate (i+1) (pj V))=mP V m (gw V 0 [c] uv) (pj V):=by rw[List.replicate_succ',<-List.append_assoc,ui,RN,Nat.zero_add,hlm]
          have GV:∀l∈uv,∀d∈l,Sm B d:=by
           intro l hl;rw[<-ui,List.mem_append]at hl;rcases hl with hl|hl
           . exact YB.out V l (by rw[xZ.out];exact hl)
           . rw[(List.mem_replicate.1 hl).2];exact uI.out
          rw[ui]at tZ;rw[hm]at hbk;obtain⟨N,hN⟩:=aK (cnt V m);obtain⟨M,hM⟩:=aK (cnt V (m+1));rw[hN]at hbk;have gM:¬(0=w1.heap.size+1):=by have:=fM.out.lt;omega
          have qi:=af4 V m N M (B+20* (B+4608)) B aG yj (gw V 0 [c] uv) a2 cap2 (List.replicate (V+1) (canon one)) (pj V) (V+1) rfl (m+1) rfl wr hV hV2 zo hN hM (by rw[<-hN];exact Kf.out m zo) (by rw[<-hM];exact Kf.out (m+1) zo) (by rw[XR.out,hlm,hN]) zm (by rw[List.map_replicate,cN,<-ajk.out];rfl) tZ (zO.out.chg pg (λb o e=>by have:=OD.out b o e;omega)) (XT.out uv zo GV) (λx hx=>by rw[(List.mem_replicate.1 hx).2];exact aji.out) zo (pg.tab EH.out gM);obtain⟨Fq,Hg,Ff,Aa,Hm,HM⟩:=gP qi hbk pg Iq hm hM;clear qi hbk pg Iq hm hM hN hlm tZ GV ui;have Hb:Hid (Bw wr wr):=Below.refl _ _;have lg8:=Hg.out.lt;have Hg0:=Hg;obtain⟨g0,Av,g1,Aw,g2,Ax⟩:=Hg.out.g3;go_wp2_with fail;refine(Fq.out).mono ?_;rintro e w2 ⟨bO,rfl,hbO,mr,ag⟩;clear g0 Av g1 Aw g2 Ax;obtain⟨Hg,g0,Av,g1,Aw,g2,Ax⟩:=bg Hg ag;replace Hb:=aF Hb ag;clear ag;have OJ:=aj mr;have zU:Hid (Chg (λb=>b=w1.heap.size+1) wj w2):=Ff.out.aBh Hb.out;clear mr;go_wp2;go_roundw;case rel=>
           have hblk:=((Hg.out.set 0 (.slice (some ⟨bO,0,none⟩) M M)).set 1 (ah (V:Int))).set 2 (ah ((m:Int)+1));have SR:=((zU.out.set (a:=⟨w1.heap.size+1,0,none⟩) rfl (.slice (some ⟨bO,0,none⟩) M M)).set (a:=⟨w1.heap.size+1,1,none⟩) rfl (ah (V:Int))).set (a:=⟨w1.heap.size+1,2,none⟩) rfl (ah ((m:Int)+1));have wW:=OJ.out.chg ((((Chg.refl (λb=>b=w1.heap.size+1) w2).set (a:=⟨w1.heap.size+1,0,none⟩) rfl (.slice (some ⟨bO,0,none⟩) M M)).set (a:=⟨w1.heap.size+1,1,none⟩) rfl (ah (V:Int))).set (a:=⟨w1.heap.size+1,2,none⟩) rfl (ah ((m:Int)+1))) (λb o e=>by cases e;omega);refine⟨i+1,by omega,⟨some ⟨bO,0,none⟩,M,?_,?_,λb o e=>by cases e;omega⟩,SR⟩
           . have e9:sh.length+(i+1)=m+1:=by rw[<-Hm.out];omega
             have e10:((sh.length+(i+1):Nat):Int)=(m:Int)+1:=by omega
             rw[e10,e9,HM.out];exact hblk
           . rw[Aa.out];exact wW
          case measure=>have hblk:=((Hg.out.set 0 (.slice (some ⟨bO,0,none⟩) M M)).set 1 (ah (V:Int))).set 2 (ah ((m:Int)+1));have e1:=ZY Hg0.out;have e2:=ZY (m:=m+1) (show aC _ _ _ [.slice (some ⟨bO,0,none⟩) M M,ah (V:Int),ah ((m+1:Nat):Int)]from by rw[show((m+1:Nat):Int)=(m:Int)+1 by omega];exact hblk);rw[e1,e2];omega
        . have hiD:sh.length+i=D:=by omega
          obtain⟨aG,yj,hbk,tZ,hbase⟩:=pG;rw[hiD]at hbk;have hfe:gw V 0 [c] (sh++List.replicate i (pj V))=gH V D S c es:=by unfold gH;rw[Pb.out,xZ.out,<-YA.out,show D-sh.length=i by omega]
          rw[hfe]at tZ;obtain⟨g0,g1,g2⟩:=hbk.c3;have ayp:¬(D:Int)<(D:Int):=by omega
          obtain⟨ahQ,ahY,Hbq⟩:=dc tZ hbase (jC.out.trans (pg.below (n:=w.heap.size) (by have:=jC.out.size;omega) (λb e=>by omega)));clear tZ hbase hfe pg hbk;go_wp2;exact bodyPost_ret (v:=.slice aG (cnt V D) yj) (by simp[results,Tryz.results44,go_sem]) rfl ⟨aG,⟨yj,rfl⟩,ahQ.out,ahY.out,Hbq.out⟩
end Go.Proofs.YtnjfebkelecgaaaGreatDoor
