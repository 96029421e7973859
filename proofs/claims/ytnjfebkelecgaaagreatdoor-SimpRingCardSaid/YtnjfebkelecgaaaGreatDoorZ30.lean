/- Package simp: To,of whatever small arguments;what a polynomial is that Check lets by. -/
import Derived.Test.YtnjfebkelecgaaaGreatDoorZ23
import Derived.Test.YtnjfebkelecgaaaGreatDoorZ25
import Derived.Test.YtnjfebkelecgaaaGreatDoorZ28
import Derived.Test.YtnjfebkelecgaaaGreatDoorZ29
import Derived.Test.YtnjfebkelecgaaaGreatDoorZ27
import Derived.Test.YtnjfebkelecgaaaGreatDoorZ7
set_option linter.unusedVariables false
set_option linter.unusedSimpArgs false
set_option maxRecDepth 100000
set_option maxHeartbeats 16000000
namespace Go.Proofs.YtnjfebkelecgaaaGreatDoor
open Go.RowKit
theorem av4 (ts:List aR)(h:∀k (h:k+1<ts.length),Op.bytesLess (ts[k]'zo).1 ts[k+1].1=true):Up ts:=by
 unfold Up;rw[List.pairwise_iff_getElem];intro i j hi hj hij;obtain⟨d,rfl⟩:∃d,j=i+1+d:=⟨j-(i+1),by omega⟩;induction d with
 |zero=>exact h i hj
 |succ d ih=>exact CJ (ih zo zo) (h (i+1+d) hj)
theorem asZ {V:Nat}{ts:List aR}(h:lK (V:Int) ts=0):CF V ts:=by
 obtain⟨h1,h2,h3,h4⟩:=Vk h;have hall:(List.range ts.length).all (nj (V:Int) ts)=true:=by
  unfold lK at h;rw[if_neg zo,if_neg zo]at h;by_cases h9:(List.range ts.length).all (nj (V:Int) ts)=true
  . exact h9
  . rw[if_neg h9]at h;cases h
 rw[List.all_eq_true]at hall;have hg:∀k (hk:k<ts.length),ym (V:Int) ts[k].1 ts[k].2=true/\(0<k->Op.bytesLess (ts[k-1]'zo).1 ts[k].1=true):=λk hk=>by
  have h5:=hall k (List.mem_range.2 hk);unfold nj at h5;rw[show ts.getD k default=ts[k]by simp[List.getD_eq_getElem?_getD,hk],show ts.getD (k-1) default=ts[k-1]'zo by simp[List.getD_eq_getElem?_getD,show k-1<ts.length by omega]]at h5;simp only[Bool.and_eq_true,Bool.or_eq_true,beq_iff_eq,gm]at h5;refine⟨h5.1,λh0=>?_⟩;rcases h5.2 with h6|h6
  . omega
  . exact h6
 refine⟨⟨av4 ts (λk hk=>by have:=(hg (k+1) hk).2 zo;simpa using this),λt ht=>?_⟩,λt ht=>?_,h3,by omega⟩;all_goals
  obtain⟨k,hk,rfl⟩:=List.mem_iff_getElem.1 ht
  have h5:=(hg k hk).1
  unfold ym at h5
  simp only[Bool.and_eq_true,Bool.not_eq_true',beq_iff_eq]at h5
 . exact⟨(wK _).1 h5.1.2,h5.2.symm⟩
 . exact h5.1.1
theorem avQ (ts:List aR)(n:Nat)(h:∀t∈ts,iM t.1<=n):mQ ts<=n:=by
 have gen:∀(ts:List aR) (a:Nat),a<=n->(∀t∈ts,iM t.1<=n)->ts.foldl (λn t=>max n (ji t.1)) a<=n:=by
  intro ts;induction ts with
  |nil=>intro a ha _;exact ha
  |cons t ts ih=>intro a ha h;exact ih _ (Nat.max_le.2 ⟨ha,h t zm⟩) (λu hu=>h u (by simp[hu]))
 exact gen ts 0 (Nat.zero_le _) h
theorem VS {PV d:Int}{ts:List aR}{rows:List (List Raw)}{B:Nat}(h4:rows.length<=4)(hf:∀r∈rows,∀c∈r,Fit B c)(hts:∀t∈ts,Fit B t.2)(h:nY PV ts rows d=0):
 ∃V:Nat,1<=V/\V<=3/\PV=(V:Int)/\rows.length=V+1/\jg rows=0/\Rw V B rows/\0<=d/\dD V B d.toNat ts:=by
 unfold nY at h;by_cases hb:jg rows=1\/lK PV ts≠0\/PV≠(rows.length:Int)-1\/d<(mQ ts:Int)
 . rw[if_pos hb]at h;cases h
 . rw[if_neg hb]at h;have h1:¬jg rows=1:=λe=>hb (.inl e);have h2:lK PV ts=0:=Classical.byContradiction λe=>hb (.inr (.inl e));have h3:PV=(rows.length:Int)-1:=Classical.byContradiction λe=>hb (.inr (.inr (.inl e)));have h5:¬d<(mQ ts:Int):=λe=>hb (.inr (.inr (.inr e)));obtain⟨m,hm,hr⟩:=avC zo hf h;have hl:=hr.1;have hV:PV=((m+1:Nat):Int):=by omega
   rw[hV]at h2;have hp:=asZ h2;exact⟨m+1,by omega,by omega,hV,hl,h,hr,by omega,⟨hp,hts⟩,λt ht=>⟨hp.2.1 t ht,by have:iM t.1<=mQ ts:=ZZ ts t ht;omega⟩⟩
theorem af6 {V B D:Nat}{ts:List aR}{rows:List (List Raw)}(hl:rows.length=V+1)(h0:jg rows=0)(hp:dD V B D ts):nY (V:Int) ts rows (D:Int)=0:=by
 unfold nY;rw[if_neg,h0];rintro(h|h|h|h)
 . rw[h0]at h;cases h
 . exact h (Vj hp.1.1)
 . exact h zo
 . have:=avQ ts D (λt ht=>(hp.2 t ht).2);omega
def ToR (PV d:Int)(ts:List aR)(rows:List (List Raw))(N:Nat)(e:Ending)(w':World):Prop:=
 (nY PV ts rows d≠0/\∃c:Int,c≠0/\e=.returned (.tuple #[.agg #[ah 0,ah 0,.slice none 0 0],ah c]))\/
 (nY PV ts rows d=0/\∃b:Nat,e=.returned (.tuple #[.agg #[ah PV,ah d,.slice (some ⟨b,0,none⟩) N N],ah 0])/\At w' (some ⟨b,0,none⟩) (dC (eY (rows.length-1) d.toNat (rows.map λr=>r.map aM) (fV ts))))
theorem avM (PV:Int)(aP:Option Addr)(nT ic:Nat)(ts:List aR)(a:Option Addr)(L cap:Nat)(rows:List (List Raw))(B N:Nat)(d:Int)(w:World)(gM:ts.length=nT)(hn:nT<=4096)(pW:At w aP (ts.flatMap aY))(hts:∀t∈ts,Fit B t.2)(hlm:∀t∈ts,t.1.length<=9223372036854775807)
 (hL:rows.length=L) (hL4:L<=4) (hcap:L<=cap) (ha:cM w a rows) (hfit:∀r∈rows,∀c∈r,Fit B c) (cd:1<=B) (hB:B<=100000) (hT:aO w) (hd:d<=5) (hN:cnt (L-1) d.toNat=N):
 Calls Tryz.prog 11 #[.agg #[ah PV,.slice aP nT ic],.slice a L cap,ah d] w λe w'=>ToR PV d ts rows N e w'/\Bw w w':=by
 by_cases h0:nY PV ts rows d=0
 . obtain⟨V,hV1,rh,rfl,hl,h9,hr,hd0,hp⟩:=VS zo hfit hts h0;have Di:L-1=V:=by omega
   have aoN:rows.length-1=V:=by omega
   rw[Di]at hN;refine(Oc V d.toNat (V:Int) rfl aP nT ic ts a L cap rows B N d zo w gM hn pW hts hL hL4 hcap ha hfit cd hB hT zo h0 hN).mono ?_;rintro e w' ⟨b,rfl,hat,ag⟩;exact⟨.inr ⟨h0,b,rfl,by rw[aoN];exact hat⟩,ag⟩
 . refine(avN PV aP nT ic ts a L cap rows B d w gM zo pW (λt ht=>⟨hlm t ht,(hts t ht).1⟩) hL hL4 hcap ha hfit zo hT hd _ rfl h0).mono ?_;rintro e w' ⟨rfl,ag⟩;exact⟨.inl ⟨h0,_,h0,rfl⟩,ag⟩
end Go.Proofs.YtnjfebkelecgaaaGreatDoor
namespace Go.Proofs.YtnjfebkelecgaaaGreatDoor
open Go.RowKit
attribute [local go_sem ↓] Go.wp_at_zero Go.wp_at_succ
theorem ati (V B d e n n':Nat)(b:Nat)(a a':Option Addr)(cap cap':Nat)(ta tb C:List aR)(w:World)(hV:0<V)(hn:ta.length=n)(hn':tb.length=n')(jM:iw V B ta)(jZ:iw V B tb)(ue:fW V d ta)(yE:fW V e tb)(Mv:d+e<=127)(hl:n*n'<=4096)(hB:B<=100000000)(hb:aC w b 24 [ah (V:Int),.slice a n cap,ah (V:Int),.slice a' n' cap'])(ha:bJ w a cap ta)(ha':bJ w a' cap' tb)(hT:aO w)(hC:bU (iL ta tb)=C):
 Calls Tryz.prog 76 #[.slice (some ⟨b,0,none⟩) 2 2] w λex w'=>∃a9 c9,ex=.returned (.tuple #[.agg #[ah (V:Int),.slice a9 C.length c9],ah 0])/\bJ w' a9 c9 C/\Bw w w':=by
 have hV2:V<=12:=jM.1.2.2.2;have uh:n<=4096:=by have:=jM.1.2.2.1;omega
 have hl2:n'<=4096:=by have:=jZ.1.2.2.1;omega
 have hlk:=λW (hW:Bw w W)=>aed V B b 0 2 2 [⟨V,a,ta.length,cap⟩,⟨V,a',tb.length,cap'⟩] (λk=>if k=0 then ta else tb) W rfl zd zd (by rw[hn,hn'];exact At.aBf (hb.below hW)) (by
  intro k hk;rcases k with _|k
  . exact⟨a,cap,rfl,(ha.below hW).w,jM⟩
  . obtain rfl:k=0:=by simp at hk;omega
    exact⟨a',cap',rfl,(ha'.below hW).w,jZ⟩) (hT.below hW)
 have hcn:∀W (hW:Bw w W),Calls Tryz.prog 69 #[.slice a n cap] W λe w'=>∃a1 d1,e=.returned (.slice a1 n d1)/\bJ w' a1 d1 ta/\Bw W w':=λW hW=>(Rb a n cap ta W hn zo (by rw[<-hn];exact ha.2.1) (ha.1.below hW)).mono (by
  rintro e w' ⟨v',rfl,ho,hb⟩;obtain⟨a1,d1,rfl,_⟩:=dU ho;rw[<-hn]at ho
  exact⟨a1,d1,rfl,BK ho,hb⟩)
 have qi:=λa1 d1 W (hW:Bw w W) (hp:bJ W a1 d1 ta)=>atw V B d e n n' a1 a' d1 cap' ta tb C W hV hV2 hn hn' ue yE Mv (λt ht=>jM.2 t ht) (λt ht=>jZ.2 t ht) hl uh hl2 hB hp.1 (ha'.1.below hW) (hT.below hW) hC;obtain⟨m,hm⟩:=aK C.length;rw[hm]at qi⊢;obtain⟨Ps,pE,Fq,H0⟩:=eN hlk hcn qi hb;clear hlk hcn qi hn hn' jM jZ ue yE hb ha ha' hT hC hm;obtain⟨W,dw,Hb,Hr⟩:=jT w 24 [ah 0,.slice none 0 0];obtain⟨r0,au,r1,az⟩:=Hr.out.g2;have Hz:Hid (aC W b 24 [ah (V:Int),.slice a n cap,ah (V:Int),.slice a' n' cap']):=H0.out.below Hb.out;have hbl:=H0.out.lt;go_enter Tryz.func76,Tryz.ntmps76;go_wp2_with fail;refine(Ps.out _ Hb.out).mono ?_;rintro e w1 ⟨rfl,ag⟩;clear r0 au r1 az;obtain⟨Hr,r0,au,r1,az⟩:=bE Hr ag;replace Hb:=aF Hb ag;clear ag;replace Hz:=aj (H0.out.below Hb.out);have wA:=Hb;have Yt:=Hr;clear r0 au r1 az Hr;replace Hb:Hid (Bw w1 w1):=Below.refl _ _;have hs1:=wA.out.size;have lr1:=Yt.out.lt;obtain⟨z0,z1,z2,z3⟩:=Hz.out.c4;go_upto_region 4 with fail
 go_cut[5] (λs5 wx=>∃(g:Nat) (a1:Option Addr) (d1:Nat),s5=.pointer (some ⟨g,0,none⟩)/\w1.heap.size<=g/\aC wx g 24 [ah (V:Int),.slice a1 n d1]/\bJ wx a1 d1 ta/\Bw w1 wx);case first=>
  have fE:∀w',eu w1 w'->aH w' b 0 (ah (V:Int))/\aH w' b 1 (.slice a n cap):=λw' h=>⟨cell_later h z0,cell_later h z1⟩;have bu:Hid (eu w1 w1):=Below.refl _ _;refine Oq (λw'=>eu w1 w') (λi=>Nat.blt i 11) (.rd 0 (.rd 1 (.rd 2 (.rd 3 (.rd 4 (.rd 5 (.rd 6 (.rd 7 (.br 8 10 (.lin [(9,true),(10,false),(11,false)]) (.lin [(8,false),(9,true),(11,false)])))))))))) zk zk rfl zk zc bu.out.drew ?_;iterate 8 (refine NK rfl rfl (v:=?_) (λw' hw'=>?_) ?_;rotate_left;(focus have hw':=fE w' hw';obtain⟨q0,q1⟩:=hw';go_simp;try with_reducible rfl);try simp only[UU])
  clear  fE;refine Ji rfl rfl rfl rfl rfl rfl  (λK hK=>?_) (λK hK=>?_) 
  . go_simp;with_reducible refine(pE.out _ (by first|exact aV wA.out Hb.out|exact aV wA.out Hb.out.drew)).mono ?_
    rintro e w2 ⟨a1,d1,rfl,hp1,hq⟩;have ag:Bw w1 w2:=by first|exact hq|exact bo hq
    clear z0 z1 z2 z3;replace bu:=aj (bu.out.below ag);obtain⟨Hz,z0,z1,z2,z3⟩:=dK Hz ag;replace Hb:=aF Hb ag;clear ag;have HX:=aj hp1;clear hp1;refine hK _ _ (λ_=>bu.out) ?_;clear hK K;try simp only[UU]
    refine xA ?_;refine pT rfl rfl ?_;try simp only[UU]
    refine aW rfl rfl (λK hK=>?_);go_simp;have ark:=Hb.out.size;refine hK _ _ (λ_=>by first|exact bu.out.alloc _|exact(bu.out.alloc _).drew|exact(bu.out.drew).alloc _) ?_;clear hK K;try simp only[UU]
    refine cn (λW3=>aC W3 (w2.heap.size) 24 [ah 0,.slice none 0 0]/\Bw w2 W3) (by first|exact dZ|exact ej) ?_;rintro W3 ⟨qo,ag⟩;clear z0 z1 z2 z3;have arG:=Hz.out.lt;replace bu:=aj (bu.out.below ag);replace Hz:=kB Hz ag;replace HX:=aj (HX.out.below ag);have Ho:=aj qo;clear qo;obtain⟨z0,z1,z2,z3⟩:=Hz.out.c4;obtain⟨o0,dM,o1,dO⟩:=Ho.out.g2;replace Hb:=aF Hb ag;clear ag;refine aW rfl rfl (λK hK=>?_);go_simp;refine hK _ _ (by first|exact λh=>absurd h zd|exact λ_=>bu.out|exact λ_=>(by first|exact bu.out.setCell zp _|exact(bu.out.setCell zp _).setCell zp _|exact((bu.out.setCell zp _).setCell zp _).setCell zp _)) ?_;clear hK K;try simp only[UU]
    simp only[bD];go_wp2_with fail;go_meet;exact⟨_,_,_,rfl,by omega,(Ho.out.set 0 _).set 1 _,HX.out.store Ho.out zd _ _,(Hb.out.setCell zp _).setCell zp _⟩
  . go_simp;have ark:=Hb.out.size;refine hK _ _ (λ_=>by first|exact bu.out.alloc _|exact(bu.out.alloc _).drew|exact(bu.out.drew).alloc _) ?_;clear hK K;try simp only[UU]
    refine Jj (λW3=>aC W3 (w1.heap.size) 24 [ah 0,.slice none 0 0]/\Bw w1 W3) (by first|exact dZ|exact ej) ?_;rintro W3 ⟨qo,ag⟩;clear z0 z1 z2 z3;have arG:=Hz.out.lt;replace bu:=aj (bu.out.below ag);replace Hz:=kB Hz ag;have Ho:=aj qo;clear qo;obtain⟨z0,z1,z2,z3⟩:=Hz.out.c4;obtain⟨o0,dM,o1,dO⟩:=Ho.out.g2;replace Hb:=aF Hb ag;clear ag;refine xA ?_;refine aW rfl rfl (λK hK=>?_);go_simp;with_reducible refine(pE.out _ (by first|exact aV wA.out Hb.out|exact aV wA.out Hb.out.drew)).mono ?_
    rintro e w2 ⟨a1,d1,rfl,hp1,hq⟩;have ag:Bw W3 w2:=by first|exact hq|exact bo hq
    clear z0 z1 z2 z3 o0 dM o1 dO;replace bu:=aj (bu.out.below ag);obtain⟨Hz,z0,z1,z2,z3⟩:=dK Hz ag;obtain⟨Ho,o0,dM,o1,dO⟩:=bE Ho ag;replace Hb:=aF Hb ag;clear ag;have HX:=aj hp1;clear hp1;refine hK _ _ (λ_=>bu.out) ?_;clear hK K;try simp only[UU]
    refine pT rfl rfl ?_;try simp only[UU]
    refine aW rfl rfl (λK hK=>?_);go_simp;refine hK _ _ (by first|exact λh=>absurd h zd|exact λ_=>bu.out|exact λ_=>(by first|exact bu.out.setCell zp _|exact(bu.out.setCell zp _).setCell zp _|exact((bu.out.setCell zp _).setCell zp _).setCell zp _)) ?_;clear hK K;try simp only[UU]
    simp only[bD];go_wp2_with fail;go_meet;exact⟨_,_,_,rfl,by omega,(Ho.out.set 0 _).set 1 _,HX.out.store Ho.out zd _ _,(Hb.out.setCell zp _).setCell zp _⟩
 case rest=>
  obtain⟨g,a1,d1,rfl,hg,jL,hp1,hbc⟩:=hcut;have bW:=aV wA.out hbc;obtain⟨Kb,mY,Cc⟩:=dc jL hp1 hbc;have Ky:=Yt;have szc:=hbc.size;have bK:=yQ 1 1 0 0 (rfl:(some ⟨b,2,none⟩:Option Addr)=_) zo rfl;rw[Nat.zero_mul,Nat.add_zero]at bK;clear jL hp1 hbc bW z0 z1 z2 z3 Hb;go_wp2_with fail;go_loopw[29] (λx wr=>∃(a2:Option Addr) (d2:Nat),((x=ah 0/\aC wr g 24 [ah (V:Int),.slice a2 n d2]/\bJ wr a2 d2 ta)\/(x=ah 1/\aC wr g 24 [ah (V:Int),.slice a2 m d2]/\bJ wr a2 d2 C))/\Bw w1 wr) (λx _=>1-(intOf x).toNat);case atStart=>exact⟨a1,d1,.inl ⟨rfl,Kb.out,mY.out⟩,Cc.out⟩
  case round=>
   clear Kb mY Cc Hz;obtain⟨a2,d2,⟨rfl,jL,hp2⟩ |⟨rfl,jL,hp2⟩,pb⟩:=hrel
   . have Ho:Hid (aC wr g 24 [ah (V:Int),.slice a2 n d2]):=jL;have Hz:Hid (aC wr b 24 [ah (V:Int),.slice a n cap,ah (V:Int),.slice a' n' cap']):=H0.out.below (aV wA.out pb);obtain⟨bj,xU⟩:=aZ pb hp2;have iu:=pb.size;clear pb hp2 jL;have Hb:Hid (Bw wr wr):=Below.refl _ _;obtain⟨z0,z1,z2,z3⟩:=Hz.out.c4;obtain⟨o0,dM,o1,dO⟩:=Ho.out.g2;have HP:Hid (bJ wr a2 d2 ta):=xU.out;have Kz0:=z0;have Kz1:=z1;have Kz2:=z2;have Kz3:=z3;have arH:=Hz.out.lt;have azT:=Ho.out.lt;obtain⟨W5,yt,ag,Hy⟩:=cF wr 24 [ah (V:Int),.slice a' n' cap'];clear z0 z1 z2 z3;replace Hz:=kB Hz ag;clear o0 dM o1 dO;replace Ho:=kB Ho ag;replace HP:=aj (HP.out.below ag);obtain⟨z0,z1,z2,z3⟩:=Hz.out.c4;obtain⟨o0,dM,o1,dO⟩:=Ho.out.g2;obtain⟨y0,y1⟩:=Hy.out.c2;replace Hb:=aF Hb ag;clear ag;go_wp2_with fail;refine(Fq.out a2 d2 _ (aV (aV wA.out bj.out) Hb.out) HP.out).mono ?_;rintro e w6 ⟨a9,d9,rfl,jy,ag⟩;clear z0 z1 z2 z3 o0 dM o1 dO y0 y1;replace Hz:=kB Hz ag;replace Ho:=kB Ho ag;replace HP:=aj (HP.out.below ag);obtain⟨Hy,y0,y1⟩:=bi Hy ag;obtain⟨z0,z1,z2,z3⟩:=Hz.out.c4;obtain⟨o0,dM,o1,dO⟩:=Ho.out.g2;replace Hb:=aF Hb ag;clear ag Kz0 Kz1 Kz2 Kz3;have zY:=aj jy;clear jy;have HX:Hid (bJ w6 a9 d9 C):=zY.out;have aAB:=Hz.out.lt;have aeq:=Ho.out.lt;have aet:=Hy.out.lt;obtain⟨W7,Mk,ag,Hu⟩:=cF w6 24 [ah (V:Int),.slice a9 m d9];clear z0 z1 z2 z3;replace Hz:=kB Hz ag;clear o0 dM o1 dO;replace Ho:=kB Ho ag;replace HP:=aj (HP.out.below ag);clear y0 y1;replace Hy:=kB Hy ag;replace HX:=aj (HX.out.below ag);obtain⟨z0,z1,z2,z3⟩:=Hz.out.c4;obtain⟨o0,dM,o1,dO⟩:=Ho.out.g2;obtain⟨y0,y1⟩:=Hy.out.c2;obtain⟨u0,u1⟩:=Hu.out.c2;replace Hb:=aF Hb ag;clear ag;go_wp2;go_roundw;case rel=>exact⟨a9,d9,.inr ⟨rfl,(Ho.out.set 0 _).set 1 _,HX.out.store Ho.out zd _ _⟩,(((bj.out.trans (Hb.out.mono iu)).setCell zp _).setCell zp _)⟩
     case measure=>simp[intOf]
   . have Ho:Hid (aC wr g 24 [ah (V:Int),.slice a2 m d2]):=jL;have Hr:Hid (aC wr w.heap.size 24 [ah 0,.slice none 0 0]):=Ky.out.below pb;have Hb:Hid (Bw w wr):=aV wA.out pb;have xU:=aj hp2;clear pb hp2 jL;obtain⟨o0,o1⟩:=Ho.out.c2;obtain⟨r0,au,r1,az⟩:=Hr.out.g2;go_wp2;have h9:=xU.out.store Hr.out zd (ah (V:Int)) (.slice a2 m d2);refine fJ (λw9=>bJ w9 a2 d2 C/\aC w9 w.heap.size 24 [ah (V:Int),.slice a2 m d2]/\Bw w w9) ⟨h9,(Hr.out.set 0 _).set 1 _,(Hb.out.setCell zp _).setCell zp _⟩ ?_;rintro w9 ⟨q1,q2,q3⟩;obtain⟨x0,x1⟩:=q2.c2;exact bodyPost_ret (v:=.tuple #[.agg #[ah (V:Int),.slice a2 m d2],ah 0]) (by simp[results,Tryz.results76,go_sem,x0,x1]) rfl ⟨_,_,rfl,q1,q3⟩
theorem auU (V D N v1 A B:Nat)(aB:Option Addr)(rY:Nat)(cG:List Raw)(cs:List Dyadic)(aS:Option Addr)(Ak:Nat)(rows:List (List Raw))(C:List aR)(w:World)(hV:1<=V)(rh:V<=3)(hv1:V+1=v1)(hD:D<=5)(hN:cnt V D=N)(wO:N<=512)(Io:cG.length=N)(hcs:cG.map aM=cs)(js:∀x∈cG,Fit A x)(hA:A<=10000000)(hB:B<=200000)(hr:Rw V B rows)(hcap:v1<=Ak)(ha:cM w aS rows)(h0:jg rows=0)(Gx:At w aB (cG.flatMap cz))(hT:aO w)(hC:wH V (jJ V (jA rows) V) (cQ (V+1) D) cs N=C):
 Calls Tryz.prog 27 #[.agg #[ah (V:Int),ah (D:Int),.slice aB N rY],.slice aS v1 Ak] w λex w'=>∃a9 c9,ex=.returned (.tuple #[.agg #[ah (V:Int),.slice a9 C.length c9],ah 0])/\bJ w' a9 c9 C/\Bw w w':=by
 have eZ:=λW=>ZF (V:Int) (D:Int) aB N rY 0 (by
  unfold FY
  rw[if_neg zo,if_neg (by rw[Int.toNat_natCast,Int.toNat_natCast];omega),if_pos (by rw[Int.toNat_natCast,Int.toNat_natCast];omega)]) W
 have Bd:=λW=>Jm V D N hV zo zo hN wO W;have hfo:∀W,Bw w W->Calls Tryz.prog 74 #[.slice aS v1 Ak] W λe w'=>∃a' c' ps,e=.returned (.tuple #[.slice a' v1 c',ah 0])/\v1<=c'/\ps.length=v1/\At w' a' (ps.flatMap mN)/\jX w' V (5*B+33) ps (jJ V (jA rows) V)/\Bw W w':=λW hW=>by obtain⟨m,rfl⟩:∃m,V=m+1:=⟨V-1,by omega⟩;subst hv1;exact aod aS Ak m rows B W zo hr hcap (ha.below hW) hB (hT.below hW) h0
 have Gs:∀a b,a<=V->b<V->Sm B (jA rows a b):=λa b ha hb=>by rw[xC rows a b (by rw[hr.1];omega) (by rw[hr.2.1 _ (List.getElem_mem _)];exact hb)];exact(hr.2.2 _ (List.getElem_mem _) _ (List.getElem_mem _)).2
 have hF:∀j,j<=V->dD V (5*B+33) 1 (jJ V (jA rows) V j)/\(jJ V (jA rows) V j).length<=8:=λj hj=>by
  refine⟨⟨an7 hV zo Gs zo V (Nat.le_refl _) j,an6 V _ V j⟩,?_⟩;unfold jJ;split
  . exact Nat.le_trans (aav V _ V) zo
  . exact Nat.le_trans (Uu V _ _) zo
 have ud:∀c∈cs,Sm A c:=λc hc=>by rw[<-hcs]at hc;obtain⟨x,hx,rfl⟩:=List.mem_map.1 hc;exact(js x hx).2
 obtain⟨Fs,Ma⟩:=aK (jJ V (jA rows) V);obtain⟨R,hR⟩:=aK (cQ (V+1) D);have jm:R.length=N:=by rw[<-hR,sK,hN]
 have hrow:∀k (h:k<R.length),R[k].length=v1/\(∀a∈R[k],a<=20)/\R[k].sum=D/\R.getD k []=R[k]:=λk h=>by
  have hm:R[k]∈cQ (V+1) D:=by rw[hR];exact List.getElem_mem h
  have h1:=(rH V D _).1 hm;exact⟨by rw[h1.1,hv1],λa ha=>by have:=Nv ha;omega,h1.2,by simp[h]⟩
 rw[Ma]at hF hC;rw[hR]at Bd hC;have Mg:∀k,k<R.length->(R.getD k []).sum<=D:=λk h=>by rw[(hrow k h).2.2.2,(hrow k h).2.2.1];exact Nat.le_refl _
 have hbk:=λk (hk:k<=N)=>alW (D:=D) hF ud rh Mg hD zo k zo zo;have hbk2:=λk (hk:k<=N)=>dD.mono (hbk k hk) (show _<=30000000 by omega) (Nat.le_refl D);have hcon:=λk=>Lq (V:=V) rh (pU ud k) zo;have adn:=λk (hk:k<N) j (hj:j<=V+1)=>ae9 (x:=R.getD k []) hF (hcon k) rh (Mg k zo) hD zo j hj;have hst:=λk=>(rfl:wH V Fs R cs (k+1)=bU (wH V Fs R cs k++zw Fs (dF V (cs.getD k 0) ou 0) (R.getD k []) (V+1)));obtain⟨S,hS⟩:∃S:Nat->List aR,wH V Fs R cs=S:=⟨_,rfl⟩;obtain⟨PP,Dk⟩:∃PP:Nat->Nat->Nat->List aR,(λk j kk=>NL (Fs j) (zw Fs (dF V (cs.getD k 0) ou 0) (R.getD k []) j) kk)=PP:=⟨_,rfl⟩;have Gp:∀k,PP k 0 0=dF V (cs.getD k 0) ou 0:=λk=>by rw[<-Dk];rfl
 have Mf:∀k j,PP k j ((R.getD k []).getD j 0)=PP k (j+1) 0:=λk j=>by rw[<-Dk];rfl
 have abk:∀k j kk,PP k j (kk+1)=bU (iL (PP k j kk) (Fs j)):=λk j kk=>by rw[<-Dk];rfl
 have Sk:∀k,k<N->∀j,j<=V+1->∀kk,(j<=V/\kk<=(R.getD k []).getD j 0\/kk=0)->dD V 30000000 5 (PP k j kk)/\(PP k j kk).length<=216:=λk hk j hj kk h=>by
  have h1:=adn k hk j hj;have h2:=VL (R.getD k []) (j+1);have h3:=afV (R.getD k []) j;have h4:=Mg k zo;have h9:((R.getD k []).take j).sum* (5*B+33+2000)<=5* (5*B+33+2000):=Nat.mul_le_mul_right _ zo;have h8:dD V 30000000 5 (PP k j kk):=by
   rw[<-Dk];rcases h with⟨gK,hkk⟩ |rfl
   . obtain⟨h5,h6⟩:=hF j gK;have h7:kk* (5*B+33+2000)<=5* (5*B+33+2000):=Nat.mul_le_mul_right _ zo;have h5':=afg h5 h6 h1 rh kk zo zo;exact dD.mono h5' zo zo
   . exact dD.mono h1 zo zo
  exact⟨h8,h8.len rh (Nat.le_refl _)⟩
 have hS1:∀k,S (k+1)=bU (S k++PP k (V+1) 0):=λk=>by rw[<-hS,<-Dk];rfl
 have yr:∀k,k<=N->dD V 30000000 5 (S k)/\(S k).length<=216:=λk hk=>by have h:=dD.mono (hbk2 k hk) (Nat.le_refl _) hD;rw[hS]at h;exact⟨h,h.len rh (Nat.le_refl _)⟩
 have si:dF V 0 ou 0=S 0:=by rw[<-hS];rfl
 rw[hS]at hC;have hF2:∀j,j<=V->dD V 30000000 1 (Fs j)/\(Fs j).length<=8:=λj hj=>⟨dD.mono (hF j hj).1 zo (Nat.le_refl _),(hF j hj).2⟩;have hc0:∀W,Bw w W->Calls Tryz.prog 75 #[ah (V:Int),.agg #[ar false,.string ⟨#[]⟩,ah 0]] W λex w'=>∃a' c',ex=.returned (.tuple #[.agg #[ah (V:Int),.slice a' (S 0).length c'],ah 0])/\bJ w' a' c' (S 0)/\Bw W w':=λW hW=>by rw[<-si];exact Lp V false [] 0 0 100 ou W zo ⟨⟨by decide,by decide,by decide⟩,by rw[show aM (false,[],0)=0 from by decide+kernel];exact Sm.zero _⟩ zo (hT.below hW) (by decide+kernel)
 have hcn:∀k (h:k<cG.length) s m e,cG[k]=(s,m,e)->∀W,Bw w W->Calls Tryz.prog 75 #[ah (V:Int),.agg #[ar s,ai m,ah e]] W λex w'=>∃a' c',ex=.returned (.tuple #[.agg #[ah (V:Int),.slice a' (PP k 0 0).length c'],ah 0])/\bJ w' a' c' (PP k 0 0)/\Bw W w':=λk h s m e hx W hW=>by rw[Gp];have hf:=js _ (List.getElem_mem h);rw[hx]at hf;refine Lp V s m e (cs.getD k 0) A ou W zo hf zo (hT.below hW) ?_;rw[<-hcs,<-hx];simp[List.getD_eq_getElem?_getD,h]
 have fG:∀k,k<N->∀j,j<=V->∀kk,kk<(R.getD k []).getD j 0->∀n n' m,(PP k j kk).length=n->(Fs j).length=n'->(PP k j (kk+1)).length=m->∀a1 c1 a2 c2 b W,aC W b 24 [ah (V:Int),.slice a1 n c1,ah (V:Int),.slice a2 n' c2]->bJ W a1 c1 (PP k j kk)->bJ W a2 c2 (Fs j)->aO W->Calls Tryz.prog 76 #[.slice (some ⟨b,0,none⟩) 2 2] W λex w'=>∃a9 c9,ex=.returned (.tuple #[.agg #[ah (V:Int),.slice a9 m c9],ah 0])/\bJ w' a9 c9 (PP k j (kk+1))/\Bw W w':=λk hk j hj kk hkk n n' m hn hn' hm a1 c1 a2 c2 b W hb h1 h2 hT=>by obtain⟨hp1,hp2⟩:=Sk k hk j zo kk (.inl ⟨hj,by omega⟩);obtain⟨hq1,hq2⟩:=hF2 j hj;rw[<-hm];exact ati V 30000000 5 1 n n' b a1 a2 c1 c2 (PP k j kk) (Fs j) _ W zo hn hn' hp1.1 hq1.1 hp1.2 hq1.2 zd (Nat.le_trans (Nat.mul_le_mul (show n<=216 by omega) (show n'<=8 by omega)) zd) zd hb h1 h2 hT (abk k j kk).symm
 have had:∀k,k<N->∀n n' m,(S k).length=n->(PP k (V+1) 0).length=n'->(S (k+1)).length=m->∀a1 c1 a2 c2 b W,aC W b 24 [ah (V:Int),.slice a1 n c1,ah (V:Int),.slice a2 n' c2]->bJ W a1 c1 (S k)->bJ W a2 c2 (PP k (V+1) 0)->aO W->Calls Tryz.prog 17 #[.slice (some ⟨b,0,none⟩) 2 2] W λex w'=>∃a9 c9,ex=.returned (.tuple #[.agg #[ah (V:Int),.slice a9 m c9],ah 0])/\bJ w' a9 c9 (S (k+1))/\Bw W w':=λk hk n n' m hn hn' hm a1 c1 a2 c2 b W hb h1 h2 hT=>by obtain⟨hp1,hp2⟩:=yr k zo;obtain⟨hq1,hq2⟩:=Sk k hk (V+1) (Nat.le_refl _) 0 (.inr rfl);rw[<-hm];exact QL V 30000000 (S k) (PP k (V+1) 0) _ a1 a2 c1 c2 W b (by rw[hn,hn'];exact hb) h1 h2 hp1.1 hq1.1 zo zd hT (hS1 k).symm
 rw[hv1]at had;have jq:∀W ps,jX W V (5*B+33) ps (jJ V (jA rows) V)->∀j (h:j<ps.length),∃a c,ps[j]=⟨(V:Int),a,(Fs j).length,c⟩/\bJ W a c (Fs j):=λW ps h j hj=>by rw[Ma]at h;obtain⟨a,c,h1,h2,_⟩:=h j hj;exact⟨a,c,h1,h2⟩
 obtain⟨mW,PX,Pe,wn,vR,qV,HPn,Cf,pE,sZ,qK,HFs⟩:=gy eZ Bd hfo jq jm hrow Mf hc0 hcn fG had Ma;obtain⟨Qe,OC,HT,CB,HC⟩:=fU Io Gx hT hv1 hC;clear eZ Bd hfo jq jm hrow Mf hc0 hcn fG had Ma Io Gx hT hC Gp abk Sk hS1 yr si hF2 hS Dk hbk hbk2 hcon adn hst Mg hR hF Gs ud hN hcs js hA hB hr ha h0;have gM:0<w.heap.size:=HT.out.lt;have hvI:IntKind.i64.wrap ((v1:Int)-1)=(V:Int):=by rw[IntKind.wrap_i64];omega
 have hv4:v1<=4:=by omega
 clear hv1;obtain⟨n0,hn0⟩:∃n,(S 0).length=n:=⟨_,rfl⟩;have qT:=aj hn0;rw[hn0]at Cf;clear hn0;obtain⟨W,dw,Hb,Hf,Hr⟩:=mK w 34 [ah (V:Int),ah (D:Int),.slice aB N rY] 24 [ah 0,.slice none 0 0];obtain⟨f0,f1,f2⟩:=Hf.out.c3;obtain⟨r0,au,r1,az⟩:=Hr.out.g2;go_enter Tryz.func27,Tryz.ntmps27;go_wp2_with fail;refine(mW.out _).mono ?_;rintro e w1 ⟨rfl,ag⟩;clear f0 f1 f2 r0 au r1 az;obtain⟨Hf,f0,f1,f2⟩:=bP Hf ag;obtain⟨Hr,r0,au,r1,az⟩:=bE Hr ag;replace Hb:=aF Hb ag;clear ag;go_wp2_with fail;refine(Pe.out _ Hb.out).mono ?_;rintro e w2 ⟨af,cf,ps,rfl,SQ,ayA,abS,adm,ag⟩;clear f0 f1 f2 r0 au r1 az;obtain⟨Hf,f0,f1,f2⟩:=bP Hf ag;obtain⟨Hr,r0,au,r1,az⟩:=bE Hr ag;replace Hb:=aF Hb ag;clear ag;have HA:Hid (At w2 af (ps.flatMap mN)):=abS;have HP:Hid (jX w2 V (5*B+33) ps (jJ V (jA rows) V)):=adm;clear abS adm;go_wp2_with fail;refine(Cf.out _ Hb.out).mono ?_;rintro e w3 ⟨a0,c0,rfl,hp0,ag⟩;clear f0 f1 f2 r0 au r1 az;replace Hf:=kB Hf ag;replace Hr:=kB Hr ag;replace HA:=kA HA ag;replace HP:=aj (HP.out.below ag);obtain⟨f0,f1,f2⟩:=Hf.out.c3;obtain⟨r0,au,r1,az⟩:=Hr.out.g2;replace Hb:=aF Hb ag;clear ag;have HS:Hid (bJ w3 a0 c0 (S 0)):=hp0;clear hp0;obtain⟨E0,E1,E2,EA,EP⟩:=fU Hf.out Hr.out Hb.out HA.out HP.out;have lf:=Hf.out.lt;have lr:=Hr.out.lt;have JC:=Hb.out.size;replace Hb:Hid (Bw w3 w3):=Below.refl _ _;have FA:=f0;have FB:=f1;have FC:=f2;have azx:=Hf.out.lt;have UB:=Hr.out.lt;obtain⟨W4,rp,ag,dS⟩:=cF w3 24 [ah (V:Int),.slice a0 n0 c0];clear f0 f1 f2;replace Hf:=kB Hf ag;clear r0 au r1 az;replace Hr:=kB Hr ag;replace HA:=kA HA ag;replace HP:=aj (HP.out.below ag);replace HS:=aj (HS.out.below ag);obtain⟨f0,f1,f2⟩:=Hf.out.c3;obtain⟨r0,au,r1,az⟩:=Hr.out.g2;obtain⟨iY,kI,iZ,kJ⟩:=dS.out.g2;replace Hb:=aF Hb ag;clear ag;have lsm:=dS.out.lt;go_wp2_with fail;refine(PX.out _).mono ?_;rintro e w5 ⟨aq,cq,rfl,abT,ab7,ag⟩;clear f0 f1 f2 r0 au r1 az iY kI iZ kJ;replace Hf:=kB Hf ag;replace Hr:=kB Hr ag;replace HA:=kA HA ag;replace HP:=aj (HP.out.below ag);replace HS:=aj (HS.out.below ag);obtain⟨dS,iY,kI,iZ,kJ⟩:=bE dS ag;obtain⟨f0,f1,f2⟩:=Hf.out.c3;obtain⟨r0,au,r1,az⟩:=Hr.out.g2;replace Hb:=aF Hb ag;clear ag FA FB FC;have ahR:=aj abT;have Hnq:Hid (∀b o,aq=some ⟨b,o,none⟩->¬b=w3.heap.size):=λb o e h=>by have:=ab7 b o e;omega
 obtain⟨zN,YC,ahV⟩:=dc HS.out dS.out Hb.out;have NZ:=Hb.out.size;have ay5:=dS.out.lt;clear abT ab7 Hf Hr dS HA HP HS Hb f0 f1 f2 r0 au r1 az iY kI iZ kJ;go_wp2_with fail;go_loopw[59] (λx wr=>∃(k n9:Nat) (a9:Option Addr) (d9:Nat),k<=N/\x=ah (k:Int)/\(S k).length=n9/\aC wr w3.heap.size 24 [ah (V:Int),.slice a9 n9 d9]/\bJ wr a9 d9 (S k)/\Chg (λb=>b=w3.heap.size) w5 wr) (λx _=>N-(intOf x).toNat);case atStart=>exact⟨0,n0,a0,c0,Nat.zero_le _,rfl,qT.out,YC.out,zN.out,Chg.refl _ _⟩
 case round=>
  clear zN YC;obtain⟨k,n9,a9,d9,hk,rfl,HJ,pS,pP,pg⟩:=hrel;obtain⟨wk,hwk⟩:∃wk,wk=wr:=⟨_,rfl⟩;subst hwk;have hb3:=ahV.out.trans (pg.below (n:=w3.heap.size) zo (λb e=>by omega));have bW:=aV E2.out hb3;by_cases hlt:k<N
  . have hk2:k<R.length:=by rw[vR.out];exact hlt
    have kb9:k<cG.length:=by rw[Qe.out];exact hlt
    obtain⟨xk,hxk⟩:∃x,R[k]=x:=⟨_,rfl⟩;obtain⟨hxl,uu,_,lF⟩:=qV.out k hk2;rw[hxk]at hxl uu lF;have hat:=ahR.out.chg pg (λb o e=>Hnq.out b o e);have ry:At wk aq (R.flatMap λx=>[Value.string (bs (x.map UInt8.ofNat))]):=by rw[Gi];exact hat
    obtain⟨b0,o0,hab,yC⟩:=ry.elem (f:=λx=>[Value.string (bs (x.map UInt8.ofNat))]) (sz:=1) (λ_=>rfl) zd k hk2;obtain⟨l8,mC⟩:∃l,xk.map UInt8.ofNat=l:=⟨_,rfl⟩;have hs0:wk.cell? ⟨b0,o0+k,none⟩=some (ai l8):=by have:=yC 0 zd;rw[hxk,mC]at this;simpa using this
    have bK:=xo N cq k (k:Int) hab hlt rfl;rw[Nat.mul_one]at bK;have yI:l8.length=v1:=by rw[<-mC,List.length_map];exact hxl
    have GF:∀j (h:j<l8.length),l8[j].toNat=xk.getD j 0/\xk.getD j 0<=20:=λj h=>by
     have jx:j<xk.length:=by omega
     have e8:l8[j]=UInt8.ofNat xk[j]:=by
      have:l8[j]?=(xk.map UInt8.ofNat)[j]?:=by rw[mC]
      rw[List.getElem?_eq_getElem h,List.getElem?_eq_getElem (by simpa using jx)]at this;simpa using this
     have h20:=uu _ (List.getElem_mem jx);rw[e8,show xk.getD j 0=xk[j]by simp[jx]];exact⟨by simp;omega,h20⟩
    obtain⟨s,m,e,hx⟩:=rZ (cG[k]);obtain⟨bR,oR,Gz,n0',yY,yZ⟩:=(OC.out.below bW).num k kb9 hx;have Uq:=mG N rY k (k:Int) Gz hlt rfl;have hcn:=pE.out k kb9 s m e hx;have fG:=sZ.out k hlt;have kd:=HPn.out k;rw[lF]at fG kd;obtain⟨Q,hQ⟩:∃Q:Nat->Nat->List aR,PP k=Q:=⟨_,rfl⟩;have had:=qK.out k hlt;rw[hQ]at hcn fG kd had;obtain⟨nq,Tz⟩:∃n,(Q 0 0).length=n:=⟨_,rfl⟩;rw[Tz]at hcn;obtain⟨gZ,Fe,tj,eP,eJ,ww,uF,ah4,ai3,ajA,ahO,ajb⟩:=gy pg pS pP bW hb3 yI GF hcn fG kd had Tz;have PG:=aj HJ;have Hn:Hid (bY wk bR (oR+k*3) [ar s,ai m,ah e]):=kX n0' yY yZ;have Hf:Hid (aC wk w.heap.size 34 [ah (V:Int),ah (D:Int),.slice aB N rY]):=E0.out.below hb3;have JD:=pg.size;have lsk:=pS.lt;clear pg pS pP bW hb3 hxl uu lF hat ry yC mC yI GF n0' yY yZ Gz hcn fG kd had Tz hx hab hxk hQ HJ;have Hb:Hid (Bw wk wk):=Below.refl _ _;go_wp2_with fail;obtain⟨f0,f1,f2⟩:=Hf.out.c3;obtain⟨n0,n1,n2⟩:=Hn.out.w3;have fE:∀w',eu wk w'->aH w' (w.heap.size) 0 (ah (V:Int))/\aH w' (w.heap.size) 2 (.slice aB N rY)/\aH w' bR (oR+k*3) (ar s)/\aH w' bR (oR+k*3+1) (ai m)/\aH w' bR (oR+k*3+2) (ah e):=λw' h=>⟨cell_later h f0,cell_later h f2,cell_later h n0,cell_later h n1,cell_later h n2⟩;refine BR (λw'=>eu wk w') (λi=>Nat.blt i 13) 11 24 [ah 0,.slice none 0 0] [(0,true),(1,true),(2,true),(3,true),(4,true),(5,true),(6,true),(7,false),(8,true),(9,true),(10,true)] [(12,false),(13,false)] zk zk rfl rfl rfl zk zk zc zc (λK a w h=>BH rfl rfl (λK' hK=>by go_simp;exact hK _ _ h)) ?_;clear f0 f1 f2 n0 n1 n2 Hf Hn;intro wkf ag;replace Hb:=aj (aV Hb.out ag);refine⟨Hb.out,?_⟩;clear ag;iterate 7 (refine qD rfl rfl (v:=?_) (λw' hw'=>?_) ?_;rotate_left;(focus have hw':=fE w' hw';obtain⟨q0,q1,q2,q3,q4⟩:=hw';go_simp;try with_reducible rfl);try simp only[UU])
    refine nV rfl rfl (λK hK=>?_);go_simp;with_reducible refine(ah4.out _ (aV eP.out Hb.out)).mono ?_
    rintro e w9 ⟨a1,c1,rfl,hp1,hq⟩;refine hK _ _ hq (λw7 ag hb2=>?_);have qY:=aj (hp1.below hb2);clear hp1;replace Hb:=aj (aV Hb.out ag);refine⟨Hb.out,?_⟩;clear ag hb2 hq hK K;have HY:=qY;clear qY;try simp only[UU]
    iterate 3 (refine qD rfl rfl (v:=?_) (λw' hw'=>?_) ?_;rotate_left;(focus go_simp;try with_reducible rfl);try simp only[UU])
    intro vJ hb0 qx;have iQ:=aj qx;clear qx;obtain⟨sI,Dc,sJ,Dd⟩:=iQ.out.g2;try simp only[U1]
    try simp only[Act.put,U2,U3]
    refine aW rfl rfl (λK hK=>?_);go_simp;refine hK _ _ (λ_=>by first|exact((Hb.out.setCell zp _).setCell zp _) |exact(((Hb.out.setCell zp _).setCell zp _).setCell zp _)) ?_;clear hK K;try simp only[UU]
    refine aW rfl rfl (λK hK=>?_);go_simp;refine hK _ _ (λh=>absurd h zd) ?_;clear hK K;try simp only[UU]
    simp only[bD];clear hs0 bK Uq fE;obtain⟨W8,wR⟩:=aK ((w7.setCell ⟨vJ,0,none⟩ (ah (V:Int))).setCell ⟨vJ,1,none⟩ (.slice a1 nq c1));have TN:aC W8 vJ 24 [ah (V:Int),.slice a1 nq c1]:=by rw[<-wR];exact(iQ.out.set 0 _).set 1 _
    have hY8:bJ W8 a1 c1 (Q 0 0):=by rw[<-wR];exact HY.out.store iQ.out zd _ _
    have fQ:Bw wk W8:=by rw[<-wR];exact(Hb.out.setCell zp _).setCell zp _
    rw[wR];obtain⟨cb,W9,hcv,eQ,hs9,jY⟩:=NT l8 W8;rw[ww.out]at hcv;have lpt:=TN.lt;obtain⟨Yq,Xl,JZ,pD⟩:=eN (TN.below eQ) (hY8.below eQ) (aV fQ eQ) jY;have sz9:=(aV fQ eQ).size;clear TN hY8 fQ eQ jY hs9 iQ HY Hb sI Dc sJ Dd wR;go_wp2_with fail;go_loopw[14,78] (λVC x wr=>∃(j np:Nat) (ap:Option Addr) (dp:Nat) (v:Value),j<=v1/\x=ah (j:Int)/\v=VC/\v=ah 0/\(Q j 0).length=np/\aC wr vJ 24 [ah (V:Int),.slice ap np dp]/\bJ wr ap dp (Q j 0)/\Chg (λb=>b=vJ) W9 wr) (λ_ x _=>v1-(intOf x).toNat);case atStart=>exact⟨0,nq,a1,c1,_,Nat.zero_le _,rfl,rfl,rfl,ajb.out,Yq.out,Xl.out,Chg.refl _ _⟩
    case round=>
     clear Xl Yq hcv;obtain⟨j,np,ap,dp,v,hj,rfl,rfl,rfl,pY,pB,pP,pg⟩:=hrel;by_cases bM:j<v1
     . have j8:j<l8.length:=by rw[ww.out];exact bM
       have jV:j<=V:=by have:=CB.out;omega
       obtain⟨hq1,hq2⟩:=uF.out j j8;have kd:=ajA.out j;have fG:=ai3.out j jV;obtain⟨q,hq⟩:=aK (xk.getD j 0);rw[hq]at hq1 hq2 kd fG;have m0:wr.cell? ⟨W8.heap.size,j,none⟩=some (.int .u8 (q:Int)):=pg.cell (by rw[(pD.out j j8).1,hq1]) (by show ¬W8.heap.size=vJ;omega);have xp:=sF v1 cb j (j:Int) (rfl:(some ⟨W8.heap.size,0,none⟩:Option Addr)=_) bM rfl;rw[Nat.zero_add,Nat.mul_one]at xp;have jps:j<ps.length:=by omega
       obtain⟨a2,c2,TK,hp2⟩:=wn.out w3 ps EP.out j jps;obtain⟨n2,jf⟩:∃n,(Fs j).length=n:=⟨_,rfl⟩;rw[jf]at TK;obtain⟨ai1,ajz,xU,Ct,Hpj,gY,tj,gZ,Kr⟩:=DZ fG kd hp2 jf TK pB pP pg pY;clear fG kd hp2 jf TK pB pP pg pY hq hq1;go_wp2_with fail;go_loopw[14,17] (λVC x wr=>∃(kk np:Nat) (ap:Option Addr) (dp:Nat) (v:Value),kk<=q/\x=.int .u8 (kk:Int)/\v=VC/\v=ah 0/\(Q j kk).length=np/\aC wr vJ 24 [ah (V:Int),.slice ap np dp]/\bJ wr ap dp (Q j kk)/\Chg (λb=>b=vJ) W9 wr) (λ_ x _=>q-(intOf x).toNat);case atStart=>exact⟨0,np,ap,dp,_,Nat.zero_le _,rfl,rfl,rfl,Kr.out,gY.out,tj.out,gZ.out⟩
       case round=>
        clear gY tj gZ Kr m0 xp;obtain⟨kk,np,ap,dp,v,hkk,rfl,rfl,rfl,pY,pB,pP,pg⟩:=hrel;by_cases gL:kk<q
        . have hbk:=JZ.out.trans (pg.below (n:=wk.heap.size) zo (λb e=>by omega));have AO:=aV eJ.out hbk;obtain⟨bF,oF,hab,Ue⟩:=EA.out.aBm j jps Hpj.out;have lbF:bF<w3.heap.size:=World.block_lt_of_cell? w3 _ (Ue.cell 0 zm);have cw:=(show bY w3 bF (oF+j*2) [ah (V:Int),.slice a2 n2 c2]from Ue).below AO;have ixF:=yQ v1 cf j (j:Int) hab bM rfl;obtain⟨mq,DF⟩:∃n,(Q j (kk+1)).length=n:=⟨_,rfl⟩;have fG:=ai1.out kk gL np n2 mq pY Ct.out DF ap dp a2 c2;have pV:=HT.out.below (aV E2.out AO);have hG:=xU.out.below AO;have hwu:IntKind.u8.wrap ((kk:Int)+1)=((kk+1:Nat):Int):=by rw[IntKind.wrap_u8];omega
          have hkq:(kk:Int)<(q:Int):=by omega
          obtain⟨ai2,Hmq,gZ,fN,tj⟩:=fU fG DF pg pV pP;have wm:Hid (bY wr bF (oF+j*2) [ah (V:Int),.slice a2 n2 c2]):=cw;have iQ:Hid (aC wr vJ 24 [ah (V:Int),.slice ap np dp]):=pB;have iu:=pg.size;have HG0:=aj hG;clear fG DF pg pV pP cw Ue pB hbk AO hab pY hG;have Hb:Hid (Bw wr wr):=Below.refl _ _;obtain⟨sI,Dc,sJ,Dd⟩:=iQ.out.g2;obtain⟨jI,je⟩:=wm.out.w2;have HO:Hid (bJ wr ap dp (Q j kk)):=tj.out;have HG:Hid (bJ wr a2 c2 (Fs j)):=HG0.out;have HU:Hid (aO wr):=fN.out;go_wp2_with fail;refine cg (λw'=>aH w' bF (oF+j*2) (ah (V:Int))/\aH w' bF (oF+j*2+1) (.slice a2 n2 c2)) (λi=>Nat.blt i 11) [(1,true),(2,true),(3,true),(4,true),(0,false),(5,false),(6,false),(7,true),(8,true),(9,true),(10,false),(11,false)] zk zk rfl zk zc ⟨jI,je⟩ ?_;iterate 4 (refine pT rfl rfl ?_ (by intro w' ⟨q0,q1⟩;go_simp;try with_reducible rfl);try simp only[UU])
          refine aW rfl rfl (λK hK=>?_);go_simp;refine hK _ _ (λ_=>⟨jI,je⟩) ?_;clear hK K;try simp only[UU]
          refine aW rfl rfl (λK hK=>?_);go_simp;refine hK _ _ (λ_=>⟨aX jI,aX je⟩) ?_;clear hK K;try simp only[UU]
          refine cn (λCG=>aC CG (wr.heap.size) 24 [ah (V:Int),.slice ap np dp,ah (V:Int),.slice a2 n2 c2]/\Bw wr CG) (by first|exact dZ|exact ej) ?_;rintro CG ⟨qd,ag⟩;clear sI Dc sJ Dd jI je;have az7:=iQ.out.lt;replace iQ:=kB iQ ag;replace wm:=kW wm ag;replace HO:=aj (HO.out.below ag);replace HG:=aj (HG.out.below ag);replace HU:=kT HU ag;have Hd:=aj qd;clear qd;obtain⟨sI,Dc,sJ,Dd⟩:=iQ.out.g2;obtain⟨jI,je⟩:=wm.out.w2;obtain⟨d0,d1,d2,d3⟩:=Hd.out.c4;replace Hb:=aF Hb ag;clear ag;refine aW rfl rfl (λK hK=>?_);go_simp;with_reducible refine(ai2.out _ _ Hd.out HO.out HG.out HU.out).mono ?_
          rintro e jU ⟨a9,d9,rfl,jy,hq⟩;have ag:Bw CG jU:=by first|exact hq|exact bo hq
          clear sI Dc sJ Dd jI je d0 d1 d2 d3;replace iQ:=kB iQ ag;replace wm:=kW wm ag;replace HO:=aj (HO.out.below ag);replace HG:=aj (HG.out.below ag);replace HU:=kT HU ag;obtain⟨Hd,d0,d1,d2,d3⟩:=dK Hd ag;obtain⟨sI,Dc,sJ,Dd⟩:=iQ.out.g2;obtain⟨jI,je⟩:=wm.out.w2;replace Hb:=aF Hb ag;clear ag;have HZ:=aj jy;clear jy;refine hK _ _ (λ_=>⟨jI,je⟩) ?_;clear hK K;try simp only[UU]
          iterate 3 (refine pT rfl rfl ?_;try simp only[UU])
          refine aW rfl rfl (λK hK=>?_);go_simp;refine hK _ _ (by first|exact λh=>absurd h zd|exact λ_=>⟨jI,je⟩ |exact λ_=>⟨(by first|exact jI|exact aU zf jI|exact aU zf (aU zf jI) |exact aU zf (aU zf (aU zf jI))),(by first|exact je|exact aU zf je|exact aU zf (aU zf je) |exact aU zf (aU zf (aU zf je)))⟩) ?_;clear hK K;try simp only[UU]
          refine aW rfl rfl (λK hK=>?_);go_simp;refine hK _ _ (λh=>absurd h zd) ?_;clear hK K;try simp only[UU]
          simp only[bD];go_wp2;go_roundw;case rel=>exact⟨kk+1,mq,a9,d9,_,by omega,by go_num,rfl,rfl,Hmq.out,(iQ.out.set 0 _).set 1 _,HZ.out.store iQ.out zd _ _,((gZ.out.aBh Hb.out).set rfl _).set rfl _⟩
          case measure=>simp[intOf];omega
        . obtain rfl:kk=q:=by omega
          rw[ajz.out]at pY pP;obtain⟨gY,tj,gZ,Kr⟩:=eN pB pP pg pY;clear pB pP pg pY;go_wp2;go_roundw;case rel=>exact⟨j+1,np,ap,dp,_,by omega,by go_num,rfl,rfl,Kr.out,gY.out,tj.out,gZ.out⟩
          case measure=>simp[intOf];omega
     . obtain rfl:j=v1:=by omega
       have hbk:=JZ.out.trans (pg.below (n:=wk.heap.size) zo (λb e=>by omega));have AO:=aV eJ.out hbk;obtain⟨ms,Ba⟩:∃n,(S (k+1)).length=n:=⟨_,rfl⟩;have had:=ahO.out n9 np ms PG.out pY Ba a9 d9 ap dp;have pV:=HT.out.below (aV E2.out AO);have hP9:=tj.out.below hbk;have dS:Hid (aC wr w3.heap.size 24 [ah (V:Int),.slice a9 n9 d9]):=Fe.out.below hbk;have iQ:Hid (aC wr vJ 24 [ah (V:Int),.slice ap np dp]):=pB;obtain⟨ahN,Hms,fN,HP9,HPp,sX⟩:=gP had Ba pV hP9 pP hbk;clear had Ba pV hP9 pP pB hbk AO pY pg tj Fe;have Hb:Hid (Bw wr wr):=Below.refl _ _;obtain⟨iY,kI,iZ,kJ⟩:=dS.out.g2;obtain⟨sI,sJ⟩:=iQ.out.c2;have HO:Hid (bJ wr a9 d9 (S k)):=HP9.out;have HG:Hid (bJ wr ap dp (Q j 0)):=HPp.out;have HU:Hid (aO wr):=fN.out;have QE:=iY;have QF:=iZ;have aku:=sI;have akv:=sJ;have arA:=dS.out.lt;have az8:=iQ.out.lt;obtain⟨W12,ao0,ag,Hd⟩:=cF wr 24 [ah (V:Int),.slice a9 n9 d9,ah (V:Int),.slice ap np dp];clear iY kI iZ kJ;replace dS:=kB dS ag;clear sI sJ;replace iQ:=kB iQ ag;replace HO:=aj (HO.out.below ag);replace HG:=aj (HG.out.below ag);replace HU:=kT HU ag;obtain⟨iY,kI,iZ,kJ⟩:=dS.out.g2;obtain⟨sI,sJ⟩:=iQ.out.c2;obtain⟨d0,d1,d2,d3⟩:=Hd.out.c4;replace Hb:=aF Hb ag;clear ag;go_wp2_with fail;refine(ahN.out _ _ Hd.out HO.out HG.out HU.out).mono ?_;rintro e qG ⟨a8,d8,rfl,yM,ag⟩;clear iY kI iZ kJ sI sJ d0 d1 d2 d3;replace dS:=kB dS ag;replace iQ:=kB iQ ag;replace HO:=aj (HO.out.below ag);replace HG:=aj (HG.out.below ag);replace HU:=kT HU ag;obtain⟨Hd,d0,d1,d2,d3⟩:=dK Hd ag;obtain⟨iY,kI,iZ,kJ⟩:=dS.out.g2;obtain⟨sI,sJ⟩:=iQ.out.c2;replace Hb:=aF Hb ag;clear ag QE QF aku akv;have Ph:Hid (Chg (λb=>b=w3.heap.size) w5 qG):=gZ.out.aBh (aV sX.out Hb.out);have PR:=aj yM;clear yM;go_wp2;go_roundw;case rel=>exact⟨k+1,ms,a8,d8,by omega,by go_num,Hms.out,(dS.out.set 0 _).set 1 _,PR.out.store dS.out zd _ _,(Ph.out.set rfl _).set rfl _⟩
       case measure=>simp[intOf];omega
  . obtain rfl:k=N:=by omega
    rw[HC.out]at HJ pP;have dS:Hid (aC wk w3.heap.size 24 [ah (V:Int),.slice a9 n9 d9]):=pS;have Hr:Hid (aC wk (w.heap.size+1) 24 [ah 0,.slice none 0 0]):=E1.out.below hb3;have Hb:Hid (Bw w wk):=bW;obtain⟨tj,PG⟩:=aZ pP HJ;clear pS pg bW hb3 pP HJ;obtain⟨iY,iZ⟩:=dS.out.c2;obtain⟨r0,au,r1,az⟩:=Hr.out.g2;go_wp2;have h9:=tj.out.store Hr.out zd (ah (V:Int)) (.slice a9 n9 d9);refine fJ (λw9=>bJ w9 a9 d9 C/\aC w9 (w.heap.size+1) 24 [ah (V:Int),.slice a9 n9 d9]/\Bw w w9) ⟨h9,(Hr.out.set 0 _).set 1 _,(Hb.out.setCell zp _).setCell zp _⟩ ?_;rintro w9 ⟨q1,q2,q3⟩;obtain⟨x0,x1⟩:=q2.c2;exact bodyPost_ret (v:=.tuple #[.agg #[ah (V:Int),.slice a9 n9 d9],ah 0]) (by simp[results,Tryz.results27,go_sem,x0,x1]) rfl ⟨a9,d9,by rw[PG.out],q1,q3⟩
theorem al8 (l:List UInt8)(c:UInt8):bs l++bs [c]=bs (l++[c]):=by unfold bs;apply ByteArray.ext;simp
theorem atY (l:List UInt8)(a:Option Addr)(cap n:Nat)(w:World)(hn:l.length=n)(hl:n<=1048576)(hall:∀c∈l,c.toNat<=127)(ha:At w a (ij l)):
 Calls Tryz.prog 121 #[.slice a n cap] w λe w'=>e=.returned (.tuple #[ai l,ah 0])/\Bw w w':=by
 rw[<-LH]at ha;obtain⟨Hn,ov,Ha⟩:=dc hn hall ha;clear hn hall ha;have Hb:Hid (Bw w w):=Below.refl _ _;go_enter Tryz.func121,Tryz.ntmps121;go_wp2_with fail;go_loopw[4,5] (λs4 x wr=>∃(k:Nat) (v:Value),k<=n/\x=ah (k:Int)/\v=s4/\v=ai (l.take k)/\Bw w wr) (λ_ x _=>n-(intOf x).toNat);case atStart=>exact⟨0,_,Nat.zero_le _,rfl,rfl,rfl,Hb.out⟩
 case round=>
  clear Hb;obtain⟨k,v,hk,rfl,rfl,rfl,pb⟩:=hrel;by_cases hlt:k<n
  . have h1:k<l.length:=by rw[Hn.out];exact hlt
    have hc:=ov.out _ (List.getElem_mem h1);obtain⟨b,o,hab,hce⟩:=(Ha.out.below pb).elem (f:=λc:UInt8=>[Value.int .i64 (c.toNat:Int)]) (sz:=1) (λ_=>rfl) zd k h1;have bK:=IP n cap k (k:Int) hab hlt rfl;rw[Nat.mul_one]at bK;obtain⟨c,hcc⟩:=aK (l[k]);rw[hcc]at hc hce;obtain⟨cc,SN⟩:∃cc:Int,(c.toNat:Int)=cc:=⟨_,rfl⟩;have Hp:Hid (bY wr b (o+k) [ah cc]):=λj hj=>by
     obtain rfl:j=0:=by simp at hj;omega
     have:=hce 0 zd;rw[Nat.mul_one]at this;simpa[SN]using this
    obtain⟨u,hu⟩:=aK (bs (l.take k));obtain⟨y,hy⟩:=aK (bs [c]);have apg:u++y=bs (l.take (k+1)):=by rw[<-hu,<-hy,al8,List.take_succ_eq_append_getElem h1,hcc]
    have apZ:¬9223372036854775807<u.size+y.size:=by rw[<-hu,<-hy,jd,jd,List.length_take];simp;omega
    have h0:¬cc<0:=by omega
    have aoz:¬127<cc:=by omega
    have ub:IntKind.u8.wrap cc=cc:=by rw[IntKind.wrap_u8];omega
    unfold ai;rw[hu];obtain⟨bj,Hy,Cg⟩:=dc pb hy SN;have iu:=pb.size;clear pb hc hce hcc SN hab hu hy;have Hb:Hid (Bw wr wr):=Below.refl _ _;have p0:=Hp.out.w1;have FD:=p0;obtain⟨W2,nk,ag,Hd⟩:=cF wr 5 [.int .u8 cc];clear p0;replace Hp:=kW Hp ag;have p0:=Hp.out.w1;have d0:=Hd.out.c1;replace Hb:=aF Hb ag;clear ag;have hcv:(convert 84 9 (.slice (some ⟨wr.heap.size,0,none⟩) 1 1)).run Tryz.prog W2=.ok (.string y) W2:=by rw[<-Hy.out];exact avO (l:=[c]) (by rw[show FW [c]=[.int .u8 cc]by rw[<-Cg.out];rfl];exact Hd.out) 1
    go_wp2;clear FD;go_roundw;case rel=>exact⟨k+1,_,by omega,by go_num,rfl,rfl,(bj.out.trans (Hb.out.mono iu))⟩
    case measure=>simp[intOf];omega
  . obtain rfl:k=n:=by omega
    rw[List.take_of_length_le (by rw[Hn.out];exact Nat.le_refl _)];have bj:=aj pb;clear pb;go_wp2;refine bodyPost_ret (v:=.tuple #[ai l,ah 0]) (by simp[results,Tryz.results121,go_sem]) rfl ⟨rfl,bj.out⟩
theorem atX (a b:List UInt8)(n:Nat)(w:World)(jN:a.length=n)(hlb:b.length=n)(hl:n<=1048576)(ha:∀c∈a,c.toNat<=127)(hb:∀c∈b,c.toNat<=127)(hs:∀i,i<n->(a.getD i 0).toNat+(b.getD i 0).toNat<=127):
 Calls Tryz.prog 80 #[ai a,ai b] w λe w'=>e=.returned (.tuple #[ai (fp a b),ah 0])/\Bw w w':=by
 obtain⟨i0,hi,hz0,hz1,hz2⟩:=info_parts Tryz.aBu;have AZ:=λW=>Vu a (n:Int) W zo;have hmb:=λW=>Vu b (n:Int) W zo;rw[UG jN ha]at AZ;rw[UG hlb hb]at hmb;have hsz:(bs a).size=n:=by rw[jd,jN]
 have hof:=λ(A:Option Addr) (c:Nat) (W:World) (h:At W A (ij (fp a b)))=>atY (fp a b) A c n W (CH a b n jN hlb) hl (QO a b n jN hlb hs) h;have hlM:=CH a b n jN hlb;have hgM:∀k (h:k<a.length) (h2:k<b.length) (h3:k<(fp a b).length),((fp a b)[k]).toNat=a[k].toNat+b[k].toNat/\a[k].toNat+b[k].toNat<=127:=λk h h2 h3=>by have h4:=hs k zo;have h5:=QN a b k h3 zo;rw[show a.getD k 0=a[k]by simp[h],show b.getD k 0=b[k]by simp[h2]]at h4 h5;exact⟨h5,h4⟩
 obtain⟨Hi,dz,dA,dh,Py,Pz,pI,XY,HgM,fZ,gg⟩:=aqP hi hz0 hz1 hz2 AZ hmb hof hlM hgM jN hlb;clear hi hz0 hz1 hz2 AZ hmb hof hlM hgM jN hlb ha hb hs;have Hb:Hid (Bw w w):=Below.refl _ _;go_enter Tryz.func80,Tryz.ntmps80;go_wp2_with fail;refine(Py.out _).mono ?_;rintro e w1 ⟨rfl,ag⟩;replace Hb:=aF Hb ag;clear ag;go_wp2_with fail;refine(Pz.out _).mono ?_;rintro e w2 ⟨rfl,ag⟩;replace Hb:=aF Hb ag;clear ag;go_wp2_with fail;go_loopw[6,7] (λs6 x wr=>∃(k:Nat) (v:Value),k<=n/\x=ah (k:Int)/\v=s6/\wr.ownsRow w.heap.size 3 1 v k (ij ((fp a b).take k))/\Bw w wr) (λ_ x _=>n-(intOf x).toNat);case atStart=>exact⟨0,_,Nat.zero_le _,rfl,rfl,World.ownsRow_nil _ _ _ _,Hb.out⟩
 case round=>
  clear Hb;obtain⟨k,v,hk,rfl,rfl,ho,pb⟩:=hrel;by_cases hlt:k<n
  . have h1:k<a.length:=by rw[fZ.out];exact hlt
    have h2:k<b.length:=by rw[gg.out];exact hlt
    have h3:k<(fp a b).length:=by rw[XY.out];exact hlt
    obtain⟨hg,hg2⟩:=HgM.out k h1 h2 h3;have ix:=vD a (k:Int) k h1 rfl;have Bp:=vD b (k:Int) k h2 rfl;obtain⟨x,hx⟩:∃x:Int,(a[k].toNat:Int)=x:=⟨_,rfl⟩;obtain⟨y,hy⟩:∃y:Int,(b[k].toNat:Int)=y:=⟨_,rfl⟩;obtain⟨Z,hZ⟩:∃Z:Int,(((fp a b)[k]).toNat:Int)=Z:=⟨_,rfl⟩;have hwx:IntKind.i64.wrap x=x:=by rw[IntKind.wrap_i64];omega
    have Nb:IntKind.i64.wrap y=y:=by rw[IntKind.wrap_i64];omega
    have hwz:IntKind.i64.wrap (x+y)=Z:=by rw[IntKind.wrap_i64];omega
    have cB:Hid (ij ((fp a b).take (k+1))=ij ((fp a b).take k)++[ah Z]):=by
     show _=_
     rw[List.take_succ_eq_append_getElem h3,aar,<-hZ];rfl
    rw[hx]at ix;rw[hy]at Bp;obtain⟨Ho,bj⟩:=aZ ho pb;have iu:=pb.size;clear ho pb hg hg2 hx hy hZ;have Hb:Hid (Bw wr wr):=Below.refl _ _;go_wp2_with fail;refine cg (λw'=>True) (λi=>Nat.blt i 100000) [(0,true),(1,true),(2,true),(3,true),(4,true),(5,true),(6,true),(7,true),(8,true),(9,true),(10,false),(11,false),(12,true)] zk zk rfl zk zc True.intro ?_;iterate 10 (refine pT rfl rfl ?_;try simp only[UU])
    refine aW rfl rfl (λK hK=>?_);go_simp;refine hK _ _ (λ_=>True.intro) ?_;clear hK K;try simp only[UU]
    refine cn (λW5=>aC W5 (wr.heap.size) 3 [ah Z]/\Bw wr W5) (by first|exact dZ|exact ej) ?_;rintro W5 ⟨qd,ag⟩;have Hd:=aj qd;clear qd;have d0:=Hd.out.c1;replace Hb:=aF Hb ag;clear ag;refine aW rfl rfl (λK hK=>?_);have dQ:=ownsRow_below Ho.out Hb.out;have hs3:=Hb.out.size;refine wp_append_own _ _ _ 154 rfl w.heap.size 3 i0 _ 1 8 Tryz.underlying154 Hi.out dz.out dA.out dh.out rfl zd v k (ij ((fp a b).take k)) rfl dQ ⟨wr.heap.size,0,none⟩ 1 1 [ah Z] rfl rfl (iz Hd.out) zy zx zo zo ?_;intro v' w8 eV bT _;refine hK _ _ (λ_=>True.intro) ?_;clear hK K;try simp only[UU]
    have fQ:=(aV bj.out Hb.out).grown bT zo (λj e=>dL dQ j e);rw[<-cB.out]at eV;obtain⟨ja,iP⟩:=aZ fQ eV;refine pT rfl rfl ?_;try simp only[UU]
    simp only[bD];clear dQ eV bT fQ d0;go_wp2;go_roundw;case rel=>exact⟨k+1,v',by omega,by go_num,rfl,iP.out,ja.out⟩
    case measure=>simp[intOf];omega
  . obtain rfl:k=n:=by omega
    rw[List.take_of_length_le (by rw[XY.out];exact Nat.le_refl _)]at ho;obtain⟨A,c,rfl,hat,_⟩:=dU ho;obtain⟨gF,Hb⟩:=aZ hat pb;clear ho hat pb;go_wp2_with fail;refine(pI.out A c _ gF.out).mono ?_;rintro e w6 ⟨rfl,ag⟩;replace Hb:=aF Hb ag;clear ag;go_wp2;refine bodyPost_ret (v:=.tuple #[ai (fp a b),ah 0]) (by simp[results,Tryz.results80,go_sem]) rfl ⟨rfl,Hb.out⟩
theorem auO (V B d e n n':Nat)(a a':Option Addr)(cap cap':Nat)(ta tb C:List aR)(w:World)(hn:ta.length=n)(hn':tb.length=n')(ue:fW V d ta)(yE:fW V e tb)(hV:V<=12)(Mv:d+e<=127)(jM:∀t∈ta,gB t.2/\Sm B (aM t.2))(jZ:∀t∈tb,gB t.2/\Sm B (aM t.2))(hl:n*n'<=4096)(uh:n<=4096)(hl2:n'<=4096)(hB:2*B+4096<=16384)(ha:At w a (ta.flatMap aY))(ha':At w a' (tb.flatMap aY))(hC:bU (iL ta tb)=C):
 Calls Tryz.prog 34 #[.agg #[ah (V:Int),.slice a n cap],.agg #[ah (V:Int),.slice a' n' cap']] w λex w'=>∃a9 c9,ex=.returned (.tuple #[.agg #[ah (V:Int),.slice a9 C.length c9],ah 0])/\bJ w' a9 c9 C/\Bw w w':=by
 obtain⟨i0,hi,hz0,hz1,hz2⟩:=info_parts Tryz.aBl;have Ba:∀t∈iL ta tb,Sm (2*B) (aM t.2):=λt ht=>(UK (λt h=>(jM t h).2) (λt h=>(jZ t h).2) t ht).mono zo;have rC:∀t∈iL ta tb,gB t.2:=λt ht=>by have h:=Ba t ht;obtain⟨x,hx,y,hy,rfl⟩:=Ny ht;rw[cN]at h;exact h.aBj zo
 have lD:=λW a1 c1 (h:At W a1 ((iL ta tb).flatMap aY))=>NM V a1 (n*n') c1 (iL ta tb) (2*B) W (by rw[UJ,hn,hn']) hl h rC Ba zo;rw[hC]at lD;have hu0:=Wi ta tb;have hun:=λk (h:k<n)=>agq ta tb k zo;have Iz:=λk j (h:j<tb.length)=>agr ta tb k j h;have htl:ta.take n=ta:=List.take_of_length_le zo;have jv:∀k (h:k<ta.length),ta.getD k zT=ta[k]:=λk h=>by simp[h]
 rw[hn']at hun;obtain⟨Hi,dz,dA,dh,qR,Fv,Qo,Qr,Ac,xQ,Hn,Cs⟩:=gy hi hz0 hz1 hz2 lD hu0 hun Iz htl jv hn hn';obtain⟨fI,jD,vX,vY,Ha,rQ⟩:=gP ue yE jM jZ ha ha';clear hi hz0 hz1 hz2 rC Ba lD hu0 hun Iz htl jv hn hn' ue yE jM jZ ha ha' hC;have hnm:¬(65536:Int)<IntKind.i64.wrap ((n:Int) * (n':Int)):=by
  have:((n:Int) * (n':Int))<=4096:=by exact_mod_cast hl
  have:0<=((n:Int) * (n':Int)):=by exact_mod_cast Nat.zero_le _
  rw[IntKind.wrap_i64];omega
 have Hb:Hid (Bw w w):=Below.refl _ _;go_enter Tryz.func34,Tryz.ntmps34;go_wp2_with fail;obtain⟨R,hR⟩:∃R:World->Prop,(λW=>aC W (w.heap.size) 24 [ah (V:Int),.slice a n cap]/\aC W (w.heap.size+1) 24 [ah (V:Int),.slice a' n' cap']/\aC W (w.heap.size+1+1) 24 [ah 0,.slice none 0 0]/\Bw w W)=R:=⟨_,rfl⟩;first|refine cj R ?hR ?_|refine cu R ?hR ?_
 case hR=>subst hR;exact⟨(((aC.newAt w _ _ (b:=w.heap.size) rfl).alloc _).alloc _),((aC.newAt (w.alloc _) _ _ (b:=w.heap.size+1) zm).alloc _),(aC.newAt ((w.alloc _).alloc _) _ _ (b:=w.heap.size+1+1) zm),((zl.alloc zj _).alloc zj _)⟩
 subst hR;rintro W ⟨qp,qq,qr,ag⟩;have Hp:=aj qp;clear qp;have Hq:=aj qq;clear qq;have Hr:=aj qr;clear qr;obtain⟨p0,p1⟩:=Hp.out.c2;obtain⟨q0,q1⟩:=Hq.out.c2;obtain⟨r0,au,r1,az⟩:=Hr.out.g2;replace Hb:=aF Hb ag;clear ag;have lV:=Hp;have xY:=Hq;have jG:=Hr;have dG:=Hb;have lpk:=lV.out.lt;have lqk:=xY.out.lt;have Es:=dG.out.size;go_wp2_with fail;go_loopw[6,7] (λs6 x wr=>∃(k:Nat) (v:Value),k<=n/\x=ah (k:Int)/\v=s6/\wr.ownsRow W.heap.size 67 4 v (k*n') ((iL (ta.take k) tb).flatMap aY)/\Bw W wr) (λ_ x _=>n-(intOf x).toNat);case atStart=>exact⟨0,_,Nat.zero_le _,rfl,rfl,by rw[Nat.zero_mul];exact World.ownsRow_nil _ _ _ _,Below.refl _ _⟩
 case round=>
  clear p0 p1 q0 q1 r0 au r1 az Hp Hq Hr Hb;obtain⟨k,v,hk,rfl,rfl,ho,pb⟩:=hrel;obtain⟨wo,hwo⟩:∃wo,wo=wr:=⟨_,rfl⟩;subst hwo;have bW:=aV dG.out pb;by_cases hlt:k<n
  . have hk2:k<ta.length:=by rw[Hn.out];exact hlt
    obtain⟨l,s,m,ex,hx⟩:∃l s m e,ta[k]=(l,s,m,e):=⟨_,_,_,_,rfl⟩;obtain⟨b,o,hab,cw⟩:=Ha.out.term k hk2 hx;have lbb:b<w.heap.size:=World.block_lt_of_cell? w _ (cw.cell 0 zm);have bK:=im n cap k (k:Int) hab hlt rfl;have jv:=xQ.out k hk2;rw[hx]at jv;have dP:=vX.out _ (List.getElem_mem hk2);have AU:=fI.out _ (List.getElem_mem hk2);rw[hx]at dP AU;rw[<-Fv.out]at ho;have Iy:=Qo.out k hlt;have Ht0:Hid (bY w b (o+k*4) [ai l,ar s,ai m,ah ex]):=cw;obtain⟨Ho,bj,Hgx,fx,EO,Qp,Hp,Hq⟩:=rG ho pb jv dP AU Iy (lV.out.below pb) (xY.out.below pb);clear ho pb jv dP AU Iy hx hab cw bW;obtain⟨p0,p1⟩:=Hp.out.c2;obtain⟨q0,q1⟩:=Hq.out.c2;go_wp2_with fail;go_loopw[6,8] (λs6 x wr=>∃(j:Nat) (v2:Value),j<=n'/\x=ah (j:Int)/\v2=s6/\wr.ownsRow W.heap.size 67 4 v2 (k*n'+j) ((om ta tb k j).flatMap aY)/\Bw W wr) (λ_ x _=>n'-(intOf x).toNat);case atStart=>exact⟨0,v,Nat.zero_le _,rfl,rfl,Ho.out,bj.out⟩
    case round=>
     clear p0 p1 q0 q1 Hp Hq Ho bj;obtain⟨j,v2,hj,rfl,rfl,ho,pb⟩:=hrel;have bW:=aV dG.out pb;obtain⟨Hp,Hq⟩:=aZ (lV.out.below pb) (xY.out.below pb);by_cases bM:j<n'
     . have gK:j<tb.length:=by rw[Cs.out];exact bM
       obtain⟨l',s',m',tM,hy⟩:∃l s m e,tb[j]=(l,s,m,e):=⟨_,_,_,_,rfl⟩;obtain⟨b',o',rq,mF⟩:=rQ.out.term j gK hy;have ayW:b'<w.heap.size:=World.block_lt_of_cell? w _ (mF.cell 0 zm);have Tf:=im n' cap' j (j:Int) rq bM rfl;have gJ:=vY.out _ (List.getElem_mem gK);have hdy:=jD.out _ (List.getElem_mem gK);have rD:=Qr.out k j gK;rw[Hgx.out,hy]at rD;rw[hy]at gJ hdy;obtain⟨D,hD⟩:=aK (aM (s,m,ex) *aM (s',m',tM));simp only at rD gJ hdy;rw[hD]at rD;have l1:=(xu EO.out.1);have l2:=(xu hdy.1);have hmm:=λW=>atX l l' V W l1.1 l2.1 zo l1.2 l2.2 (λi _=>by have:=BO l i;have:=BO l' i;have h8:iM l<=d:=EO.out.2;have h9:iM l'<=e:=hdy.2;omega);obtain⟨L,hL⟩:=aK (fp l l');rw[hL]at hmm rD;have fG:=λW=>afx s m ex s' m' tM D hD W fx.out.1 gJ.1;obtain⟨Ht,Hu,Ho,bj,cB,PD,sZ⟩:=lG (Ht0.out.below bW) ((show bY w b' (o'+j*4) [ai l',ar s',ai m',ah tM]from mF).below bW) ho pb rD hmm fG;have VO:=pb.size;clear ho pb rD hmm fG mF rq gJ hdy hD hL hy l1 l2 bW;have Hb:Hid (Bw wr wr):=Below.refl _ _;obtain⟨p0,p1⟩:=Hp.out.c2;obtain⟨q0,q1⟩:=Hq.out.c2;obtain⟨t0,t1,t2,t3⟩:=Ht.out.w4;obtain⟨u0,u1,u2,u3⟩:=Hu.out.w4;go_wp2_with fail;refine cg (λw'=>aH w' (w.heap.size) 1 (.slice a n cap)/\aH w' (w.heap.size+1) 1 (.slice a' n' cap')/\aH w' b (o+k*4) (ai l)/\aH w' b' (o'+j*4) (ai l')) (λi=>Nat.blt i 100000) [(0,true),(1,true),(2,true),(3,true),(4,true),(5,true),(6,true),(7,true),(8,true),(9,true),(10,true),(11,true),(12,false),(13,true),(14,true),(15,true),(16,true),(17,true)] zk zk rfl zk zc ⟨p1,q1,t0,u0⟩ ?_;iterate 12 (refine pT rfl rfl ?_ (by intro w' ⟨q0,q1,q2,q3⟩;go_simp;try with_reducible rfl);try simp only[UU])
       refine aW rfl rfl (λK hK=>?_);go_simp;with_reducible refine(PD.out _).mono ?_
       rintro e w4 ⟨rfl,hq⟩;have ag:Bw wr w4:=by first|exact hq|exact bo hq
       clear p0 p1 q0 q1 t0 t1 t2 t3 u0 u1 u2 u3;obtain⟨Hp,p0,p1⟩:=bi Hp ag;obtain⟨Hq,q0,q1⟩:=bi Hq ag;replace Ht:=kW Ht ag;replace Hu:=kW Hu ag;obtain⟨t0,t1,t2,t3⟩:=Ht.out.w4;obtain⟨u0,u1,u2,u3⟩:=Hu.out.w4;replace Hb:=aF Hb ag;clear ag;refine hK _ _ (λ_=>⟨p1,q1,t0,u0⟩) ?_;clear hK K;try simp only[UU]
       iterate 5 (refine pT rfl rfl ?_;try simp only[UU])
       simp only[bD];go_wp2_with fail;refine cg (λw'=>aH w' (w.heap.size) 1 (.slice a n cap)/\aH w' (w.heap.size+1) 1 (.slice a' n' cap')/\aH w' b (o+k*4+1) (ar s)/\aH w' b (o+k*4+2) (ai m)/\aH w' b (o+k*4+3) (ah ex)/\aH w' b' (o'+j*4+1) (ar s')/\aH w' b' (o'+j*4+2) (ai m')/\aH w' b' (o'+j*4+3) (ah tM)) (λi=>Nat.blt i 100000) [(0,true),(1,true),(2,true),(3,true),(4,true),(5,true),(6,true),(7,true),(8,true),(9,true),(10,true),(11,true),(12,true),(13,true),(14,false),(15,true),(16,false),(17,false),(18,true)] zk zk rfl zk zc ⟨p1,q1,t1,t2,t3,u1,u2,u3⟩ ?_;iterate 14 (refine pT rfl rfl ?_ (by intro w' ⟨q0,q1,q2,q3,q4,q5,q6,q7⟩;go_simp;try with_reducible rfl);try simp only[UU])
       refine aW rfl rfl (λK hK=>?_);go_simp;with_reducible refine(sZ.out _).mono ?_
       rintro e w6 ⟨rfl,hq⟩;have ag:Bw w4 w6:=by first|exact hq|exact bo hq
       clear p0 p1 q0 q1 t0 t1 t2 t3 u0 u1 u2 u3;obtain⟨Hp,p0,p1⟩:=bi Hp ag;obtain⟨Hq,q0,q1⟩:=bi Hq ag;replace Ht:=kW Ht ag;replace Hu:=kW Hu ag;obtain⟨t0,t1,t2,t3⟩:=Ht.out.w4;obtain⟨u0,u1,u2,u3⟩:=Hu.out.w4;replace Hb:=aF Hb ag;clear ag;refine hK _ _ (λ_=>⟨p1,q1,t1,t2,t3,u1,u2,u3⟩) ?_;clear hK K;try simp only[UU]
       refine pT rfl rfl ?_;try simp only[UU]
       refine aW rfl rfl (λK hK=>?_);go_simp;refine hK _ _ (λ_=>⟨aX p1,aX q1,aX t1,aX t2,aX t3,aX u1,aX u2,aX u3⟩) ?_;clear hK K;try simp only[UU]
       refine cn (λW7=>aC W7 (w6.heap.size) 67 [ai L,ar (aI (dN D)),ai (nt (dN D).natAbs),ah (dE D)]/\Bw w6 W7) (by first|exact dZ|exact ej) ?_;rintro W7 ⟨qd,ag⟩;clear p0 p1 q0 q1 t0 t1 t2 t3 u0 u1 u2 u3;have arq:=Hp.out.lt;have arw:=Hq.out.lt;replace Hp:=kB Hp ag;replace Hq:=kB Hq ag;replace Ht:=kW Ht ag;replace Hu:=kW Hu ag;have Hd:=aj qd;clear qd;obtain⟨p0,p1⟩:=Hp.out.c2;obtain⟨q0,q1⟩:=Hq.out.c2;obtain⟨t0,t1,t2,t3⟩:=Ht.out.w4;obtain⟨u0,u1,u2,u3⟩:=Hu.out.w4;obtain⟨d0,d1,d2,d3⟩:=Hd.out.c4;replace Hb:=aF Hb ag;clear ag;refine aW rfl rfl (λK hK=>?_);have dQ:=ownsRow_below Ho.out Hb.out;have hs3:=Hb.out.size;have hkn:k*n'+j<4096:=by have h1:(k+1) *n'<=n*n':=Nat.mul_le_mul_right _ hlt;rw[Nat.succ_mul]at h1;omega
       refine wp_append_own _ _ _ 22 rfl W.heap.size 67 i0 _ 4 48 Tryz.underlying22 Hi.out dz.out dA.out dh.out rfl zd v2 (k*n'+j) ((om ta tb k j).flatMap aY) rfl dQ ⟨w6.heap.size,0,none⟩ 1 1 [ai L,ar (aI (dN D)),ai (nt (dN D).natAbs),ah (dE D)] rfl rfl (iz Hd.out) zy zx zo zo ?_;intro v' w8 eV bT _;have nb:∀b,b<W.heap.size->some b≠v2.ownBlock:=λb hb e=>by have:=dL dQ b e.symm;omega
       refine hK _ _ (λ_=>⟨cV bT p1 (nb _ zp),cV bT q1 (nb _ zp),cV bT t1 (nb _ zp),cV bT t2 (nb _ zp),cV bT t3 (nb _ zp),cV bT u1 (nb _ zp),cV bT u2 (nb _ zp),cV bT u3 (nb _ zp)⟩) ?_;clear hK K;try simp only[UU]
       have fQ:=(bj.out.trans (Hb.out.mono VO)).grown bT zo (λj e=>dL dQ j e);rw[show(om ta tb k j).flatMap aY++[Value.string (bs L),ar (aI (dN D)),ai (nt (dN D).natAbs),ah (dE D)]=(om ta tb k (j+1)).flatMap aY from cB.out.symm]at eV;obtain⟨ja,iP⟩:=aZ fQ eV;refine pT rfl rfl ?_;try simp only[UU]
       simp only[bD];clear nb dQ eV bT fQ p0 p1 q0 q1 t0 t1 t2 t3 u0 u1 u2 u3 d0 d1 d2 d3;go_wp2;go_roundw;case rel=>exact⟨j+1,v',by omega,by go_num,rfl,iP.out,ja.out⟩
       case measure=>simp[intOf];omega
     . obtain rfl:j=n':=by omega
       rw[Qp.out,Fv.out,show k*j+j=(k+1) *j from(Nat.succ_mul k j).symm]at ho;obtain⟨Ho,bj⟩:=aZ ho pb;clear ho pb bW;obtain⟨p0,p1⟩:=Hp.out.c2;obtain⟨q0,q1⟩:=Hq.out.c2;go_wp2;go_roundw;case rel=>exact⟨k+1,v2,by omega,by go_num,rfl,Ho.out,bj.out⟩
       case measure=>simp[intOf];omega
  . obtain rfl:k=n:=by omega
    rw[Ac.out]at ho;have Hb:Hid (Bw w wo):=bW;obtain⟨a2,c2,rfl,hat,_⟩:=dU ho;obtain⟨Pi,Hp,Hr⟩:=dc (qR.out wo a2 c2 hat) (lV.out.below pb) (jG.out.below pb);clear ho pb bW hat;obtain⟨p0,p1⟩:=Hp.out.c2;obtain⟨r0,au,r1,az⟩:=Hr.out.g2;go_wp2_with fail;refine(Pi.out).mono ?_;rintro e w6 ⟨a9,d9,rfl,jy,ag⟩;clear p0 p1 r0 au r1 az;obtain⟨Hp,p0,p1⟩:=bi Hp ag;obtain⟨Hr,r0,au,r1,az⟩:=bE Hr ag;replace Hb:=aF Hb ag;clear ag;have zY:=aj jy;clear jy;go_wp2;have h9:=zY.out.store Hr.out zd (ah (V:Int)) (.slice a9 C.length d9);refine fJ (λw9=>bJ w9 a9 d9 C/\aC w9 (w.heap.size+1+1) 24 [ah (V:Int),.slice a9 C.length d9]/\Bw w w9) ⟨h9,(Hr.out.set 0 _).set 1 _,(Hb.out.setCell zp _).setCell zp _⟩ ?_;rintro w9 ⟨q1,q2,q3⟩;obtain⟨x0,x1⟩:=q2.c2;exact bodyPost_ret (v:=.tuple #[.agg #[ah (V:Int),.slice a9 C.length d9],ah 0]) (by simp[results,Tryz.results34,go_sem,x0,x1]) rfl ⟨_,_,rfl,q1,q3⟩
end Go.Proofs.YtnjfebkelecgaaaGreatDoor
namespace Go.Proofs.YtnjfebkelecgaaaGreatDoor
def ko :List (List Raw):=[[canon (dI 0),canon (dI 0)],[canon (dI 4),canon (dI 0)],[canon (dI 0),canon (dI 2)]]
def oC :List aR:=bU [(dR 2 0,canon 1)]
def Ai :List aR:=bU [(dR 2 1,canon 1)]
def wF :List aR:=bU (iL oC Ai)
def yh :List aR:=dF 2 (dI 1) ou 0
def rW :List aR:=bU (eo (dI 8) oC)
def tH :List Dyadic:=eY 2 1 (ko.map λr=>r.map aM) (fV oC)
def tJ :List Dyadic:=eY 2 2 (ko.map λr=>r.map aM) (fV wF)
def Ah :List Dyadic:=eY 2 2 (ko.map λr=>r.map aM) (fV yh)
def KU :List Raw:=[canon (Dyadic.ofIntWithPrec 1 2),canon (Dyadic.ofIntWithPrec 1 2),canon (Dyadic.ofIntWithPrec 1 1)]
theorem KX :tH=[0,4,0].map dI:=by decide+kernel
theorem KY :tJ=[0,0,0,0,8,0].map dI:=by decide+kernel
theorem Zl :Ah=[1,2,2,1,2,1].map dI:=by decide+kernel
theorem ak9 :jg ko=0:=by decide+kernel
theorem alb :nY 2 oC ko 1=0:=by decide+kernel
theorem alc :nY 2 wF ko 2=0:=by decide+kernel
theorem ala :nY 2 yh ko 2=0:=by decide+kernel
theorem ak6 :mn (λk=>aM (KU.getD k (false,[],0))) 2 2 tJ=dI 1:=by decide+kernel
theorem ak7 :wH 2 (jJ 2 (jA ko) 2) (cQ 3 1) tH 3=rW:=by decide+kernel
theorem ak8 :cQ 3 2=[[2,0,0],[1,1,0],[1,0,1],[0,2,0],[0,1,1],[0,0,2]]:=by decide+kernel
end Go.Proofs.YtnjfebkelecgaaaGreatDoor
namespace Go.Proofs.YtnjfebkelecgaaaGreatDoor
open Go.RowKit
theorem am5 (ns:List Nat)(h:∀n∈ns,n<4096):∀d∈ns.map dI,Sm 12 d:=λd hd=>by obtain⟨n,hn,rfl⟩:=List.mem_map.1 hd;exact CQ n (h n hn)
theorem FQ :dD 2 2 1 oC:=⟨Oe (B:=1) zd Sm.one zd,fW.clean (ts:=[(dR 2 0,canon 1)]) (λt ht=>by simp at ht;subst ht;exact⟨JI 2 0,VT 2 0⟩)⟩
theorem QR :dD 2 2 1 Ai:=⟨Oe (B:=1) zd Sm.one zd,fW.clean (ts:=[(dR 2 1,canon 1)]) (λt ht=>by simp at ht;subst ht;exact⟨JI 2 1,VT 2 1⟩)⟩
theorem ak5 :dD 2 2004 2 wF:=dD.mul FQ QR zd zd (by decide+kernel) zd
theorem ak4 :dD 2 25 0 yh:=Lq zd (CQ 1 zd) zd
theorem KW :oC.length=1:=by decide+kernel
theorem Zh :Ai.length=1:=by decide+kernel
theorem Zg :wF.length=1:=by decide+kernel
theorem Ze :yh.length=1:=by decide+kernel
theorem KT :rW.length=1:=by decide+kernel
theorem Zf :Rw 2 12 ko:=by
 refine⟨rfl,by decide,λr hr c hc=>?_⟩;have:∃n,n<=4/\c=canon (dI n):=by
  simp only[ko,List.mem_cons,List.not_mem_nil,or_false]at hr;rcases hr with rfl|rfl|rfl<;>simp only[List.mem_cons,List.not_mem_nil,or_false]at hc<;>rcases hc with rfl|rfl
  . exact⟨0,by decide,rfl⟩
  . exact⟨0,by decide,rfl⟩
  . exact⟨4,by decide,rfl⟩
  . exact⟨0,by decide,rfl⟩
  . exact⟨0,by decide,rfl⟩
  . exact⟨2,by decide,rfl⟩
 obtain⟨n,hn,rfl⟩:=this;exact(CQ n zo).fit zd
def One (C:List aR)(e:Ending)(w w':World):Prop:=∃a c,e=.returned (.tuple #[.agg #[ah 2,.slice a 1 c],ah 0])/\bJ w' a c C/\Bw w w'
theorem alm (w:World):Calls Tryz.prog 33 #[ah 2,ah 0] w λe w'=>One oC e w w':=(afz 2 0 w zd zd).mono λe w' ⟨a,c,h1,h2,h3⟩=>⟨a,c,by rw[h1,show(bU [(dR 2 0,canon 1)]).length=1 from KW];rfl,h2,h3⟩
theorem alo (w:World):Calls Tryz.prog 33 #[ah 2,ah 1] w λe w'=>One Ai e w w':=(afz 2 1 w zd zd).mono λe w' ⟨a,c,h1,h2,h3⟩=>⟨a,c,by rw[h1,show(bU [(dR 2 1,canon 1)]).length=1 from Zh];rfl,h2,h3⟩
theorem aaw {V B d:Nat}{ts:List aR}(h:dD V B d ts)(hB:B<=16384):∀t∈ts,gB t.2/\Sm B (aM t.2):=λt ht=>by have h1:=(h.1.2 t ht).2;refine⟨?_,h1⟩;rw[(h.1.1.1.2 t ht).2];exact h1.aBj hB
theorem aln (a a':Option Addr)(c c':Nat)(w:World)(ha:bJ w a c oC)(ha':bJ w a' c' Ai):Calls Tryz.prog 34 #[.agg #[ah 2,.slice a 1 c],.agg #[ah 2,.slice a' 1 c']] w λe w'=>One wF e w w':=
 (auO 2 2 1 1 1 1 a a' c c' oC Ai wF w KW Zh FQ.2 QR.2 zd zd (aaw FQ zd) (aaw QR zd) zd zd zd zd ha.1 ha'.1 rfl).mono λe w' ⟨a,c,h1,h2,h3⟩=>⟨a,c,by rw[h1,Zg];rfl,h2,h3⟩
theorem ali (D:Dyadic)(hD:dI 1=D)(w:World):Calls Tryz.prog 35 #[ah 2,.agg #[ar (aI (dN D)),ai (nt (dN D).natAbs),ah (dE D)]] w λe w'=>One yh e w w':=by subst hD;exact(at1 2 12 _ _ _ (dI 1) ou w zd (sP.canon (CQ 1 zd) zd) zd (cN _)).mono λe w' ⟨a,c,h1,h2,h3⟩=>⟨a,c,by rw[h1,show(dF 2 (dI 1) ou 0).length=1 from Ze];rfl,h2,h3⟩
theorem alg (D:Dyadic)(hD:dI 8=D)(a:Option Addr)(c:Nat)(w:World)(ha:bJ w a c oC):Calls Tryz.prog 37 #[.agg #[ah 2,.slice a 1 c],.agg #[ar (aI (dN D)),ai (nt (dN D).natAbs),ah (dE D)]] w λe w'=>One rW e w w':=by subst hD;have h:=auF 2 a c oC (aI (dN (dI 8))) (nt (dN (dI 8)).natAbs) (dE (dI 8)) (dI 8) 12 w (FQ.1.mono zd) ha ((CQ 8 zd).aBj zd) (by rw[show aM (aI (dN (dI 8)),nt (dN (dI 8)).natAbs,dE (dI 8))=dI 8 from cN _];exact CQ 8 zd) zd (cN _);rw[KW]at h;exact h.mono λe w' ⟨a,c,h1,h2,h3⟩=>⟨a,c,by rw[h1,show(bU (eo (dI 8) oC)).length=1 from KT];rfl,h2,h3⟩
theorem KZ (w:World):Calls Tryz.prog 38 #[] w λe w'=>∃a c,e=.returned (.slice a 3 c)/\(3<=c/\cM w' a ko)/\Bw w w':=(amX (dI 0) (dI 4) (dI 2) rfl rfl rfl w).mono λ_ _ ⟨a,c,h1,h2,h3,h4⟩=>⟨a,c,h1,⟨h2,h3⟩,h4⟩
def JN (D:Int)(N:Nat)(cs:List Dyadic)(e:Ending)(w w':World):Prop:=∃b:Nat,e=.returned (.tuple #[.agg #[ah 2,ah D,.slice (some ⟨b,0,none⟩) N N],ah 0])/\At w' (some ⟨b,0,none⟩) (dC cs)/\Bw w w'
theorem QT (D N B d:Nat)(ts:List aR)(cs:List Dyadic)(hp:dD 2 B d ts)(hB:B<=90000)(h1:ts.length=1)(hD:D<=5)(ht:nY 2 ts ko D=0)(hN:cnt 2 D=N)(hcs:eY 2 D (ko.map λr=>r.map aM) (fV ts)=cs)(a a':Option Addr)(c c':Nat)(w:World)(ha:bJ w a c ts)(hc:3<=c')(ha':cM w a' ko)(hT:aO w):
 Calls Tryz.prog 11 #[.agg #[ah 2,.slice a 1 c],.slice a' 3 c',ah (D:Int)] w λe w'=>JN D N cs e w w':=by
 have h:=Oc 2 D 2 rfl a 1 c ts a' 3 c' ko (B+12) N (D:Int) rfl w h1 zd ha.1 (λt ht=>(hp.1.2 t ht).mono zo) rfl zd hc ha' (λr hr x hx=>(Zf.2.2 r hr x hx).mono zo) zo zo hT hD ht hN;rw[hcs]at h;exact h.mono λ_ _ ⟨b,h1,h2,h3⟩=>⟨_,h1,h2,h3⟩
theorem ald (a a':Option Addr)(c c':Nat)(w:World)(ha:bJ w a c oC)(hc:3<=c')(ha':cM w a' ko)(hT:aO w):Calls Tryz.prog 11 #[.agg #[ah 2,.slice a 1 c],.slice a' 3 c',ah 1] w λe w'=>JN 1 3 tH e w w':=QT 1 3 2 1 oC tH FQ zd KW zd alb (by decide+kernel) rfl a a' c c' w ha hc ha' hT
theorem ale (a a':Option Addr)(c c':Nat)(w:World)(ha:bJ w a c wF)(hc:3<=c')(ha':cM w a' ko)(hT:aO w):Calls Tryz.prog 11 #[.agg #[ah 2,.slice a 1 c],.slice a' 3 c',ah 2] w λe w'=>JN 2 6 tJ e w w':=QT 2 6 2004 2 wF tJ ak5 zd Zg zd alc (by decide+kernel) rfl a a' c c' w ha hc ha' hT
theorem alf (a a':Option Addr)(c c':Nat)(w:World)(ha:bJ w a c yh)(hc:3<=c')(ha':cM w a' ko)(hT:aO w):Calls Tryz.prog 11 #[.agg #[ah 2,.slice a 1 c],.slice a' 3 c',ah 2] w λe w'=>JN 2 6 Ah e w w':=QT 2 6 25 0 yh Ah ak4 zd Ze zd ala (by decide+kernel) rfl a a' c c' w ha hc ha' hT
theorem RG {w:World}{b b':Nat}{cs:List Dyadic}{t:TypeId}{k:IntKind}{v:Int}{r:List Value}(h:At w (some ⟨b,0,none⟩) (dC cs))(hc:cs≠[])(hb:aC w b' t (.int k v::r)):b≠b':=by
 rintro rfl;cases cs with
 |nil=>exact hc rfl
 | cons c cs=>
   rcases h with h|⟨b2,o,e,h⟩
   . cases h
   . simp only[Option.some.injEq,Addr.mk.injEq,and_true]at e;obtain⟨rfl,rfl⟩:=e;have h1:=h 0 (by rw[Rk];simp);have h2:=hb.cell 0;rw[Nat.zero_add,h2]at h1;cases h1
theorem At.aBs {w:World}{b o b':Nat}{cs:List Value}(h:At w (some ⟨b,o,none⟩) cs)(hn:b≠b')(u v x:Value):At (((w.setCell ⟨b',0,none⟩ u).setCell ⟨b',1,none⟩ v).setCell ⟨b',2,none⟩ x) (some ⟨b,o,none⟩) cs:=
 h.chg (Y:=λk=>k=b') ((((Chg.refl (λk=>k=b') w).set (a:=⟨b',0,none⟩) rfl u).set (a:=⟨b',1,none⟩) rfl v).set (a:=⟨b',2,none⟩) rfl x) (λ_ _ e h=>by cases e;exact hn h)
theorem Zm (ns:List Nat)(cs:List Dyadic)(h:cs=ns.map dI)(hn:∀n∈ns,n<4096):∀x∈cs.map canon,Fit 12 x:=λx hx=>by obtain⟨d,hd,rfl⟩:=List.mem_map.1 hx;subst h;exact(am5 ns hn d hd).fit zd
theorem UF (cs:List Dyadic):(cs.map canon).map aM=cs:=by rw[List.map_map,show aM∘canon=id from funext cN,List.map_id]
theorem alk (Q H D:Dyadic)(hQ:Dyadic.ofIntWithPrec ((1:Nat):Int) (-(-2))=Q)(hH:Dyadic.ofIntWithPrec ((1:Nat):Int) (-(-1))=H)(hD:dI 1=D)(a:Option Addr)(b:Nat)(w:World)(ha:At w a (dC tJ))(hb:aC w b 48 [ar (aI (dN Q)),ai (nt (dN Q).natAbs),ah (dE Q),ar (aI (dN Q)),ai (nt (dN Q).natAbs),ah (dE Q),ar (aI (dN H)),ai (nt (dN H).natAbs),ah (dE H)])(hT:aO w):
 Calls Tryz.prog 19 #[.agg #[ah 2,ah 2,.slice a 6 6],.slice (some ⟨b,0,none⟩) 3 3] w λe w'=>e=.returned (.tuple #[cP D,ah 0])/\Bw w w':=by
 subst hQ hH hD;refine afC 2 2 6 3 12 a 6 (tJ.map canon) (some ⟨b,0,none⟩) 3 KU (λk=>aM (KU.getD k (false,[],0))) tJ (dI 1) w zd zd rfl zd (by decide+kernel) zd (by rw[KY];rfl) (UF _) (Zm _ _ KY zd) rfl (λk h=>by simp[h]) ?_ zd (by rw[<-qX];exact ha) (At.aBf hb) hT ak6;intro x hx;simp only[KU,List.mem_cons,List.not_mem_nil,or_false]at hx;rcases hx with rfl|rfl|rfl
 . exact Sm.fit ⟨2^10,by decide+kernel,by decide⟩ zd
 . exact Sm.fit ⟨2^10,by decide+kernel,by decide⟩ zd
 . exact Sm.fit ⟨2^11,by decide+kernel,by decide⟩ zd
theorem alj (a a':Option Addr)(c':Nat)(w:World)(ha:At w a (dC tH))(hc:3<=c')(ha':cM w a' ko)(hT:aO w):Calls Tryz.prog 27 #[.agg #[ah 2,ah 1,.slice a 3 3],.slice a' 3 c'] w λe w'=>One rW e w w':=
 (auU 2 1 3 3 12 12 a 3 (tH.map canon) tH a' c' ko rW w zd zd rfl zd (by decide+kernel) zd (by rw[KX];rfl) (UF _) (Zm _ _ KX zd) zd zd Zf hc ha' ak9 (by rw[<-qX];exact ha) hT ak7).mono λe w' ⟨a,c,h1,h2,h3⟩=>⟨a,c,by rw[h1,KT];rfl,h2,h3⟩
theorem alh (w:World):Calls Tryz.prog 21 #[ah 2,ah 2] w λe w'=>∃a c,e=.returned (.slice a 6 c)/\At w' a [.string ⟨#[2,0,0]⟩,.string ⟨#[1,1,0]⟩,.string ⟨#[1,0,1]⟩,.string ⟨#[0,2,0]⟩,.string ⟨#[0,1,1]⟩,.string ⟨#[0,0,2]⟩]/\Bw w w':=by refine(Jm 2 2 6 zd zd zd (by decide+kernel) zd w).mono λe w' ⟨a,c,h1,h2,_,h4⟩=>⟨a,c,h1,?_,h4⟩;rw[ak8]at h2;exact h2
theorem QS (D:Int)(ns:List Nat)(N:Nat)(cs:List Dyadic)(hN:ns.length=N)(hl:N<=1000)(hn:∀n∈ns,n<=1000000)(hcs:cs=ns.map dI)(vs:List Value)(hvs:(ns.map λ(n:Nat)=>Value.int .i64 (n:Int))=vs)(a:Option Addr)(b:Nat)(t:TypeId)(w:World)(ha:At w a (dC cs))(hb:aC w b t vs):Calls Tryz.prog 39 #[.agg #[ah 2,ah D,.slice a N N],ah 0,ah D,.slice (some ⟨b,0,none⟩) N N] w λe w'=>e=.returned (ar true)/\Bw w w':=
 is16 D a ns N N (some ⟨b,0,none⟩) N w hN hl hn (by rw[<-hcs];exact ha) (by rw[hvs];exact At.aBf hb)
end Go.Proofs.YtnjfebkelecgaaaGreatDoor
