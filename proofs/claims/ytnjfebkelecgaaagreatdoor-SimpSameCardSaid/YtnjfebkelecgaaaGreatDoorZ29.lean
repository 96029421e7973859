/- Package simp: To,of whatever small arguments;what a polynomial is that Check lets by. -/
import Derived.Test.YtnjfebkelecgaaaGreatDoorZ25
import Derived.Test.YtnjfebkelecgaaaGreatDoorZ28
import Derived.Test.YtnjfebkelecgaaaGreatDoorZ27
import Derived.Test.YtnjfebkelecgaaaGreatDoorZ22
import Derived.Test.YtnjfebkelecgaaaGreatDoorZ26
set_option linter.all false
set_option maxRecDepth 100000
set_option maxHeartbeats 16000000
namespace Go.Proofs.YtnjfebkelecgaaaGreatDoor
open Go.RowKit
def az4 (ts:List aQ)(h:∀k (h:k+1<ts.length),Op.bytesLess (ts[k]'zo).1 ts[k+1].1=true):Up ts:=by
 unfold Up;rw[List.pairwise_iff_getElem];intro i j hi hj hij;obtain⟨d,rfl⟩:∃d,j=i+1+d:=⟨j-(i+1),by omega⟩;induction d with
 |zero=>exact h i hj
 |succ d ih=>exact DL (ih zo zo) (h (i+1+d) hj)
def awP {V:Nat}{ts:List aQ}(h:mJ (V:Int) ts=0):yY V ts:=by
 obtain⟨h1,h2,h3,h4⟩:=XI h;have hall:(List.range ts.length).all (ot (V:Int) ts)=true:=by
  unfold mJ at h;rw[if_neg zo,if_neg zo]at h;by_cases h9:(List.range ts.length).all (ot (V:Int) ts)=true
  . exact h9
  . rw[if_neg h9]at h;cases h
 rw[List.all_eq_true]at hall;have hg:∀k (hk:k<ts.length),zH (V:Int) ts[k].1 ts[k].2=true/\(0<k->Op.bytesLess (ts[k-1]'zo).1 ts[k].1=true):=λk hk=>by
  have h5:=hall k (List.mem_range.2 hk);unfold ot at h5;rw[show ts.getD k default=ts[k]by simp[List.getD_eq_getElem?_getD,hk],show ts.getD (k-1) default=ts[k-1]'zo by simp[List.getD_eq_getElem?_getD,show k-1<ts.length by omega]]at h5;simp only[Bool.and_eq_true,Bool.or_eq_true,beq_iff_eq,gX]at h5;refine⟨h5.1,λh0=>?_⟩;rcases h5.2 with h6|h6
  . omega
  . exact h6
 refine⟨⟨az4 ts (λk hk=>by have:=(hg (k+1) hk).2 zo;simpa using this),λt ht=>?_⟩,λt ht=>?_,h3,by omega⟩;all_goals
  obtain⟨k,hk,rfl⟩:=List.mem_iff_getElem.1 ht
  have h5:=(hg k hk).1
  unfold zH at h5
  simp only[Bool.and_eq_true,Bool.not_eq_true',beq_iff_eq]at h5
 . exact⟨(xz _).1 h5.1.2,h5.2.symm⟩
 . exact h5.1.1
def aiW {PV d:Int}{ts:List aQ}{rows:List (List Raw)}{B:Nat}(h4:rows.length<=4)(hf:∀r∈rows,∀c∈r,Fit B c)(hts:∀t∈ts,Fit B t.2)(h:rF PV ts rows d=0):
 ∃V:Nat,1<=V/\V<=3/\PV=(V:Int)/\rows.length=V+1/\jE rows=0/\Rw V B rows/\0<=d/\dJ V B d.toNat ts:=by
 unfold rF at h;by_cases hb:jE rows=1\/mJ PV ts≠0\/PV≠(rows.length:Int)-1\/d<(oV ts:Int)
 . rw[if_pos hb]at h;cases h
 . rw[if_neg hb]at h;have h1:¬jE rows=1:=λe=>hb (.inl e);have h2:mJ PV ts=0:=Classical.byContradiction λe=>hb (.inr (.inl e));have h3:PV=(rows.length:Int)-1:=Classical.byContradiction λe=>hb (.inr (.inr (.inl e)));have h5:¬d<(oV ts:Int):=λe=>hb (.inr (.inr (.inr e)));obtain⟨m,hm,hr⟩:=azz zo hf h;have hl:=hr.1;have hV:PV=((m+1:Nat):Int):=by omega
   rw[hV]at h2;have hp:=awP h2;exact⟨m+1,by omega,by omega,hV,hl,h,hr,by omega,⟨hp,hts⟩,λt ht=>⟨hp.2.1 t ht,by have:iY t.1<=oV ts:=acB ts t ht;omega⟩⟩
def ToR (PV d:Int)(ts:List aQ)(rows:List (List Raw))(N:Nat)(e:Ending)(w':World):Prop:=
 (rF PV ts rows d≠0/\∃c:Int,c≠0/\e=.returned (.tuple #[.agg #[ah 0,ah 0,.slice none 0 0],ah c]))\/
 (rF PV ts rows d=0/\∃b:Nat,e=.returned (.tuple #[.agg #[ah PV,ah d,.slice (some ⟨b,0,none⟩) N N],ah 0])/\At w' (some ⟨b,0,none⟩) (dC (fQ (rows.length-1) d.toNat (rows.map λr=>r.map aJ) (jp ts))))
def azK (PV:Int)(aP:Option Addr)(nT fX:Nat)(ts:List aQ)(a:Option Addr)(L cap:Nat)(rows:List (List Raw))(B N:Nat)(d:Int)(w:World)(im:ts.length=nT)(hn:nT<=4096)(rh:At w aP (ts.flatMap aY))(hts:∀t∈ts,Fit B t.2)(hlm:∀t∈ts,t.1.length<=9223372036854775807)
 (hL:rows.length=L) (hL4:L<=4) (hcap:L<=cap) (ha:cZ w a rows) (hfit:∀r∈rows,∀c∈r,Fit B c) (bX:1<=B) (hB:B<=100000) (hT:aM w) (hd:d<=5) (hN:cnt (L-1) d.toNat=N):
 Cl 11 #[.agg #[ah PV,.slice aP nT fX],.slice a L cap,ah d] w λe w'=>ToR PV d ts rows N e w'/\Bw w w':=by
 by_cases h0:rF PV ts rows d=0
 . obtain⟨V,hV1,kN,rfl,hl,h9,hr,hd0,hp⟩:=aiW zo hfit hts h0;have El:L-1=V:=by omega
   have asj:rows.length-1=V:=by omega
   rw[El]at hN;refine(aiX V d.toNat (V:Int) rfl aP nT fX ts a L cap rows B N d zo w im hn rh hts hL hL4 hcap ha hfit bX hB hT zo h0 hN).mono ?_;rintro e w' ⟨b,rfl,hat,ag⟩;exact⟨.inr ⟨h0,b,rfl,by rw[asj];exact hat⟩,ag⟩
 . refine(azL PV aP nT fX ts a L cap rows B d w im zo rh (λt ht=>⟨hlm t ht,(hts t ht).1⟩) hL hL4 hcap ha hfit zo hT hd _ rfl h0).mono ?_;rintro e w' ⟨rfl,ag⟩;exact⟨.inl ⟨h0,_,h0,rfl⟩,ag⟩
end Go.Proofs.YtnjfebkelecgaaaGreatDoor
namespace Go.Proofs.YtnjfebkelecgaaaGreatDoor
open Go.RowKit
attribute [local go_sem ↓] Go.wp_at_zero Go.wp_at_succ
def aw8 (V B d e n n':Nat)(b:Nat)(a a':Option Addr)(cap cap':Nat)(ta tb C:List aQ)(w:World)(hV:0<V)(hn:ta.length=n)(hn':tb.length=n')(jU:gj V B ta)(kq:gj V B tb)(zV:fy V d ta)(zW:fy V e tb)(Og:d+e<=127)(hl:n*n'<=4096)(hB:B<=100000000)(hb:au w b 24 [ah (V:Int),.slice a n cap,ah (V:Int),.slice a' n' cap'])(ha:bE w a cap ta)(ha':bE w a' cap' tb)(hT:aM w)(hC:bP (ia ta tb)=C):
 Cl 76 #[.slice (some ⟨b,0,none⟩) 2 2] w λex w'=>∃a9 c9,ex=.returned (.tuple #[.agg #[ah (V:Int),.slice a9 C.length c9],ah 0])/\bE w' a9 c9 C/\Bw w w':=by
 have hV2:V<=12:=jU.1.2.2.2;have uI:n<=4096:=by have:=jU.1.2.2.1;omega
 have hl2:n'<=4096:=by have:=kq.1.2.2.1;omega
 have hlk:=λW (hW:Bw w W)=>ag0 V B b 0 2 2 [⟨V,a,ta.length,cap⟩,⟨V,a',tb.length,cap'⟩] (λk=>if k=0 then ta else tb) W rfl zd zd (by rw[hn,hn'];exact At.aFK (hb.below hW)) (by
  intro k hk;rcases k with _|k
  . exact⟨a,cap,rfl,(ha.below hW).w,jU⟩
  . obtain rfl:k=0:=by simp at hk;omega
    exact⟨a',cap',rfl,(ha'.below hW).w,kq⟩) (hT.below hW)
 have hcn:∀W (hW:Bw w W),Cl 69 #[.slice a n cap] W λe w'=>∃a1 d1,e=.returned (.slice a1 n d1)/\bE w' a1 d1 ta/\Bw W w':=λW hW=>(TB a n cap ta W hn zo (by rw[<-hn];exact ha.2.1) (ha.1.below hW)).mono (by
  rintro e w' ⟨v',rfl,ho,hb⟩;obtain⟨a1,d1,rfl,_⟩:=dS ho;rw[<-hn]at ho
  exact⟨a1,d1,rfl,CM ho,hb⟩)
 have rB:=λa1 d1 W (hW:Bw w W) (hp:bE W a1 d1 ta)=>axs V B d e n n' a1 a' d1 cap' ta tb C W hV hV2 hn hn' zV zW Og (λt ht=>jU.2 t ht) (λt ht=>kq.2 t ht) hl uI hl2 hB hp.1 (ha'.1.below hW) (hT.below hW) hC;obtain⟨m,hm⟩:=aK C.length;rw[hm]at rB⊢;obtain⟨RD,qH,GA,H0⟩:=ej hlk hcn rB hb;clear hlk hcn rB hn hn' jU kq zV zW hb ha ha' hT hC hm;obtain⟨W,dK,Hb,Hr⟩:=jD w 24 [ah 0,.slice none 0 0];obtain⟨r0,aH,r1,aI⟩:=Hr.out.g2;have Hz:Hid (au W b 24 [ah (V:Int),.slice a n cap,ah (V:Int),.slice a' n' cap']):=H0.out.below Hb.out;have hbl:=H0.out.lt;go_enter Tryz.func76,Tryz.ntmps76;go_wp2_with fail;refine(RD.out _ Hb.out).mono ?_;rintro e w1 ⟨rfl,ag⟩;obtain⟨Hr,r0,aH,r1,aI⟩:=bA Hr ag;replace Hb:=az Hb ag;replace Hz:=ar (H0.out.below Hb.out);have xj:=Hb;have Si:=Hr;clear r0 aH r1 aI Hr;replace Hb:=hbz w1;have hs1:=xj.out.size;have lr1:=Si.out.lt;obtain⟨z0,z1,z2,z3⟩:=Hz.out.c4;go_upto_region 4 with fail
 go_cut[5] (λs5 wx=>∃(g:Nat) (a1:Option Addr) (d1:Nat),s5=.pointer (some ⟨g,0,none⟩)/\w1.heap.size<=g/\au wx g 24 [ah (V:Int),.slice a1 n d1]/\bE wx a1 d1 ta/\Bw w1 wx);case first=>
  have fe:∀w',dW w1 w'->aF w' b 0 (ah (V:Int))/\aF w' b 1 (.slice a n cap):=λw' h=>⟨cell_later h z0,cell_later h z1⟩;have bz:Hid (dW w1 w1):=Below.refl _ _;refine Qs (λw'=>dW w1 w') (λi=>Nat.blt i 11) (.rd 0 (.rd 1 (.rd 2 (.rd 3 (.rd 4 (.rd 5 (.rd 6 (.rd 7 (.br 8 10 (.lin [(9,true),(10,false),(11,false)]) (.lin [(8,false),(9,true),(11,false)])))))))))) zk zk rfl zk zc bz.out.drew ?_;iterate 8 (refine PO rfl rfl (v:=?_) (λw' hw'=>?_) ?_;rotate_left;(focus have hw':=fe w' hw';obtain⟨q0,q1⟩:=hw';go_simp;try with_reducible rfl);try simp only[UU])
  clear  fe;refine Kr rfl rfl rfl rfl rfl rfl  (λK hK=>?_) (λK hK=>?_) 
  . go_simp;with_reducible refine(qH.out _ (by first|exact aO xj.out Hb.out|exact aO xj.out Hb.out.drew)).mono ?_
    rintro e w2 ⟨a1,d1,rfl,hp1,hq⟩;have ag:Bw w1 w2:=by first|exact hq|exact bo hq
    replace bz:=ar (bz.out.below ag);obtain⟨Hz,z0,z1,z2,z3⟩:=dZ Hz ag;replace Hb:=az Hb ag;have HX:=ar hp1;clear hp1;refine hK _ _ (λ_=>bz.out) ?_;try simp only[UU]
    refine yn ?_;refine pT rfl rfl ?_;try simp only[UU]
    refine aR rfl rfl (λK hK=>?_);go_simp;have au4:=Hb.out.size;refine hK _ _ (λ_=>by first|exact bz.out.alloc _|exact(bz.out.alloc _).drew|exact(bz.out.drew).alloc _) ?_;try simp only[UU]
    refine bZ (λW3=>au W3 (w2.heap.size) 24 [ah 0,.slice none 0 0]/\Bw w2 W3) (by first|exact eo|exact eu) ?_;rintro W3 ⟨qo,ag⟩;have avm:=Hz.out.lt;replace bz:=ar (bz.out.below ag);replace Hz:=kB Hz ag;replace HX:=ar (HX.out.below ag);have Ho:=ar qo;clear qo;obtain⟨z0,z1,z2,z3⟩:=Hz.out.c4;obtain⟨o0,gm,o1,gu⟩:=Ho.out.g2;replace Hb:=az Hb ag;refine aR rfl rfl (λK hK=>?_);go_simp;refine hK _ _ (by first|exact λh=>absurd h zd|exact λ_=>bz.out|exact λ_=>(by first|exact bz.out.setCell zp _|exact(bz.out.setCell zp _).setCell zp _|exact((bz.out.setCell zp _).setCell zp _).setCell zp _)) ?_;try simp only[UU]
    simp only[bu];go_wp2_with fail;go_meet;exact⟨_,_,_,rfl,by omega,(Ho.out.set 0 _).set 1 _,HX.out.store Ho.out zd _ _,(Hb.out.setCell zp _).setCell zp _⟩
  . go_simp;have au4:=Hb.out.size;refine hK _ _ (λ_=>by first|exact bz.out.alloc _|exact(bz.out.alloc _).drew|exact(bz.out.drew).alloc _) ?_;try simp only[UU]
    refine Ks (λW3=>au W3 (w1.heap.size) 24 [ah 0,.slice none 0 0]/\Bw w1 W3) (by first|exact eo|exact eu) ?_;rintro W3 ⟨qo,ag⟩;have avm:=Hz.out.lt;replace bz:=ar (bz.out.below ag);replace Hz:=kB Hz ag;have Ho:=ar qo;clear qo;obtain⟨z0,z1,z2,z3⟩:=Hz.out.c4;obtain⟨o0,gm,o1,gu⟩:=Ho.out.g2;replace Hb:=az Hb ag;refine yn ?_;refine aR rfl rfl (λK hK=>?_);go_simp;with_reducible refine(qH.out _ (by first|exact aO xj.out Hb.out|exact aO xj.out Hb.out.drew)).mono ?_
    rintro e w2 ⟨a1,d1,rfl,hp1,hq⟩;have ag:Bw W3 w2:=by first|exact hq|exact bo hq
    replace bz:=ar (bz.out.below ag);obtain⟨Hz,z0,z1,z2,z3⟩:=dZ Hz ag;obtain⟨Ho,o0,gm,o1,gu⟩:=bA Ho ag;replace Hb:=az Hb ag;have HX:=ar hp1;clear hp1;refine hK _ _ (λ_=>bz.out) ?_;try simp only[UU]
    refine pT rfl rfl ?_;try simp only[UU]
    refine aR rfl rfl (λK hK=>?_);go_simp;refine hK _ _ (by first|exact λh=>absurd h zd|exact λ_=>bz.out|exact λ_=>(by first|exact bz.out.setCell zp _|exact(bz.out.setCell zp _).setCell zp _|exact((bz.out.setCell zp _).setCell zp _).setCell zp _)) ?_;try simp only[UU]
    simp only[bu];go_wp2_with fail;go_meet;exact⟨_,_,_,rfl,by omega,(Ho.out.set 0 _).set 1 _,HX.out.store Ho.out zd _ _,(Hb.out.setCell zp _).setCell zp _⟩
 case rest=>
  obtain⟨g,a1,d1,rfl,hg,jT,hp1,hbc⟩:=hcut;have bQ:=aO xj.out hbc;obtain⟨LG,mP,yH⟩:=cX jT hp1 hbc;have Md:=Si;have szc:=hbc.size;have bD:=Aj 1 1 0 0 (rfl:(some ⟨b,2,none⟩:Option Addr)=_) zo rfl;rw[Nat.zero_mul,Nat.add_zero]at bD;clear jT hp1 hbc bQ z0 z1 z2 z3 Hb;go_wp2_with fail;go_loopw[29] (λx wr=>∃(a2:Option Addr) (d2:Nat),((x=ah 0/\au wr g 24 [ah (V:Int),.slice a2 n d2]/\bE wr a2 d2 ta)\/(x=ah 1/\au wr g 24 [ah (V:Int),.slice a2 m d2]/\bE wr a2 d2 C))/\Bw w1 wr) (λx _=>1-(intOf x).toNat);case atStart=>exact⟨a1,d1,.inl ⟨rfl,LG.out,mP.out⟩,yH.out⟩
  case round=>
   clear LG mP yH Hz;obtain⟨a2,d2,⟨rfl,jT,hp2⟩ |⟨rfl,jT,hp2⟩,pb⟩:=hrel
   . have Ho:Hid (au wr g 24 [ah (V:Int),.slice a2 n d2]):=jT;have Hz:Hid (au wr b 24 [ah (V:Int),.slice a n cap,ah (V:Int),.slice a' n' cap']):=H0.out.below (aO xj.out pb);obtain⟨bj,yO⟩:=aZ pb hp2;have gM:=pb.size;clear pb hp2 jT;have Hb:=hbz wr;obtain⟨z0,z1,z2,z3⟩:=Hz.out.c4;obtain⟨o0,gm,o1,gu⟩:=Ho.out.g2;have HP:Hid (bE wr a2 d2 ta):=yO.out;have Kz0:=z0;have Kz1:=z1;have Kz2:=z2;have Kz3:=z3;have ahj:=Hz.out.lt;have aEh:=Ho.out.lt;obtain⟨W5,xL,ag,Hy⟩:=cE wr 24 [ah (V:Int),.slice a' n' cap'];replace Hz:=kB Hz ag;replace Ho:=kB Ho ag;replace HP:=ar (HP.out.below ag);obtain⟨z0,z1,z2,z3⟩:=Hz.out.c4;obtain⟨o0,gm,o1,gu⟩:=Ho.out.g2;obtain⟨y0,y1⟩:=Hy.out.c2;replace Hb:=az Hb ag;go_wp2_with fail;refine(GA.out a2 d2 _ (aO (aO xj.out bj.out) Hb.out) HP.out).mono ?_;rintro e w6 ⟨a9,d9,rfl,gZ,ag⟩;replace Hz:=kB Hz ag;replace Ho:=kB Ho ag;replace HP:=ar (HP.out.below ag);obtain⟨Hy,y0,y1⟩:=bi Hy ag;obtain⟨z0,z1,z2,z3⟩:=Hz.out.c4;obtain⟨o0,gm,o1,gu⟩:=Ho.out.g2;replace Hb:=az Hb ag;clear ag Kz0 Kz1 Kz2 Kz3;have xf:=ar gZ;clear gZ;have HX:Hid (bE w6 a9 d9 C):=xf.out;have aEZ:=Hz.out.lt;have ahc:=Ho.out.lt;have ahg:=Hy.out.lt;obtain⟨W7,UO,ag,Hu⟩:=cE w6 24 [ah (V:Int),.slice a9 m d9];replace Hz:=kB Hz ag;replace Ho:=kB Ho ag;replace HP:=ar (HP.out.below ag);replace Hy:=kB Hy ag;replace HX:=ar (HX.out.below ag);obtain⟨z0,z1,z2,z3⟩:=Hz.out.c4;obtain⟨o0,gm,o1,gu⟩:=Ho.out.g2;obtain⟨y0,y1⟩:=Hy.out.c2;obtain⟨u0,u1⟩:=Hu.out.c2;replace Hb:=az Hb ag;go_wp2;go_roundw;case rel=>exact⟨a9,d9,.inr ⟨rfl,(Ho.out.set 0 _).set 1 _,HX.out.store Ho.out zd _ _⟩,(((bj.out.trans (Hb.out.mono gM)).setCell zp _).setCell zp _)⟩
     case measure=>simp[intOf]
   . have Ho:Hid (au wr g 24 [ah (V:Int),.slice a2 m d2]):=jT;have Hr:Hid (au wr w.heap.size 24 [ah 0,.slice none 0 0]):=Md.out.below pb;have Hb:Hid (Bw w wr):=aO xj.out pb;have yO:=ar hp2;clear pb hp2 jT;obtain⟨o0,o1⟩:=Ho.out.c2;obtain⟨r0,aH,r1,aI⟩:=Hr.out.g2;go_wp2;have h9:=yO.out.store Hr.out zd (ah (V:Int)) (.slice a2 m d2);refine fP (λw9=>bE w9 a2 d2 C/\au w9 w.heap.size 24 [ah (V:Int),.slice a2 m d2]/\Bw w w9) ⟨h9,(Hr.out.set 0 _).set 1 _,(Hb.out.setCell zp _).setCell zp _⟩ ?_;rintro w9 ⟨q1,q2,q3⟩;obtain⟨x0,x1⟩:=q2.c2;exact bodyPost_ret (v:=.tuple #[.agg #[ah (V:Int),.slice a2 m d2],ah 0]) (by simp[results,Tryz.results76,go_sem,x0,x1]) rfl ⟨_,_,rfl,q1,q3⟩
def apv (l:List UInt8)(c:UInt8):bs l++bs [c]=bs (l++[c]):=by unfold bs;apply ByteArray.ext;simp
def axT (l:List UInt8)(a:Option Addr)(cap n:Nat)(w:World)(hn:l.length=n)(hl:n<=1048576)(hall:∀c∈l,c.toNat<=127)(ha:At w a (iJ l)):
 Cv 121 #[.slice a n cap] w (.tuple #[ai l,ah 0]):=by
 rw[<-Nj]at ha;obtain⟨Hn,pn,Ha⟩:=cX hn hall ha;clear hn hall ha;have Hb:=hbz w;go_enter Tryz.func121,Tryz.ntmps121;go_wp2_with fail;go_loopw[4,5] (λs4 x wr=>∃(k:Nat) (v:Value),k<=n/\x=ah (k:Int)/\v=s4/\v=ai (l.take k)/\Bw w wr) (λ_ x _=>n-(intOf x).toNat);case atStart=>exact⟨0,_,Nat.zero_le _,rfl,rfl,rfl,Hb.out⟩
 case round=>
  clear Hb;obtain⟨k,v,hk,rfl,rfl,rfl,pb⟩:=hrel;by_cases hlt:k<n
  . have h1:k<l.length:=by rw[Hn.out];exact hlt
    have hc:=pn.out _ (List.getElem_mem h1);obtain⟨b,o,hab,hce⟩:=(Ha.out.below pb).elem (f:=λc:UInt8=>[Value.int .i64 (c.toNat:Int)]) (sz:=1) (λ_=>rfl) zd k h1;have bD:=JW n cap k (k:Int) hab hlt rfl;rw[Nat.mul_one]at bD;obtain⟨c,hcc⟩:=aK (l[k]);rw[hcc]at hc hce;obtain⟨cc,Vk⟩:∃cc:Int,(c.toNat:Int)=cc:=⟨_,rfl⟩;have Hp:Hid (bH wr b (o+k) [ah cc]):=λj hj=>by
     obtain rfl:j=0:=by simp at hj;omega
     have:=hce 0 zd;rw[Nat.mul_one]at this;simpa[Vk]using this
    obtain⟨u,hu⟩:=aK (bs (l.take k));obtain⟨y,hy⟩:=aK (bs [c]);have asO:u++y=bs (l.take (k+1)):=by rw[<-hu,<-hy,apv,List.take_succ_eq_append_getElem h1,hcc]
    have atA:¬9223372036854775807<u.size+y.size:=by rw[<-hu,<-hy,iH,iH,List.length_take];simp;omega
    have h0:¬cc<0:=by omega
    have ar2:¬127<cc:=by omega
    have rS:IntKind.u8.wrap cc=cc:=by rw[IntKind.wrap_u8];omega
    unfold ai;rw[hu];obtain⟨bj,Hy,Di⟩:=cX pb hy Vk;have gM:=pb.size;clear pb hc hce hcc Vk hab hu hy;have Hb:=hbz wr;have p0:=Hp.out.w1;have Kp0:=p0;obtain⟨W2,na,ag,Hd⟩:=cE wr 5 [.int .u8 cc];replace Hp:=kW Hp ag;have p0:=Hp.out.w1;have d0:=Hd.out.c1;replace Hb:=az Hb ag;have hcv:(convert 84 9 (.slice (some ⟨wr.heap.size,0,none⟩) 1 1)).run Tryz.prog W2=.ok (.string y) W2:=by rw[<-Hy.out];exact azM (l:=[c]) (by rw[show GW [c]=[.int .u8 cc]by rw[<-Di.out];rfl];exact Hd.out) 1
    go_wp2;go_roundw;case rel=>exact⟨k+1,_,by omega,by go_num,rfl,rfl,(bj.out.trans (Hb.out.mono gM))⟩
    case measure=>exact bI
  . obtain rfl:k=n:=by omega
    rw[List.take_of_length_le (by rw[Hn.out];exact Nat.le_refl _)];have bj:=ar pb;clear pb;go_wp2;refine bodyPost_ret (v:=.tuple #[ai l,ah 0]) (by simp[results,Tryz.results121,go_sem]) rfl ⟨rfl,bj.out⟩
def axS (a b:List UInt8)(n:Nat)(w:World)(jX:a.length=n)(hlb:b.length=n)(hl:n<=1048576)(ha:∀c∈a,c.toNat<=127)(hb:∀c∈b,c.toNat<=127)(hs:∀i,i<n->(a.getD i 0).toNat+(b.getD i 0).toNat<=127):
 Cv 80 #[ai a,ai b] w (.tuple #[ai (eT a b),ah 0]):=by
 obtain⟨i0,hi,hz0,hz1,hz2⟩:=info_parts Tryz.aFY;have Cg:=λW=>XW a (n:Int) W zo;have hmb:=λW=>XW b (n:Int) W zo;rw[Xf jX ha]at Cg;rw[Xf hlb hb]at hmb;have hsz:(bs a).size=n:=by rw[iH,jX]
 have hof:=λ(A:Option Addr) (c:Nat) (W:World) (h:At W A (iJ (eT a b)))=>axT (eT a b) A c n W (ze a b n jX hlb) hl (Tm a b n jX hlb hs) h;have hlM:=ze a b n jX hlb;have hgM:∀k (h:k<a.length) (h2:k<b.length) (h3:k<(eT a b).length),((eT a b)[k]).toNat=a[k].toNat+b[k].toNat/\a[k].toNat+b[k].toNat<=127:=λk h h2 h3=>by have h4:=hs k zo;have h5:=My a b k h3 zo;rw[show a.getD k 0=a[k]by simp[h],show b.getD k 0=b[k]by simp[h2]]at h4 h5;exact⟨h5,h4⟩
 obtain⟨Hi,dF,dv,di,RH,RI,og,HlM,HgM,gS,gT⟩:=auB hi hz0 hz1 hz2 Cg hmb hof hlM hgM jX hlb;clear hi hz0 hz1 hz2 Cg hmb hof hlM hgM jX hlb ha hb hs;have Hb:=hbz w;go_enter Tryz.func80,Tryz.ntmps80;go_wp2_with fail;refine(RH.out _).mono ?_;rintro e w1 ⟨rfl,ag⟩;replace Hb:=az Hb ag;go_wp2_with fail;refine(RI.out _).mono ?_;rintro e w2 ⟨rfl,ag⟩;replace Hb:=az Hb ag;go_wp2_with fail;go_loopw[6,7] (λs6 x wr=>∃(k:Nat) (v:Value),k<=n/\x=ah (k:Int)/\v=s6/\wr.ownsRow w.heap.size 3 1 v k (iJ ((eT a b).take k))/\Bw w wr) (λ_ x _=>n-(intOf x).toNat);case atStart=>exact⟨0,_,Nat.zero_le _,rfl,rfl,World.ownsRow_nil _ _ _ _,Hb.out⟩
 case round=>
  clear Hb;obtain⟨k,v,hk,rfl,rfl,ho,pb⟩:=hrel;by_cases hlt:k<n
  . have h1:k<a.length:=by rw[gS.out];exact hlt
    have h2:k<b.length:=by rw[gT.out];exact hlt
    have h3:k<(eT a b).length:=by rw[HlM.out];exact hlt
    obtain⟨hg,hg2⟩:=HgM.out k h1 h2 h3;have ix:=uO a (k:Int) k h1 rfl;have Cz:=uO b (k:Int) k h2 rfl;obtain⟨x,hx⟩:∃x:Int,(a[k].toNat:Int)=x:=⟨_,rfl⟩;obtain⟨y,hy⟩:∃y:Int,(b[k].toNat:Int)=y:=⟨_,rfl⟩;obtain⟨Z,hZ⟩:∃Z:Int,(((eT a b)[k]).toNat:Int)=Z:=⟨_,rfl⟩;have hwx:IntKind.i64.wrap x=x:=by rw[IntKind.wrap_i64];omega
    have hwy:IntKind.i64.wrap y=y:=by rw[IntKind.wrap_i64];omega
    have hwz:IntKind.i64.wrap (x+y)=Z:=by rw[IntKind.wrap_i64];omega
    have cn:Hid (iJ ((eT a b).take (k+1))=iJ ((eT a b).take k)++[ah Z]):=by
     show _=_
     rw[List.take_succ_eq_append_getElem h3,acX,<-hZ];rfl
    rw[hx]at ix;rw[hy]at Cz;obtain⟨Ho,bj⟩:=aZ ho pb;have gM:=pb.size;clear ho pb hg hg2 hx hy hZ;have Hb:=hbz wr;go_wp2_with fail;refine bV (λw'=>True) (λi=>Nat.blt i 100000) [(0,true),(1,true),(2,true),(3,true),(4,true),(5,true),(6,true),(7,true),(8,true),(9,true),(10,false),(11,false),(12,true)] zk zk rfl zk zc True.intro ?_;iterate 10 (refine pT rfl rfl ?_;try simp only[UU])
    refine aR rfl rfl (λK hK=>?_);go_simp;refine hK _ _ (λ_=>True.intro) ?_;try simp only[UU]
    refine bZ (λW5=>au W5 (wr.heap.size) 3 [ah Z]/\Bw wr W5) (by first|exact eo|exact eu) ?_;rintro W5 ⟨qd,ag⟩;have Hd:=ar qd;clear qd;have d0:=Hd.out.c1;replace Hb:=az Hb ag;refine aR rfl rfl (λK hK=>?_);have eD:=ownsRow_below Ho.out Hb.out;have hs3:=Hb.out.size;refine wp_append_own _ _ _ 154 rfl w.heap.size 3 i0 _ 1 8 Tryz.underlying154 Hi.out dF.out dv.out di.out rfl zd v k (iJ ((eT a b).take k)) rfl eD ⟨wr.heap.size,0,none⟩ 1 1 [ah Z] rfl rfl (gW Hd.out) zy zx zo zo ?_;intro v' w8 eV bM _;refine hK _ _ (λ_=>True.intro) ?_;try simp only[UU]
    have fG:=(aO bj.out Hb.out).grown bM zo (λj e=>dX eD j e);rw[<-cn.out]at eV;obtain⟨gD,jb⟩:=aZ fG eV;refine pT rfl rfl ?_;try simp only[UU]
    simp only[bu];clear eD eV bM fG d0;go_wp2;go_roundw;case rel=>exact⟨k+1,v',by omega,by go_num,rfl,jb.out,gD.out⟩
    case measure=>exact bI
  . obtain rfl:k=n:=by omega
    rw[List.take_of_length_le (by rw[HlM.out];exact Nat.le_refl _)]at ho;obtain⟨A,c,rfl,hat,_⟩:=dS ho;obtain⟨fW,Hb⟩:=aZ hat pb;clear ho hat pb;go_wp2_with fail;refine(og.out A c _ fW.out).mono ?_;rintro e w6 ⟨rfl,ag⟩;replace Hb:=az Hb ag;go_wp2;refine bodyPost_ret (v:=.tuple #[ai (eT a b),ah 0]) (by simp[results,Tryz.results80,go_sem]) rfl ⟨rfl,Hb.out⟩
def ayD (V B d e n n':Nat)(a a':Option Addr)(cap cap':Nat)(ta tb C:List aQ)(w:World)(hn:ta.length=n)(hn':tb.length=n')(zV:fy V d ta)(zW:fy V e tb)(hV:V<=12)(Og:d+e<=127)(jU:∀t∈ta,ie t.2/\Sm B (aJ t.2))(kq:∀t∈tb,ie t.2/\Sm B (aJ t.2))(hl:n*n'<=4096)(uI:n<=4096)(hl2:n'<=4096)(hB:2*B+4096<=16384)(ha:At w a (ta.flatMap aY))(ha':At w a' (tb.flatMap aY))(hC:bP (ia ta tb)=C):
 Cl 34 #[.agg #[ah (V:Int),.slice a n cap],.agg #[ah (V:Int),.slice a' n' cap']] w λex w'=>∃a9 c9,ex=.returned (.tuple #[.agg #[ah (V:Int),.slice a9 C.length c9],ah 0])/\bE w' a9 c9 C/\Bw w w':=by
 obtain⟨i0,hi,hz0,hz1,hz2⟩:=info_parts Tryz.aFP;have oG:∀t∈ia ta tb,Sm (2*B) (aJ t.2):=λt ht=>(Xl (λt h=>(jU t h).2) (λt h=>(kq t h).2) t ht).mono zo;have lJ:∀t∈ia ta tb,ie t.2:=λt ht=>by have h:=oG t ht;obtain⟨x,hx,y,hy,rfl⟩:=Pz ht;rw[cp]at h;exact h.aFO zo
 have mD:=λW a1 c1 (h:At W a1 ((ia ta tb).flatMap aY))=>PQ V a1 (n*n') c1 (ia ta tb) (2*B) W (by rw[Xk,hn,hn']) hl h lJ oG zo;rw[hC]at mD;have hu0:=YL ta tb;have hun:=λk (h:k<n)=>ajj ta tb k zo;have JM:=λk j (h:j<tb.length)=>ajk ta tb k j h;have htl:ta.take n=ta:=List.take_of_length_le zo;have jm:∀k (h:k<ta.length),ta.getD k zT=ta[k]:=λk h=>by simp[h]
 rw[hn']at hun;obtain⟨Hi,dF,dv,di,rK,GD,Sw,SA,Be,yJ,Hn,Dt⟩:=gg hi hz0 hz1 hz2 mD hu0 hun JM htl jm hn hn';obtain⟨gQ,jK,wT,wU,Ha,qD⟩:=iq zV zW jU kq ha ha';clear hi hz0 hz1 hz2 lJ oG mD hu0 hun JM htl jm hn hn' zV zW jU kq ha ha' hC;have hnm:¬(65536:Int)<IntKind.i64.wrap ((n:Int) * (n':Int)):=by
  have:((n:Int) * (n':Int))<=4096:=by exact_mod_cast hl
  have:0<=((n:Int) * (n':Int)):=by exact_mod_cast Nat.zero_le _
  rw[IntKind.wrap_i64];omega
 have Hb:=hbz w;go_enter Tryz.func34,Tryz.ntmps34;go_wp2_with fail;have q:=uU w 24 [ah (V:Int),.slice a n cap] 24 [ah (V:Int),.slice a' n' cap'] 24 [ah 0,.slice none 0 0];first|refine cd _ q ?_|refine cw _ q ?_
 clear q;rintro W ⟨Hp,Hq,Hr,ag⟩;obtain⟨p0,p1⟩:=Hp.out.c2;obtain⟨q0,q1⟩:=Hq.out.c2;obtain⟨r0,aH,r1,aI⟩:=Hr.out.g2;replace Hb:=az Hb ag;have mQ:=Hp;have yQ:=Hq;have jN:=Hr;have dY:=Hb;have lpk:=mQ.out.lt;have lqk:=yQ.out.lt;have CS:=dY.out.size;go_wp2_with fail;go_loopw[6,7] (λs6 x wr=>∃(k:Nat) (v:Value),k<=n/\x=ah (k:Int)/\v=s6/\wr.ownsRow W.heap.size 67 4 v (k*n') ((ia (ta.take k) tb).flatMap aY)/\Bw W wr) (λ_ x _=>n-(intOf x).toNat);case atStart=>exact⟨0,_,Nat.zero_le _,rfl,rfl,by rw[Nat.zero_mul];exact World.ownsRow_nil _ _ _ _,Below.refl _ _⟩
 case round=>
  clear p0 p1 q0 q1 r0 aH r1 aI Hp Hq Hr Hb;obtain⟨k,v,hk,rfl,rfl,ho,pb⟩:=hrel;obtain⟨wo,hwo⟩:∃wo,wo=wr:=⟨_,rfl⟩;subst hwo;have bQ:=aO dY.out pb;by_cases hlt:k<n
  . have hk2:k<ta.length:=by rw[Hn.out];exact hlt
    obtain⟨l,s,m,ex,hx⟩:∃l s m e,ta[k]=(l,s,m,e):=⟨_,_,_,_,rfl⟩;obtain⟨b,o,hab,cj⟩:=Ha.out.term k hk2 hx;have lbb:b<w.heap.size:=World.block_lt_of_cell? w _ (cj.cell 0 zm);have bD:=gJ n cap k (k:Int) hab hlt rfl;have jm:=yJ.out k hk2;rw[hx]at jm;have dG:=wT.out _ (List.getElem_mem hk2);have BX:=gQ.out _ (List.getElem_mem hk2);rw[hx]at dG BX;rw[<-GD.out]at ho;have JL:=Sw.out k hlt;have Ht0:Hid (bH w b (o+k*4) [ai l,aj s,ai m,ah ex]):=cj;obtain⟨Ho,bj,Hgx,fO,Ga,Sy,Hp,Hq⟩:=oK ho pb jm dG BX JL (mQ.out.below pb) (yQ.out.below pb);clear ho pb jm dG BX JL hx hab cj bQ;obtain⟨p0,p1⟩:=Hp.out.c2;obtain⟨q0,q1⟩:=Hq.out.c2;go_wp2_with fail;go_loopw[6,8] (λs6 x wr=>∃(j:Nat) (v2:Value),j<=n'/\x=ah (j:Int)/\v2=s6/\wr.ownsRow W.heap.size 67 4 v2 (k*n'+j) ((oX ta tb k j).flatMap aY)/\Bw W wr) (λ_ x _=>n'-(intOf x).toNat);case atStart=>exact⟨0,v,Nat.zero_le _,rfl,rfl,Ho.out,bj.out⟩
    case round=>
     clear p0 p1 q0 q1 Hp Hq Ho bj;obtain⟨j,v2,hj,rfl,rfl,ho,pb⟩:=hrel;have bQ:=aO dY.out pb;obtain⟨Hp,Hq⟩:=aZ (mQ.out.below pb) (yQ.out.below pb);by_cases bC:j<n'
     . have fZ:j<tb.length:=by rw[Dt.out];exact bC
       obtain⟨l',s',m',ut,hy⟩:∃l s m e,tb[j]=(l,s,m,e):=⟨_,_,_,_,rfl⟩;obtain⟨b',o',rQ,kO⟩:=qD.out.term j fZ hy;have aDz:b'<w.heap.size:=World.block_lt_of_cell? w _ (kO.cell 0 zm);have Ov:=gJ n' cap' j (j:Int) rQ bC rfl;have il:=wU.out _ (List.getElem_mem fZ);have hdy:=jK.out _ (List.getElem_mem fZ);have rU:=SA.out k j fZ;rw[Hgx.out,hy]at rU;rw[hy]at il hdy;obtain⟨D,hD⟩:=aK (aJ (s,m,ex) *aJ (s',m',ut));simp only at rU il hdy;rw[hD]at rU;have l1:=(se Ga.out.1);have l2:=(se hdy.1);have hmm:=λW=>axS l l' V W l1.1 l2.1 zo l1.2 l2.2 (λi _=>by have:=yw l i;have:=yw l' i;have h8:iY l<=d:=Ga.out.2;have h9:iY l'<=e:=hdy.2;omega);obtain⟨L,hL⟩:=aK (eT l l');rw[hL]at hmm rU;have fw:=λW=>aij s m ex s' m' ut D hD W fO.out.1 il.1;obtain⟨Ht,Hu,Ho,bj,cn,RL,pp⟩:=mE (Ht0.out.below bQ) ((show bH w b' (o'+j*4) [ai l',aj s',ai m',ah ut]from kO).below bQ) ho pb rU hmm fw;have Yx:=pb.size;clear ho pb rU hmm fw kO rQ il hdy hD hL hy l1 l2 bQ;have Hb:=hbz wr;obtain⟨p0,p1⟩:=Hp.out.c2;obtain⟨q0,q1⟩:=Hq.out.c2;obtain⟨t0,t1,t2,t3⟩:=Ht.out.w4;obtain⟨u0,u1,u2,u3⟩:=Hu.out.w4;go_wp2_with fail;refine bV (λw'=>aF w' (w.heap.size) 1 (.slice a n cap)/\aF w' (w.heap.size+1) 1 (.slice a' n' cap')/\aF w' b (o+k*4) (ai l)/\aF w' b' (o'+j*4) (ai l')) (λi=>Nat.blt i 100000) [(0,true),(1,true),(2,true),(3,true),(4,true),(5,true),(6,true),(7,true),(8,true),(9,true),(10,true),(11,true),(12,false),(13,true),(14,true),(15,true),(16,true),(17,true)] zk zk rfl zk zc ⟨p1,q1,t0,u0⟩ ?_;iterate 12 (refine pT rfl rfl ?_ (by intro w' ⟨q0,q1,q2,q3⟩;go_simp;try with_reducible rfl);try simp only[UU])
       refine aR rfl rfl (λK hK=>?_);go_simp;with_reducible refine(RL.out _).mono ?_
       rintro e w4 ⟨rfl,hq⟩;have ag:Bw wr w4:=by first|exact hq|exact bo hq
       obtain⟨Hp,p0,p1⟩:=bi Hp ag;obtain⟨Hq,q0,q1⟩:=bi Hq ag;replace Ht:=kW Ht ag;replace Hu:=kW Hu ag;obtain⟨t0,t1,t2,t3⟩:=Ht.out.w4;obtain⟨u0,u1,u2,u3⟩:=Hu.out.w4;replace Hb:=az Hb ag;refine hK _ _ (λ_=>⟨p1,q1,t0,u0⟩) ?_;try simp only[UU]
       iterate 5 (refine pT rfl rfl ?_;try simp only[UU])
       simp only[bu];go_wp2_with fail;refine bV (λw'=>aF w' (w.heap.size) 1 (.slice a n cap)/\aF w' (w.heap.size+1) 1 (.slice a' n' cap')/\aF w' b (o+k*4+1) (aj s)/\aF w' b (o+k*4+2) (ai m)/\aF w' b (o+k*4+3) (ah ex)/\aF w' b' (o'+j*4+1) (aj s')/\aF w' b' (o'+j*4+2) (ai m')/\aF w' b' (o'+j*4+3) (ah ut)) (λi=>Nat.blt i 100000) [(0,true),(1,true),(2,true),(3,true),(4,true),(5,true),(6,true),(7,true),(8,true),(9,true),(10,true),(11,true),(12,true),(13,true),(14,false),(15,true),(16,false),(17,false),(18,true)] zk zk rfl zk zc ⟨p1,q1,t1,t2,t3,u1,u2,u3⟩ ?_;iterate 14 (refine pT rfl rfl ?_ (by intro w' ⟨q0,q1,q2,q3,q4,q5,q6,q7⟩;go_simp;try with_reducible rfl);try simp only[UU])
       refine aR rfl rfl (λK hK=>?_);go_simp;with_reducible refine(pp.out _).mono ?_
       rintro e w6 ⟨rfl,hq⟩;have ag:Bw w4 w6:=by first|exact hq|exact bo hq
       obtain⟨Hp,p0,p1⟩:=bi Hp ag;obtain⟨Hq,q0,q1⟩:=bi Hq ag;replace Ht:=kW Ht ag;replace Hu:=kW Hu ag;obtain⟨t0,t1,t2,t3⟩:=Ht.out.w4;obtain⟨u0,u1,u2,u3⟩:=Hu.out.w4;replace Hb:=az Hb ag;refine hK _ _ (λ_=>⟨p1,q1,t1,t2,t3,u1,u2,u3⟩) ?_;try simp only[UU]
       refine pT rfl rfl ?_;try simp only[UU]
       refine aR rfl rfl (λK hK=>?_);go_simp;refine hK _ _ (λ_=>⟨aV p1,aV q1,aV t1,aV t2,aV t3,aV u1,aV u2,aV u3⟩) ?_;try simp only[UU]
       refine bZ (λW7=>au W7 (w6.heap.size) 67 [ai L,aj (aC (dN D)),ai (nt (dN D).natAbs),ah (dE D)]/\Bw w6 W7) (by first|exact eo|exact eu) ?_;rintro W7 ⟨qd,ag⟩;have aEr:=Hp.out.lt;have aEB:=Hq.out.lt;replace Hp:=kB Hp ag;replace Hq:=kB Hq ag;replace Ht:=kW Ht ag;replace Hu:=kW Hu ag;have Hd:=ar qd;clear qd;obtain⟨p0,p1⟩:=Hp.out.c2;obtain⟨q0,q1⟩:=Hq.out.c2;obtain⟨t0,t1,t2,t3⟩:=Ht.out.w4;obtain⟨u0,u1,u2,u3⟩:=Hu.out.w4;obtain⟨d0,d1,d2,d3⟩:=Hd.out.c4;replace Hb:=az Hb ag;refine aR rfl rfl (λK hK=>?_);have eD:=ownsRow_below Ho.out Hb.out;have hs3:=Hb.out.size;have hkn:k*n'+j<4096:=by have h1:(k+1) *n'<=n*n':=Nat.mul_le_mul_right _ hlt;rw[Nat.succ_mul]at h1;omega
       refine wp_append_own _ _ _ 22 rfl W.heap.size 67 i0 _ 4 48 Tryz.underlying22 Hi.out dF.out dv.out di.out rfl zd v2 (k*n'+j) ((oX ta tb k j).flatMap aY) rfl eD ⟨w6.heap.size,0,none⟩ 1 1 [ai L,aj (aC (dN D)),ai (nt (dN D).natAbs),ah (dE D)] rfl rfl (gW Hd.out) zy zx zo zo ?_;intro v' w8 eV bM _;have nb:∀b,b<W.heap.size->some b≠v2.ownBlock:=λb hb e=>by have:=dX eD b e.symm;omega
       refine hK _ _ (λ_=>⟨dc bM p1 (nb _ zp),dc bM q1 (nb _ zp),dc bM t1 (nb _ zp),dc bM t2 (nb _ zp),dc bM t3 (nb _ zp),dc bM u1 (nb _ zp),dc bM u2 (nb _ zp),dc bM u3 (nb _ zp)⟩) ?_;try simp only[UU]
       have fG:=(bj.out.trans (Hb.out.mono Yx)).grown bM zo (λj e=>dX eD j e);rw[show(oX ta tb k j).flatMap aY++[Value.string (bs L),aj (aC (dN D)),ai (nt (dN D).natAbs),ah (dE D)]=(oX ta tb k (j+1)).flatMap aY from cn.out.symm]at eV;obtain⟨gD,jb⟩:=aZ fG eV;refine pT rfl rfl ?_;try simp only[UU]
       simp only[bu];clear nb eD eV bM fG p0 p1 q0 q1 t0 t1 t2 t3 u0 u1 u2 u3 d0 d1 d2 d3;go_wp2;go_roundw;case rel=>exact⟨j+1,v',by omega,by go_num,rfl,jb.out,gD.out⟩
       case measure=>exact bI
     . obtain rfl:j=n':=by omega
       rw[Sy.out,GD.out,show k*j+j=(k+1) *j from(Nat.succ_mul k j).symm]at ho;obtain⟨Ho,bj⟩:=aZ ho pb;clear ho pb bQ;obtain⟨p0,p1⟩:=Hp.out.c2;obtain⟨q0,q1⟩:=Hq.out.c2;go_wp2;go_roundw;case rel=>exact⟨k+1,v2,by omega,by go_num,rfl,Ho.out,bj.out⟩
       case measure=>exact bI
  . obtain rfl:k=n:=by omega
    rw[Be.out]at ho;have Hb:Hid (Bw w wo):=bQ;obtain⟨a2,c2,rfl,hat,_⟩:=dS ho;obtain⟨Rq,Hp,Hr⟩:=cX (rK.out wo a2 c2 hat) (mQ.out.below pb) (jN.out.below pb);clear ho pb bQ hat;obtain⟨p0,p1⟩:=Hp.out.c2;obtain⟨r0,aH,r1,aI⟩:=Hr.out.g2;go_wp2_with fail;refine(Rq.out).mono ?_;rintro e w6 ⟨a9,d9,rfl,gZ,ag⟩;obtain⟨Hp,p0,p1⟩:=bi Hp ag;obtain⟨Hr,r0,aH,r1,aI⟩:=bA Hr ag;replace Hb:=az Hb ag;have xf:=ar gZ;clear gZ;go_wp2;have h9:=xf.out.store Hr.out zd (ah (V:Int)) (.slice a9 C.length d9);refine fP (λw9=>bE w9 a9 d9 C/\au w9 (w.heap.size+1+1) 24 [ah (V:Int),.slice a9 C.length d9]/\Bw w w9) ⟨h9,(Hr.out.set 0 _).set 1 _,(Hb.out.setCell zp _).setCell zp _⟩ ?_;rintro w9 ⟨q1,q2,q3⟩;obtain⟨x0,x1⟩:=q2.c2;exact bodyPost_ret (v:=.tuple #[.agg #[ah (V:Int),.slice a9 C.length d9],ah 0]) (by simp[results,Tryz.results34,go_sem,x0,x1]) rfl ⟨_,_,rfl,q1,q3⟩
end Go.Proofs.YtnjfebkelecgaaaGreatDoor
namespace Go.Proofs.YtnjfebkelecgaaaGreatDoor
def yb (X:Nat->Dyadic)(V:Nat)(S:List (List Dyadic))(k:Nat):Dyadic:=sumTo (λj=>(mo S k).getD j 0*X j) (V+1)
def KR (X:Nat->Dyadic)(V:Nat)(l:List Dyadic):Dyadic:=sumTo (λk=>l.getD k 0*X k) (V+1)
def uZ (f:List Dyadic->Dyadic):List (List Dyadic)->Dyadic
 |[]=>1
 |l::ls=>f l*uZ f ls
def ahS (f:List Dyadic->Dyadic)(a b:List (List Dyadic)):uZ f (a++b)=uZ f a*uZ f b:=by
 induction a with
 |nil=>show _=1*_;rw[List.nil_append];grind
 |cons x a ih=>rw[List.cons_append,uZ,uZ,ih];grind
def ahT (f:List Dyadic->Dyadic)(l:List Dyadic)(n:Nat):uZ f (List.replicate n l)=cP (f l) n:=by
 induction n with
 |zero=>rfl
 |succ n ih=>rw[List.replicate_succ,uZ,ih,cP];grind
def aoM (X:Nat->Dyadic)(V:Nat)(ls:List (List Dyadic)):∀(D:Nat) (cs:List Dyadic),iR X V (D+ls.length) (ik V D cs ls)=uZ (KR X V) ls*iR X V D cs:=by
 induction ls with
 |nil=>intro D cs;show _=1*_;rw[ik];show iR X V D cs=_;grind
 |cons l ls ih=>intro D cs;rw[ik,List.length_cons,show D+(ls.length+1)=D+1+ls.length by omega,ih,aoP,uZ];unfold KR;grind
def aoN (X:Nat->Dyadic)(V:Nat)(c:Dyadic):iR X V 0 [c]=c:=by
 unfold iR;rw[ayd];show 0+c*eZ X (List.replicate (V+1) 0) (V+1)=c
 have h:∀k,eZ X (List.replicate (V+1) 0) k=1:=λk=>by
  induction k with
  |zero=>rfl
  | succ k ih=>
    have e:(List.replicate (V+1) 0).getD k 0=0:=by rw[List.getD_eq_getElem?_getD,List.getElem?_replicate];split<;>rfl
    rw[eZ,ih,e];show(1:Dyadic) *1=1;grind
 rw[h];grind
def axg (X:Nat->Dyadic)(V:Nat)(S:List (List Dyadic))(es:List Nat)(n:Nat):uZ (KR X V) (lT S es n)=eZ (yb X V S) es n:=by
 induction n with
 |zero=>rfl
 |succ n ih=>rw[PU,ahS,ih,ahT,eZ];rfl
def ayX (X:Nat->Dyadic)(V:Nat):KR X V (oP V)=sumTo X (V+1):=by
 unfold KR;refine sumTo_congr _ (λk hk=>?_);show(oP V).getD k 0*X k=X k
 unfold oP;rw[List.getD_eq_getElem?_getD,List.getElem?_replicate,if_pos hk];show 1*X k=X k;grind
def aoO (X:Nat->Dyadic)(V D:Nat)(S:List (List Dyadic))(c:Dyadic)(es:List Nat)(h:es.sum<=D):iR X V D (kJ V D S c es)=c*eZ (yb X V S) es es.length*cP (sumTo X (V+1)) (D-es.sum):=by have h1:=aoM X V (lT S es es.length++List.replicate (D-es.sum) (oP V)) 0 [c];rw[PW V D S es h,Nat.zero_add,ahS,axg,ahT,ayX,aoN]at h1;unfold kJ;rw[h1];grind
def Xi (Y:Nat->Dyadic)(c:Dyadic)(m:List UInt8)(k:Nat):fJ Y c m k=c*eZ Y (m.map UInt8.toNat) k:=by
 induction k with
 |zero=>show c=c*1;grind
 | succ k ih=>
   have e:(m.getD k 0).toNat=(m.map UInt8.toNat).getD k 0:=by
    rw[List.getD_eq_getElem?_getD,List.getD_eq_getElem?_getD,List.getElem?_map];cases m[k]? with
    |none=>rfl
    |some x=>rfl
   rw[fJ,ih,eZ,e];grind
def avD (F:Dyadic)(Y:Nat->Dyadic)(x:List Nat)(k:Nat):eZ (λk=>F*Y k) x k=cP F ((x.take k).sum) *eZ Y x k:=by
 have pm:∀(a b:Dyadic) (n:Nat),cP (a*b) n=cP a n*cP b n:=λa b n=>by
  induction n with
  |zero=>show(1:Dyadic)=1*1;grind
  |succ n ih=>rw[cP,cP,cP,ih];grind
 induction k with
 |zero=>show(1:Dyadic)=1*1;grind
 |succ k ih=>rw[eZ,ih,eZ,Qd,XP,pm];grind
def Xh {Y Z:Nat->Dyadic}(x:List Nat)(k:Nat)(h:∀j,j<k->Y j=Z j):eZ Y x k=eZ Z x k:=by
 induction k with
 |zero=>rfl
 |succ k ih=>rw[eZ,eZ,ih (λj hj=>h j zo),h k zo]
def ahZ (n:Nat):cP 1 n=1:=by
 induction n with
 |zero=>rfl
 |succ n ih=>rw[cP,ih];grind
def aip (X Y:Nat->Dyadic)(F:Dyadic)(V D:Nat)(S:List (List Dyadic))(ts:List aQ)(hd:fy V D ts)(hs:sumTo X (V+1)=F)(hl:∀k,k<V->yb X V S k=F*Y k):iR X V D (fQ V D S (ts.map λt=>(aJ t.2,t.1.map UInt8.toNat)))=cP F D*df (fD Y V) ts:=by
 have hds:∀u∈ts.map (λt=>(aJ t.2,t.1.map UInt8.toNat)),u.2.sum<=D:=λu hu=>by obtain⟨t,ht,rfl⟩:=List.mem_map.1 hu;exact(hd t ht).2
 rw[(arC (h:=iR X V D) V D _ S rfl (aAV _ _ _) (λa b ha hb=>aoL X V _ a b (by rw[ha,hb])) _ hds).1];clear hds;induction ts with
 |nil=>show(0:Dyadic)=_*0;grind
 | cons t ts ih=>
   have ht:=hd t zm;have hlen:(t.1.map UInt8.toNat).length=V:=by rw[List.length_map];exact(se ht.1).1
   have htot:(t.1.map UInt8.toNat).sum<=D:=ht.2;have e1:eZ (yb X V S) (t.1.map UInt8.toNat) V=cP F ((t.1.map UInt8.toNat).sum) *eZ Y (t.1.map UInt8.toNat) V:=by rw[Xh _ V hl,avD,List.take_of_length_le zo]
   rw[List.map_cons,KU,ih (λu hu=>hd u (by simp[hu])),aoO X V D S _ _ htot,hlen,hs,e1,df];unfold fD;rw[Xi];have e2:cP F D=cP F ((t.1.map UInt8.toNat).sum) *cP F (D-(t.1.map UInt8.toNat).sum):=by rw[<-XP];congr 1;omega
   rw[e2];grind
def aio (X:Nat->Dyadic)(V D:Nat)(S:List (List Dyadic))(ts:List aQ)(hd:fy V D ts)(hs:sumTo X (V+1)=1):iR X V D (fQ V D S (ts.map λt=>(aJ t.2,t.1.map UInt8.toNat)))=df (fD (yb X V S) V) ts:=by rw[aip X (yb X V S) 1 V D S ts hd hs (λk _=>by grind),ahZ];grind
def tH (j k:Nat):Dyadic:=if k=j then 1 else 0
def aji (j n:Nat)(h:j<n)(f:Nat->Dyadic):sumTo (λk=>f k*tH j k) n=f j:=by
 rw[Yt _ j n h (λk _ hk=>by show f k*tH j k=0;unfold tH;rw[if_neg hk];grind)];show f j*tH j j=f j
 unfold tH;rw[if_pos rfl];grind
def azZ (j d:Nat)(x:List Nat)(hx:x.sum=d)(hj:j<x.length):eZ (tH j) x x.length=Bu j d x:=by
 have pz:∀n,0<n->cP (0:Dyadic) n=0:=λn hn=>by
  cases n with
  |zero=>omega
  |succ n=>rw[cP];grind
 have gen:∀k,eZ (tH j) x k=if ∀i,i<k->i≠j->x.getD i 0=0 then 1 else 0:=λk=>by
  induction k with
  |zero=>rw[if_pos (λi hi=>by omega)];rfl
  | succ k ih=>
    rw[eZ,ih];by_cases h1:∀i,i<k->i≠j->x.getD i 0=0
    . rw[if_pos h1];by_cases h2:k=j
      . subst h2;rw[if_pos (λi hi hn=>h1 i zo hn)];unfold tH;rw[if_pos rfl,ahZ];grind
      . by_cases h3:x.getD k 0=0
        . rw [if_pos (fun i hi hn=>by
           by_cases h:i=k
           . rw[h];exact h3
           . exact h1 i zo hn),h3]
          show(1:Dyadic) *1=1;grind
        . rw[if_neg (λh=>h3 (h k zo h2))];unfold tH;rw[if_neg h2,pz _ zo];grind
    . rw[if_neg h1,if_neg (λh=>h1 (λi hi hn=>h i zo hn))];grind
 rw[gen];unfold Bu;by_cases h:x.getD j 0=d
 . rw[if_pos h,if_pos (λi hi hn=>by have:=Ul x i j hn;omega)]
 . rw [if_neg h,if_neg];intro hall;have pU:=Yu x j 0 hj;have:(x.set j 0).sum=0:=by
    have:x.set j 0=List.replicate x.length 0:=by
     refine List.ext_getElem zm (λi h1 h2=>?_);have hi:i<x.length:=by simpa using h1
     rw[List.getElem_set,List.getElem_replicate];by_cases e:j=i
     . rw[if_pos e]
     . rw[if_neg e];have:=hall i hi (λh=>e h.symm);simpa[hi]using this
    rw[this,List.sum_replicate_nat];omega
   omega
def ayP (V D j i:Nat)(cs:List Dyadic)(hj:j<V+1)(hi:i<cnt V D)(hx:((bK (V+1) D).getD i []).getD j 0=D)(_hD:0<D):cs.getD i 0=iR (tH j) V D cs:=by
 have gy:(bK (V+1) D).length=cnt V D:=nS V D;have hm:∀k,k<cnt V D->(bK (V+1) D).getD k []∈bK (V+1) D:=λk hk=>by rw[show(bK (V+1) D).getD k []=(bK (V+1) D)[k]'zo by simp[show k<(bK (V+1) D).length by omega]];exact List.getElem_mem _
 unfold iR
 rw[ajM (h:=Bu j D) _ _ (λx hx=>by
  obtain⟨h1,h2⟩:=(kV V D x).1 hx
  rw[<-h1];exact azZ j D x h2 zo)]
 unfold qw;rw[gy,Yt _ i (cnt V D) hi (λk hk Cc=>?_)]
 . show _=cs.getD i 0*Bu j D ((bK (V+1) D).getD i [])
   unfold Bu;rw[if_pos hx];grind
 . show cs.getD k 0*Bu j D ((bK (V+1) D).getD k [])=0
   unfold Bu;rw[if_neg,show cs.getD k 0*0=0 by grind];intro h;obtain⟨a1,a2⟩:=(kV V D _).1 (hm k hk);obtain⟨b1,b2⟩:=(kV V D _).1 (hm i hi);have he:=aqj (x:=(bK (V+1) D).getD k []) (y:=(bK (V+1) D).getD i []) (n:=j) (d:=D) (by rw[a1,b1]) a2 b2 h hx;have hn:=PR V D;have e1:(bK (V+1) D).getD k []=(bK (V+1) D)[k]'zo:=by simp[show k<(bK (V+1) D).length by omega]
   have e2:(bK (V+1) D).getD i []=(bK (V+1) D)[i]'zo:=by simp[show i<(bK (V+1) D).length by omega]
   rw[e1,e2]at he;exact Cc (PC hn he)
end Go.Proofs.YtnjfebkelecgaaaGreatDoor
