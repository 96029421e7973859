/- Package poly,on: Mul of two. -/
import Derived.Test.YtpfgffadgkkedaaGreatDoorZ7
import Derived.Test.YtpfgffadgkkedaaGreatDoorZ28
import Derived.Test.YtpfgffadgkkedaaGreatDoorZ16
import Derived.Test.YtpfgffadgkkedaaGreatDoorZ15
import Derived.Test.YtpfgffadgkkedaaGreatDoorZ27
import Derived.Test.YtpfgffadgkkedaaGreatDoorZ13
import Derived.Test.YtpfgffadgkkedaaGreatDoorZ14
import Derived.Test.YtpfgffadgkkedaaGreatDoorZ12
set_option linter.all false
set_option maxRecDepth 100000
set_option maxHeartbeats 16000000
namespace Go.Proofs.YtpfgffadgkkedaaGreatDoor
open Go.RowKit
attribute [local go_sem ↓] Go.wp_at_zero Go.wp_at_succ
def auH (V B d e n n':Nat)(b:Nat)(a a':Option Addr)(cap cap':Nat)(ta tb C:List Trm)(w:World)(hV:0<V)(hn:ta.length=n)(hn':tb.length=n')(lf:dL V B ta)(gX:dL V B tb)(AH:DegT V d ta)(yh:DegT V e tb)(hde:d+e<=127)(hl:n*n'<=4096)(hB:B<=100000000)(hb:ar w b 41 [af (V:Int),.slice a n cap,af (V:Int),.slice a' n' cap'])(ha:aW w a cap ta)(ha':aW w a' cap' tb)(hT:aB w)(hC:aS (fQ ta tb)=C):
 Cl 225 #[.slice (some ⟨b,0,none⟩) 2 2] w λex w'=>∃a9 c9,ex=.returned (.tuple #[.agg #[af (V:Int),.slice a9 C.length c9],af 0])/\aW w' a9 c9 C/\Bw w w':=by
 have hV2:V<=12:=lf.1.2.2.2;have gJ:n<=4096:=by have:=lf.1.2.2.1;omega
 have hl2:n'<=4096:=by have:=gX.1.2.2.1;omega
 have hlk:=λW (hW:Bw w W)=>aew V B b 0 2 2 [⟨V,a,ta.length,cap⟩,⟨V,a',tb.length,cap'⟩] (λk=>if k=0 then ta else tb) W rfl zd zd (by rw[hn,hn'];exact At.aBa (hb.below hW)) (by
  intro k hk;rcases k with _|k
  . exact⟨a,cap,rfl,(ha.below hW).w,lf⟩
  . obtain rfl:k=0:=by simp at hk;omega
    exact⟨a',cap',rfl,(ha'.below hW).w,gX⟩) (hT.below hW)
 have hcn:∀W (hW:Bw w W),Cl 206 #[.slice a n cap] W λe w'=>∃a1 d1,e=.returned (.slice a1 n d1)/\aW w' a1 d1 ta/\Bw W w':=λW hW=>(QH a n cap ta W hn zo (by rw[<-hn];exact ha.2.1) (ha.1.below hW)).mono (by
  rintro e w' ⟨v',rfl,ho,hb⟩;obtain⟨a1,d1,rfl,_⟩:=cz ho;rw[<-hn]at ho
  exact⟨a1,d1,rfl,BG ho,hb⟩)
 have TG:=λa1 d1 W (hW:Bw w W) (hp:aW W a1 d1 ta)=>auO V B d e n n' a1 a' d1 cap' ta tb C W hV hV2 hn hn' AH yh hde (λt ht=>lf.2 t ht) (λt ht=>gX.2 t ht) hl gJ hl2 hB hp.1 (ha'.1.below hW) (hT.below hW) hC;obtain⟨m,hm⟩:=az C.length;rw[hm]at TG⊢;obtain⟨Pb,jC,Htm,H0⟩:=cE hlk hcn TG hb;clear hlk hcn TG hn hn' lf gX AH yh hb ha ha' hT hC hm;obtain⟨W,bX,ae,ai⟩:=fK w 41 [af 0,.slice none 0 0];have Hz:Hid (ar W b 41 [af (V:Int),.slice a n cap,af (V:Int),.slice a' n' cap']):=H0.out.below ae.1.out;have hbl:=H0.out.lt;go_enter Tryz.func225,Tryz.ntmps225;go_wp2_with fail;refine aK ae (Pb.out _ ae.1.out) λw1 ae ai=>?_;replace Hz:=aj (H0.out.below ae.1.out);have xJ:=ae.1;have Py:=ae.2.1;skip
 have Hb:=hbz w1;have hs1:=xJ.out.size;have lr1:=Py.out.lt;obtain⟨ae,ai⟩:=qZ (Hz.an trivial);go_upto_region 4 with fail
 go_cut[5] (λs5 wx=>∃(g:Nat) (a1:Option Addr) (d1:Nat),s5=.pointer (some ⟨g,0,none⟩)/\w1.heap.size<=g/\ar wx g 41 [af (V:Int),.slice a1 n d1]/\aW wx a1 d1 ta/\Bw w1 wx);case first=>
  obtain⟨Hz,_⟩:=ae;obtain⟨z0,z1,z2,z3⟩:=Hz.out.c4;have oJ:∀w',gF w1 w'->aJ w' b 0 (af (V:Int))/\aJ w' b 1 (.slice a n cap)/\aJ w' b 2 (af (V:Int))/\aJ w' b 3 (.slice a' n' cap'):=λw' h=>⟨cell_later h z0,cell_later h z1,cell_later h z2,cell_later h z3⟩;refine Jt (λw'=>gF w1 w') (λi=>Nat.blt i 11) 10 41 [af 0,.slice none 0 0] [(0,true),(1,true),(2,true),(3,true),(4,true),(5,true),(6,true),(7,true),(8,false),(9,true)] [(11,false)] zk zk rfl rfl rfl zk zk zc zc (λK a w h=>IQ rfl rfl (λK' hK=>by go_simp;exact hK _ _ h)) ?_;clear z0 z1 z2 z3 Hz;intro w1f ak;replace Hb:=aj (aC Hb.out ak);refine⟨Hb.out,?_⟩;iterate 8 (refine vk rfl rfl (v:=?_) (λw' hw'=>?_) ?_;rotate_left;(focus have hw':=oJ w' hw';obtain⟨q0,q1,q2,q3⟩:=hw';go_simp;try with_reducible rfl);try simp only[UU])
  refine yV rfl rfl (λK hK=>?_);go_simp;with_reducible refine(jC.out _ (aC xJ.out Hb.out)).mono ?_
  rintro e w9 ⟨a1,d1,rfl,hp1,hq⟩;refine hK _ _ hq (λw2 ak hb2=>?_);have qX:=aj (hp1.below hb2);clear hp1;replace Hb:=aj (aC Hb.out ak);refine⟨Hb.out,?_⟩;clear ak hb2 hq hK K;have HX:=qX;clear qX;try simp only[UU]
  refine vk rfl rfl (v:=?_) (λw' hw'=>?_) ?_;rotate_left;(focus go_simp;try with_reducible rfl);try simp only[UU]
  intro o_b hb0 qx;have Ho:=aj qx;clear qx;obtain⟨o0,Gf,o1,Gg⟩:=Ho.out.g2;try simp only[U1]
  try simp only[Act.put,U2,U3]
  refine aN rfl rfl (λK hK=>?_);go_simp;refine hK _ _ (λh=>absurd h zd) ?_;try simp only[UU]
  simp only[bE];go_wp2_with fail;go_meet;exact⟨o_b,_,_,rfl,hb0,(Ho.out.set 0 _).set 1 _,HX.out.store Ho.out zd _ _,(Hb.out.setCell zp _).setCell zp _⟩
 case rest=>
  obtain⟨g,a1,d1,rfl,hg,fS,hp1,hbc⟩:=hcut;have dO:=aC xJ.out hbc;obtain⟨JM,sB,se⟩:=bL fS hp1 hbc;have Kk:=Py;have szc:=hbc.size;have aU:=ue 1 1 0 0 (rfl:(some ⟨b,2,none⟩:Option Addr)=_) zo rfl;rw[Nat.zero_mul,Nat.add_zero]at aU;clear fS hp1 hbc dO Hb;go_wp2_with fail;go_loopw[29] (λx wr=>∃(a2:Option Addr) (d2:Nat),((x=af 0/\ar wr g 41 [af (V:Int),.slice a2 n d2]/\aW wr a2 d2 ta)\/(x=af 1/\ar wr g 41 [af (V:Int),.slice a2 m d2]/\aW wr a2 d2 C))/\Bw w1 wr) (λx _=>1-(intOf x).toNat);case atStart=>exact⟨a1,d1,.inl ⟨rfl,JM.out,sB.out⟩,se.out⟩
  case round=>
   clear JM sB se;obtain⟨a2,d2,⟨rfl,fS,hp2⟩ |⟨rfl,fS,hp2⟩,pb⟩:=hrel
   . have Ho:Hid (ar wr g 41 [af (V:Int),.slice a2 n d2]):=fS;have Hz:Hid (ar wr b 41 [af (V:Int),.slice a n cap,af (V:Int),.slice a' n' cap']):=H0.out.below (aC xJ.out pb);obtain⟨aP,xE⟩:=aI pb hp2;have ie:=pb.size;clear pb hp2 fS;have Hb:=hbz wr;obtain⟨ae,ai⟩:=qZ (Hz.an<|Ho.an trivial);have HP:Hid (aW wr a2 d2 ta):=xE.out;obtain⟨W5,wm,aG,ae,ai⟩:=bO wr (Hb.an<|HP.an ae) 41 [af (V:Int),.slice a' n' cap'];go_wp2_with fail;refine(Htm.out a2 d2 _ (aC (aC xJ.out aP.out) ae.2.1.out) ae.2.2.1.out).mono ?_;rintro e w6 ⟨a9,d9,rfl,yw,ak⟩;obtain⟨ae,ai⟩:=qX ak ae;have Fh:=aj yw;clear yw;have HX:Hid (aW w6 a9 d9 C):=Fh.out;obtain⟨W7,Ay,aG,ae,ai⟩:=bO w6 (HX.an ae) 41 [af (V:Int),.slice a9 m d9];go_wp2;go_roundw;case rel=>exact⟨a9,d9,.inr ⟨rfl,(ae.2.2.2.2.2.2.1.out.set 0 _).set 1 _,ae.2.1.out.store ae.2.2.2.2.2.2.1.out zd _ _⟩,(((aP.out.trans (ae.2.2.2.1.out.mono ie)).setCell zp _).setCell zp _)⟩
     case measure=>simp[intOf]
   . have Ho:Hid (ar wr g 41 [af (V:Int),.slice a2 m d2]):=fS;have Hr:Hid (ar wr w.heap.size 41 [af 0,.slice none 0 0]):=Kk.out.below pb;have Hb:Hid (Bw w wr):=aC xJ.out pb;have xE:=aj hp2;clear pb hp2 fS;obtain⟨ae,ai⟩:=qZ (Ho.an<|Hr.an trivial);go_wp2;have h9:=xE.out.store ae.2.1.out zd (af (V:Int)) (.slice a2 m d2);refine dG (λw9=>aW w9 a2 d2 C/\ar w9 w.heap.size 41 [af (V:Int),.slice a2 m d2]/\Bw w w9) ⟨h9,(ae.2.1.out.set 0 _).set 1 _,(Hb.out.setCell zp _).setCell zp _⟩ ?_;rintro w9 ⟨q1,q2,q3⟩;obtain⟨x0,x1⟩:=q2.c2;exact bodyPost_ret (v:=.tuple #[.agg #[af (V:Int),.slice a2 m d2],af 0]) (by simp[results,Tryz.results225,go_sem,x0,x1]) rfl ⟨_,_,rfl,q1,q3⟩
def agy (l:List UInt8):(l.flatMap λc:UInt8=>[Value.int .u8 (c.toNat:Int)])=mU l:=by
 unfold mU;induction l with
 |nil=>rfl
 |cons x l ih=>rw[List.flatMap_cons,List.map_cons,ih];rfl
def atK (xs:List Raw)(i:Nat)(x:Raw):(((xs.flatMap aV).set (i*3) (ag x.1)).set (i*3+1) (ah x.2.1)).set (i*3+2) (af x.2.2)=(xs.set i x).flatMap aV:=by
 induction xs generalizing i with
 |nil=>simp
 | cons y xs ih=>
   have e:∀(y:Raw) (zs:List Raw),(y::zs).flatMap aV=ag y.1::ah y.2.1::af y.2.2::zs.flatMap aV:=λy zs=>rfl;cases i with
   |zero=>rw[e];rfl
   |succ i=>rw[List.set_cons_succ,e,e,<-ih i,show(i+1) *3=i*3+1+1+1 by omega];rfl
def auf {w:World}{base n cap g:Nat}{e:TypeId}{xs:List Raw}(h:w.ownsRow base e 3 (.slice (some ⟨g,0,none⟩) n cap) n (xs.flatMap aV))(k:Nat)(hk:k<xs.length){s:Bool}{m:List UInt8}{ex:Int}(hx:xs[k]=(s,m,ex)):
 aQ w g (k*3) [ag s,ah m,af ex]:=by
 obtain⟨a,c,hv,hat,_⟩:=cz h;simp only[Value.slice.injEq,true_and]at hv;obtain⟨rfl,rfl⟩:=hv;obtain⟨b,o,hab,p0,p1,p2⟩:=hat.num k hk hx;simp only[Option.some.injEq,Addr.mk.injEq,and_true]at hab;obtain⟨rfl,rfl⟩:=hab;rw[Nat.zero_add]at p0 p1 p2;exact jm p0 p1 p2
def afJ (rows:List (List Raw))(j k:Nat)(h:j<rows.length):eH rows[j] k=dA rows j k:=by unfold eH dA cu;simp[List.getD_eq_getElem?_getD,h]
end Go.Proofs.YtpfgffadgkkedaaGreatDoor
