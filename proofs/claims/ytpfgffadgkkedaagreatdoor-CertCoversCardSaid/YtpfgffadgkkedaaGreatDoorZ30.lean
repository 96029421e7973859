/- Package poly,on: Mul of two. -/
import Derived.Test.YtpfgffadgkkedaaGreatDoorZ7
import Derived.Test.YtpfgffadgkkedaaGreatDoorZ29
import Derived.Test.YtpfgffadgkkedaaGreatDoorZ20
import Derived.Test.YtpfgffadgkkedaaGreatDoorZ15
import Derived.Test.YtpfgffadgkkedaaGreatDoorZ28
import Derived.Test.YtpfgffadgkkedaaGreatDoorZ13
import Derived.Test.YtpfgffadgkkedaaGreatDoorZ14
import Derived.Test.YtpfgffadgkkedaaGreatDoorZ16
import Derived.Test.YtpfgffadgkkedaaGreatDoorZ12
set_option linter.all false
set_option maxRecDepth 100000
set_option maxHeartbeats 16000000
namespace Go.Proofs.YtpfgffadgkkedaaGreatDoor
open Go.RowKit
attribute [local go_sem ↓] Go.wp_at_zero Go.wp_at_succ
def atD (V B d e n n':Nat)(b:Nat)(a a':Option Addr)(cap cap':Nat)(ta tb C:List Trm)(w:World)(hV:0<V)(hn:ta.length=n)(hn':tb.length=n')(ll:dU V B ta)(gU:dU V B tb)(AK:DegT V d ta)(yw:DegT V e tb)(hde:d+e<=127)(hl:n*n'<=4096)(hB:B<=100000000)(hb:ar w b 41 [af (V:Int),.slice a n cap,af (V:Int),.slice a' n' cap'])(ha:aW w a cap ta)(ha':aW w a' cap' tb)(hT:aB w)(hC:aU (fO ta tb)=C):
 Cl 225 #[.slice (some ⟨b,0,none⟩) 2 2] w λex w'=>∃a9 c9,ex=.returned (.tuple #[.agg #[af (V:Int),.slice a9 C.length c9],af 0])/\aW w' a9 c9 C/\Bw w w':=by
 have hV2:V<=12:=ll.1.2.2.2;have gq:n<=4096:=by have:=ll.1.2.2.1;omega
 have hl2:n'<=4096:=by have:=gU.1.2.2.1;omega
 have hlk:=λW (hW:Bw w W)=>ad8 V B b 0 2 2 [⟨V,a,ta.length,cap⟩,⟨V,a',tb.length,cap'⟩] (λk=>if k=0 then ta else tb) W rfl zd zd (by rw[hn,hn'];exact At.azW (hb.below hW)) (by
  intro k hk;rcases k with _|k
  . exact⟨a,cap,rfl,(ha.below hW).w,ll⟩
  . obtain rfl:k=0:=by simp at hk;omega
    exact⟨a',cap',rfl,(ha'.below hW).w,gU⟩) (hT.below hW)
 have hcn:∀W (hW:Bw w W),Cl 206 #[.slice a n cap] W λe w'=>∃a1 d1,e=.returned (.slice a1 n d1)/\aW w' a1 d1 ta/\Bw W w':=λW hW=>(QK a n cap ta W hn zo (by rw[<-hn];exact ha.2.1) (ha.1.below hW)).mono (by
  rintro e w' ⟨v',rfl,ho,hb⟩;obtain⟨a1,d1,rfl,_⟩:=cw ho;rw[<-hn]at ho
  exact⟨a1,d1,rfl,BL ho,hb⟩)
 have TF:=λa1 d1 W (hW:Bw w W) (hp:aW W a1 d1 ta)=>atI V B d e n n' a1 a' d1 cap' ta tb C W hV hV2 hn hn' AK yw hde (λt ht=>ll.2 t ht) (λt ht=>gU.2 t ht) hl gq hl2 hB hp.1 (ha'.1.below hW) (hT.below hW) hC;obtain⟨m,hm⟩:=au C.length;rw[hm]at TF⊢;obtain⟨Pb,jD,Htm,H0⟩:=cG hlk hcn TF hb;clear hlk hcn TF hn hn' ll gU AK yw hb ha ha' hT hC hm;obtain⟨W,cd,ae,ai⟩:=fJ w 41 [af 0,.slice none 0 0];have Hz:Hid (ar W b 41 [af (V:Int),.slice a n cap,af (V:Int),.slice a' n' cap']):=H0.out.below ae.1.out;have hbl:=H0.out.lt;go_enter Tryz.func225,Tryz.ntmps225;go_wp2_with fail;refine aK ae (Pb.out _ ae.1.out) λw1 ae ai=>?_;replace Hz:=aj (H0.out.below ae.1.out);have xS:=ae.1;have XZ:=ae.2.1;skip
 have Hb:=hbz w1;have hs1:=xS.out.size;have lr1:=XZ.out.lt;obtain⟨ae,ai⟩:=qZ (Hz.an trivial);go_upto_region 4 with fail
 go_cut[5] (λs5 wx=>∃(g:Nat) (a1:Option Addr) (d1:Nat),s5=.pointer (some ⟨g,0,none⟩)/\w1.heap.size<=g/\ar wx g 41 [af (V:Int),.slice a1 n d1]/\aW wx a1 d1 ta/\Bw w1 wx);case first=>
  obtain⟨Hz,_⟩:=ae;obtain⟨z0,z1,z2,z3⟩:=Hz.out.c4;have qT:∀w',iK w1 w'->aJ w' b 0 (af (V:Int))/\aJ w' b 1 (.slice a n cap)/\aJ w' b 2 (af (V:Int))/\aJ w' b 3 (.slice a' n' cap'):=λw' h=>⟨cell_later h z0,cell_later h z1,cell_later h z2,cell_later h z3⟩;refine NL (λw'=>iK w1 w') (λi=>Nat.blt i 11) 10 41 [af 0,.slice none 0 0] [(0,true),(1,true),(2,true),(3,true),(4,true),(5,true),(6,true),(7,true),(8,false),(9,true)] [(11,false)] zk zk rfl rfl rfl zk zk zc zc (λK a w h=>Nh rfl rfl (λK' hK=>by go_simp;exact hK _ _ h)) ?_;clear z0 z1 z2 z3 Hz;intro w1f ak;replace Hb:=aj (aF Hb.out ak);refine⟨Hb.out,?_⟩;iterate 8 (refine yY rfl rfl (v:=?_) (λw' hw'=>?_) ?_;rotate_left;(focus have hw':=qT w' hw';obtain⟨q0,q1,q2,q3⟩:=hw';go_simp;try with_reducible rfl);try simp only[UU])
  refine El rfl rfl (λK hK=>?_);go_simp;with_reducible refine(jD.out _ (aF xS.out Hb.out)).mono ?_
  rintro e w9 ⟨a1,d1,rfl,hp1,hq⟩;refine hK _ _ hq (λw2 ak hb2=>?_);have qX:=aj (hp1.below hb2);clear hp1;replace Hb:=aj (aF Hb.out ak);refine⟨Hb.out,?_⟩;clear ak hb2 hq hK K;have HX:=qX;clear qX;try simp only[UU]
  refine yY rfl rfl (v:=?_) (λw' hw'=>?_) ?_;rotate_left;(focus go_simp;try with_reducible rfl);try simp only[UU]
  intro o_b hb0 qx;have Ho:=aj qx;clear qx;obtain⟨o0,Gi,o1,Gj⟩:=Ho.out.g2;try simp only[U1]
  try simp only[Act.put,U2,U3]
  refine aO rfl rfl (λK hK=>?_);go_simp;refine hK _ _ (λh=>absurd h zd) ?_;try simp only[UU]
  simp only[bH];go_wp2_with fail;go_meet;exact⟨o_b,_,_,rfl,hb0,(Ho.out.set 0 _).set 1 _,HX.out.store Ho.out zd _ _,(Hb.out.setCell zp _).setCell zp _⟩
 case rest=>
  obtain⟨g,a1,d1,rfl,hg,fT,hp1,hbc⟩:=hcut;have dM:=aF xS.out hbc;obtain⟨JV,uz,sw⟩:=bM fT hp1 hbc;have Ko:=XZ;have szc:=hbc.size;have aX:=ue 1 1 0 0 (rfl:(some ⟨b,2,none⟩:Option Addr)=_) zo rfl;rw[Nat.zero_mul,Nat.add_zero]at aX;clear fT hp1 hbc dM Hb;go_wp2_with fail;go_loopw[29] (λx wr=>∃(a2:Option Addr) (d2:Nat),((x=af 0/\ar wr g 41 [af (V:Int),.slice a2 n d2]/\aW wr a2 d2 ta)\/(x=af 1/\ar wr g 41 [af (V:Int),.slice a2 m d2]/\aW wr a2 d2 C))/\Bw w1 wr) (λx _=>1-(intOf x).toNat);case atStart=>exact⟨a1,d1,.inl ⟨rfl,JV.out,uz.out⟩,sw.out⟩
  case round=>
   clear JV uz sw;obtain⟨a2,d2,⟨rfl,fT,hp2⟩ |⟨rfl,fT,hp2⟩,pb⟩:=hrel
   . have Ho:Hid (ar wr g 41 [af (V:Int),.slice a2 n d2]):=fT;have Hz:Hid (ar wr b 41 [af (V:Int),.slice a n cap,af (V:Int),.slice a' n' cap']):=H0.out.below (aF xS.out pb);obtain⟨aP,xN⟩:=aH pb hp2;have ic:=pb.size;clear pb hp2 fT;have Hb:=hbz wr;obtain⟨ae,ai⟩:=qZ (Hz.an<|Ho.an trivial);have HP:Hid (aW wr a2 d2 ta):=xN.out;obtain⟨W5,wB,aG,ae,ai⟩:=bO wr (Hb.an<|HP.an ae) 41 [af (V:Int),.slice a' n' cap'];go_wp2_with fail;refine(Htm.out a2 d2 _ (aF (aF xS.out aP.out) ae.2.1.out) ae.2.2.1.out).mono ?_;rintro e w6 ⟨a9,d9,rfl,IB,ak⟩;obtain⟨ae,ai⟩:=qX ak ae;have Pz:=aj IB;clear IB;have HX:Hid (aW w6 a9 d9 C):=Pz.out;obtain⟨W7,AB,aG,ae,ai⟩:=bO w6 (HX.an ae) 41 [af (V:Int),.slice a9 m d9];go_wp2;go_roundw;case rel=>exact⟨a9,d9,.inr ⟨rfl,(ae.2.2.2.2.2.2.1.out.set 0 _).set 1 _,ae.2.1.out.store ae.2.2.2.2.2.2.1.out zd _ _⟩,(((aP.out.trans (ae.2.2.2.1.out.mono ic)).setCell zp _).setCell zp _)⟩
     case measure=>simp[intOf]
   . have Ho:Hid (ar wr g 41 [af (V:Int),.slice a2 m d2]):=fT;have Hr:Hid (ar wr w.heap.size 41 [af 0,.slice none 0 0]):=Ko.out.below pb;have Hb:Hid (Bw w wr):=aF xS.out pb;have xN:=aj hp2;clear pb hp2 fT;obtain⟨ae,ai⟩:=qZ (Ho.an<|Hr.an trivial);go_wp2;have h9:=xN.out.store ae.2.1.out zd (af (V:Int)) (.slice a2 m d2);refine dI (λw9=>aW w9 a2 d2 C/\ar w9 w.heap.size 41 [af (V:Int),.slice a2 m d2]/\Bw w w9) ⟨h9,(ae.2.1.out.set 0 _).set 1 _,(Hb.out.setCell zp _).setCell zp _⟩ ?_;rintro w9 ⟨q1,q2,q3⟩;obtain⟨x0,x1⟩:=q2.c2;exact bodyPost_ret (v:=.tuple #[.agg #[af (V:Int),.slice a2 m d2],af 0]) (by simp[results,Tryz.results225,go_sem,x0,x1]) rfl ⟨_,_,rfl,q1,q3⟩
def af3 (l:List UInt8):(l.flatMap λc:UInt8=>[Value.int .u8 (c.toNat:Int)])=mJ l:=by
 unfold mJ;induction l with
 |nil=>rfl
 |cons x l ih=>rw[List.flatMap_cons,List.map_cons,ih];rfl
def asI (xs:List Raw)(i:Nat)(x:Raw):(((xs.flatMap aV).set (i*3) (ag x.1)).set (i*3+1) (ah x.2.1)).set (i*3+2) (af x.2.2)=(xs.set i x).flatMap aV:=by
 induction xs generalizing i with
 |nil=>simp
 | cons y xs ih=>
   have e:∀(y:Raw) (zs:List Raw),(y::zs).flatMap aV=ag y.1::ah y.2.1::af y.2.2::zs.flatMap aV:=λy zs=>rfl;cases i with
   |zero=>rw[e];rfl
   |succ i=>rw[List.set_cons_succ,e,e,<-ih i,show(i+1) *3=i*3+1+1+1 by omega];rfl
def ata {w:World}{base n cap g:Nat}{e:TypeId}{xs:List Raw}(h:w.ownsRow base e 3 (.slice (some ⟨g,0,none⟩) n cap) n (xs.flatMap aV))(k:Nat)(hk:k<xs.length){s:Bool}{m:List UInt8}{ex:Int}(hx:xs[k]=(s,m,ex)):
 aQ w g (k*3) [ag s,ah m,af ex]:=by
 obtain⟨a,c,hv,hat,_⟩:=cw h;simp only[Value.slice.injEq,true_and]at hv;obtain⟨rfl,rfl⟩:=hv;obtain⟨b,o,hab,p0,p1,p2⟩:=hat.num k hk hx;simp only[Option.some.injEq,Addr.mk.injEq,and_true]at hab;obtain⟨rfl,rfl⟩:=hab;rw[Nat.zero_add]at p0 p1 p2;exact iI p0 p1 p2
def afh (rows:List (List Raw))(j k:Nat)(h:j<rows.length):dG rows[j] k=cO rows j k:=by unfold dG cO cm;simp[List.getD_eq_getElem?_getD,h]
end Go.Proofs.YtpfgffadgkkedaaGreatDoor
