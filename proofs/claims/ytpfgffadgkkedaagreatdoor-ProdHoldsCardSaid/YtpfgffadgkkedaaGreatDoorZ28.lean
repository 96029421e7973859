/- Package poly,on: Mul of two. -/
import Derived.Test.YtpfgffadgkkedaaGreatDoorZ7
import Derived.Test.YtpfgffadgkkedaaGreatDoorZ24
import Derived.Test.YtpfgffadgkkedaaGreatDoorZ16
import Derived.Test.YtpfgffadgkkedaaGreatDoorZ15
import Derived.Test.YtpfgffadgkkedaaGreatDoorZ27
import Derived.Test.YtpfgffadgkkedaaGreatDoorZ13
import Derived.Test.YtpfgffadgkkedaaGreatDoorZ14
import Derived.Test.YtpfgffadgkkedaaGreatDoorZ11
set_option linter.all false
set_option maxRecDepth 100000
set_option maxHeartbeats 16000000
namespace Go.Proofs.YtpfgffadgkkedaaGreatDoor
open Go.RowKit
attribute [local go_sem ↓] Go.wp_at_zero Go.wp_at_succ
def ap5 (V B d e n n':Nat)(b:Nat)(a a':Option Addr)(cap cap':Nat)(ta tb C:List Trm)(w:World)(hV:0<V)(hn:ta.length=n)(hn':tb.length=n')(iq:dJ V B ta)(eK:dJ V B tb)(Dm:DegT V d ta)(vp:DegT V e tb)(Yo:d+e<=127)(hl:n*n'<=4096)(hB:B<=100000000)(hb:ar w b 41 [af (V:Int),.slice a n cap,af (V:Int),.slice a' n' cap'])(ha:aM w a cap ta)(ha':aM w a' cap' tb)(hT:aB w)(hC:aS (fp ta tb)=C):
 Cl 225 #[.slice (some ⟨b,0,none⟩) 2 2] w λex w'=>∃a9 c9,ex=.returned (.tuple #[.agg #[af (V:Int),.slice a9 C.length c9],af 0])/\aM w' a9 c9 C/\Bw w w':=by
 have hV2:V<=12:=iq.1.2.2.2;have od:n<=4096:=by have:=iq.1.2.2.1;omega
 have hl2:n'<=4096:=by have:=eK.1.2.2.1;omega
 have hlk:=λW (hW:Bw w W)=>aaY V B b 0 2 2 [⟨V,a,ta.length,cap⟩,⟨V,a',tb.length,cap'⟩] (λk=>if k=0 then ta else tb) W rfl zd zd (by rw[hn,hn'];exact At.awH (hb.below hW)) (by
  intro k hk;rcases k with _|k
  . exact⟨a,cap,rfl,(ha.below hW).w,iq⟩
  . obtain rfl:k=0:=by simp at hk;omega
    exact⟨a',cap',rfl,(ha'.below hW).w,eK⟩) (hT.below hW)
 have hcn:∀W (hW:Bw w W),Cl 206 #[.slice a n cap] W λe w'=>∃a1 d1,e=.returned (.slice a1 n d1)/\aM w' a1 d1 ta/\Bw W w':=λW hW=>(MN a n cap ta W hn zo (by rw[<-hn];exact ha.2.1) (ha.1.below hW)).mono (by
  rintro e w' ⟨v',rfl,ho,hb⟩;obtain⟨a1,d1,rfl,_⟩:=cO ho;rw[<-hn]at ho
  exact⟨a1,d1,rfl,vQ ho,hb⟩)
 have Py:=λa1 d1 W (hW:Bw w W) (hp:aM W a1 d1 ta)=>aqh V B d e n n' a1 a' d1 cap' ta tb C W hV hV2 hn hn' Dm vp Yo (λt ht=>iq.2 t ht) (λt ht=>eK.2 t ht) hl od hl2 hB hp.1 (ha'.1.below hW) (hT.below hW) hC;obtain⟨m,hm⟩:=az C.length;rw[hm]at Py⊢;obtain⟨Lx,iJ,Htm,H0⟩:=bU hlk hcn Py hb;clear hlk hcn Py hn hn' iq eK Dm vp hb ha ha' hT hC hm;obtain⟨W,bX,ae,ai⟩:=fy w 41 [af 0,.slice none 0 0];have Hz:Hid (ar W b 41 [af (V:Int),.slice a n cap,af (V:Int),.slice a' n' cap']):=H0.out.below ae.1.out;have hbl:=H0.out.lt;go_enter Tryz.func225,Tryz.ntmps225;go_wp2_with fail;refine aJ ae (Lx.out _ ae.1.out) λw1 ae ai=>?_;replace Hz:=aj (H0.out.below ae.1.out);have rf:=ae.1;have LQ:=ae.2.1;skip
 have Hb:=hbz w1;have hs1:=rf.out.size;have lr1:=LQ.out.lt;obtain⟨ae,ai⟩:=qZ (Hz.an trivial);go_upto_region 4 with fail
 go_cut[5] (λs5 wx=>∃(g:Nat) (a1:Option Addr) (d1:Nat),s5=.pointer (some ⟨g,0,none⟩)/\w1.heap.size<=g/\ar wx g 41 [af (V:Int),.slice a1 n d1]/\aM wx a1 d1 ta/\Bw w1 wx);case first=>
  obtain⟨Hz,_⟩:=ae;obtain⟨z0,z1,z2,z3⟩:=Hz.out.c4;have qT:∀w',gU w1 w'->aK w' b 0 (af (V:Int))/\aK w' b 1 (.slice a n cap)/\aK w' b 2 (af (V:Int))/\aK w' b 3 (.slice a' n' cap'):=λw' h=>⟨cell_later h z0,cell_later h z1,cell_later h z2,cell_later h z3⟩;refine RO (λw'=>gU w1 w') (λi=>Nat.blt i 11) 10 41 [af 0,.slice none 0 0] [(0,true),(1,true),(2,true),(3,true),(4,true),(5,true),(6,true),(7,true),(8,false),(9,true)] [(11,false)] zk zk rfl rfl rfl zk zk zc zc (λK a w h=>QF rfl rfl (λK' hK=>by go_simp;exact hK _ _ h)) ?_;clear z0 z1 z2 z3 Hz;intro w1f ak;replace Hb:=aj (aC Hb.out ak);refine⟨Hb.out,?_⟩;iterate 8 (refine Bb rfl rfl (v:=?_) (λw' hw'=>?_) ?_;rotate_left;(focus have hw':=qT w' hw';obtain⟨q0,q1,q2,q3⟩:=hw';go_simp;try with_reducible rfl);try simp only[UU])
  refine ED rfl rfl (λK hK=>?_);go_simp;with_reducible refine(iJ.out _ (aC rf.out Hb.out)).mono ?_
  rintro e w9 ⟨a1,d1,rfl,hp1,hq⟩;refine hK _ _ hq (λw2 ak hb2=>?_);have qX:=aj (hp1.below hb2);clear hp1;replace Hb:=aj (aC Hb.out ak);refine⟨Hb.out,?_⟩;clear ak hb2 hq hK K;have HX:=qX;clear qX;try simp only[UU]
  refine Bb rfl rfl (v:=?_) (λw' hw'=>?_) ?_;rotate_left;(focus go_simp;try with_reducible rfl);try simp only[UU]
  intro o_b hb0 qx;have Ho:=aj qx;clear qx;obtain⟨o0,Nt,o1,Nu⟩:=Ho.out.g2;try simp only[U1]
  try simp only[Act.put,U2,U3]
  refine aP rfl rfl (λK hK=>?_);go_simp;refine hK _ _ (λh=>absurd h zd) ?_;try simp only[UU]
  simp only[bI];go_wp2_with fail;go_meet;exact⟨o_b,_,_,rfl,hb0,(Ho.out.set 0 _).set 1 _,HX.out.store Ho.out zd _ _,(Hb.out.setCell zp _).setCell zp _⟩
 case rest=>
  obtain⟨g,a1,d1,rfl,hg,im,hp1,hbc⟩:=hcut;have dV:=aC rf.out hbc;obtain⟨Fh,pI,nJ⟩:=bM im hp1 hbc;have FO:=LQ;have szc:=hbc.size;have aQ:=mY 1 1 0 0 (rfl:(some ⟨b,2,none⟩:Option Addr)=_) zo rfl;rw[Nat.zero_mul,Nat.add_zero]at aQ;clear im hp1 hbc dV Hb;go_wp2_with fail;go_loopw[29] (λx wr=>∃(a2:Option Addr) (d2:Nat),((x=af 0/\ar wr g 41 [af (V:Int),.slice a2 n d2]/\aM wr a2 d2 ta)\/(x=af 1/\ar wr g 41 [af (V:Int),.slice a2 m d2]/\aM wr a2 d2 C))/\Bw w1 wr) (λx _=>1-(intOf x).toNat);case atStart=>exact⟨a1,d1,.inl ⟨rfl,Fh.out,pI.out⟩,nJ.out⟩
  case round=>
   clear Fh pI nJ;obtain⟨a2,d2,⟨rfl,im,hp2⟩ |⟨rfl,im,hp2⟩,pb⟩:=hrel
   . have Ho:Hid (ar wr g 41 [af (V:Int),.slice a2 n d2]):=im;have Hz:Hid (ar wr b 41 [af (V:Int),.slice a n cap,af (V:Int),.slice a' n' cap']):=H0.out.below (aC rf.out pb);obtain⟨aO,yV⟩:=aI pb hp2;have gQ:=pb.size;clear pb hp2 im;have Hb:=hbz wr;obtain⟨ae,ai⟩:=qZ (Hz.an<|Ho.an trivial);have HP:Hid (aM wr a2 d2 ta):=yV.out;obtain⟨W5,uW,aG,ae,ai⟩:=cg wr (Hb.an<|HP.an ae) 41 [af (V:Int),.slice a' n' cap'];go_wp2_with fail;refine(Htm.out a2 d2 _ (aC (aC rf.out aO.out) ae.2.1.out) ae.2.2.1.out).mono ?_;rintro e w6 ⟨a9,d9,rfl,ky,ak⟩;obtain⟨ae,ai⟩:=qX ak ae;have BV:=aj ky;clear ky;have HX:Hid (aM w6 a9 d9 C):=BV.out;obtain⟨W7,Iu,aG,ae,ai⟩:=cg w6 (HX.an ae) 41 [af (V:Int),.slice a9 m d9];go_wp2;go_roundw;case rel=>exact⟨a9,d9,.inr ⟨rfl,(ae.2.2.2.2.2.2.1.out.set 0 _).set 1 _,ae.2.1.out.store ae.2.2.2.2.2.2.1.out zd _ _⟩,(((aO.out.trans (ae.2.2.2.1.out.mono gQ)).setCell zp _).setCell zp _)⟩
     case measure=>simp[intOf]
   . have Ho:Hid (ar wr g 41 [af (V:Int),.slice a2 m d2]):=im;have Hr:Hid (ar wr w.heap.size 41 [af 0,.slice none 0 0]):=FO.out.below pb;have Hb:Hid (Bw w wr):=aC rf.out pb;have yV:=aj hp2;clear pb hp2 im;obtain⟨ae,ai⟩:=qZ (Ho.an<|Hr.an trivial);go_wp2;have h9:=yV.out.store ae.2.1.out zd (af (V:Int)) (.slice a2 m d2);refine dA (λw9=>aM w9 a2 d2 C/\ar w9 w.heap.size 41 [af (V:Int),.slice a2 m d2]/\Bw w w9) ⟨h9,(ae.2.1.out.set 0 _).set 1 _,(Hb.out.setCell zp _).setCell zp _⟩ ?_;rintro w9 ⟨q1,q2,q3⟩;obtain⟨x0,x1⟩:=q2.c2;exact bodyPost_ret (v:=.tuple #[.agg #[af (V:Int),.slice a2 m d2],af 0]) (by simp[results,Tryz.results225,go_sem,x0,x1]) rfl ⟨_,_,rfl,q1,q3⟩
def cV (tb:List UInt8)(k:Nat):Dyadic:=Dyadic.ofIntWithPrec ((tb.getD k 0).toNat:Int) 0*hp 8
def qH (tb:List UInt8)(n:Nat):List Raw:=(List.range n).map λk=>canon (cV tb k)
def Vn (tb:List UInt8)(k:Nat):cV tb k=Dyadic.ofIntWithPrec ((tb.getD k 0).toNat:Int) 8:=by unfold cV hp;rw[uf,Int.mul_one];rfl
def MK (tb:List UInt8)(k:Nat):Sm 8 (cV tb k):=by rw[Vn];exact⟨_,rfl,by have:=(tb.getD k 0).toNat_lt;show _<2^(2*8);omega⟩
def aje (c:Nat)(h:c<=255):Sm 8 (Dyadic.ofIntWithPrec (c:Int) 0):=
 ⟨(c:Int) *2^8,(ow (c:Int) 8 0).symm,by rw[Int.natAbs_mul,Int.natAbs_pow];show c*2^8<2^(2*8);omega⟩
def Vo (tb:List UInt8)(k:Nat):0<=cV tb k/\cV tb k<=1:=by
 rw[Vn];have h1:=QI ((tb.getD k 0).toNat:Int) 8;have h2:=QI ((tb.getD k 0).toNat-256:Int) 8;have h3:Dyadic.ofIntWithPrec ((tb.getD k 0).toNat-256:Int) 8=Dyadic.ofIntWithPrec ((tb.getD k 0).toNat:Int) 8-1:=by
  have e:(1:Dyadic)=Dyadic.ofIntWithPrec 256 8:=by decide+kernel
  have e2:=rV ((tb.getD k 0).toNat:Int) (-256) 8;have e3:=Ey 256 8;rw[e,Int.sub_eq_add_neg,<-e2,<-e3];grind
 have h4:((tb.getD k 0).toNat:Int)<256:=by have:=(tb.getD k 0).toNat_lt;omega
 rw[h3]at h2;have h5:=h2.2 zo;have h6:¬Dyadic.ofIntWithPrec ((tb.getD k 0).toNat:Int) 8<0:=λh=>by have:=h1.1 h;omega
 constructor<;>grind
def ac3 (l:List UInt8):(l.flatMap λc:UInt8=>[Value.int .u8 (c.toNat:Int)])=ja l:=by
 unfold ja;induction l with
 |nil=>rfl
 |cons x l ih=>rw[List.flatMap_cons,List.map_cons,ih];rfl
def anu (bx:List (Raw×Raw))(n m B:Nat)(a a':Option Addr)(cap cap':Nat)(tb:List UInt8)(ta:Option Addr)(tn tc:Nat)(w:World)(hn:bx.length=n)(h1:1<=n)(hl:n<=1000)(hf:nD B bx)(hB8:8<=B)(hB:B<=10000000)(ha:At w a (bx.flatMap fA))(ht:tb.length=tn)(js:At w ta (ja tb))(hT:aB w):
 Cl 25 #[.agg #[.slice a n cap,.slice a' m cap'],.slice ta tn tc] w λe w'=>∃(a2:Option Addr) (c2:Nat),e=.returned (.slice a2 n c2)/\At w' a2 (((List.range n).map λk=>canon (rW bx (qH tb n) k)).flatMap aY)/\Bw w w':=by
 obtain⟨i0,hi,hz0,hz1,hz2⟩:=info_parts Tryz.awK;obtain⟨X,hX⟩:=az (qH tb n);have jo:X.length=n:=by rw[<-hX];simp[qH]
 have Ad:∀k (h:k<X.length),X[k]=canon (cV tb k):=λk h=>by subst hX;simp[qH]
 have XB:∀x∈X,Fit B x:=λx hx=>by obtain⟨k,hk,rfl⟩:=List.mem_iff_getElem.1 hx;rw[Ad k hk];exact((MK tb k).mono hB8).fit zo
 have hpl:=λ(W:World) a5 c5 (hW:Bw w W) (hat:At W a5 (X.flatMap aY))=>apS a n cap B bx X a5 c5 W hn hl hf hB (ha.below hW) jo XB hat (hT.below hW);have xW:=js;rw[<-ac3]at xW;rw[hX];obtain⟨Hi,cp,bR,bV,qV,Kp,jW,uD,HT,Ht⟩:=AP hi hz0 hz1 hz2 jo Ad hpl xW hT ht;clear hi hz0 hz1 hz2 jo Ad XB hpl xW js hT ht hX hf ha hn;have hn0:decide (0<n)=true:=by simp;omega
 have iw:0<n:=h1;have Hb:=hbz w;go_enter Tryz.func25,Tryz.ntmps25;go_wp2_with fail;refine bP w (Hb.an trivial) 27 [.slice a n cap,.slice a' m cap'] λW aG ae ai=>?_;have sk:=ae.2.1;go_loopw[5,6] (λs5 x wr=>∃(k:Nat) (v:Value),k<=n/\x=af (k:Int)/\v=s5/\wr.ownsRow W.heap.size 45 3 v k ((X.take k).flatMap aY)/\ar wr w.heap.size 27 [.slice a n cap,.slice a' m cap']/\Bw W wr) (λ_ x _=>n-(intOf x).toNat);case atStart=>exact⟨0,_,Nat.zero_le _,rfl,rfl,World.ownsRow_nil _ _ _ _,ae.1.out,Below.refl _ _⟩
 case round=>
  skip
  obtain⟨k,v,hk,rfl,rfl,ho,hd,pb⟩:=hrel;obtain⟨Ho,Tf,aO,kN⟩:=bU ho hd pb (aC sk.out pb);have gQ:=pb.size;clear ho hd pb;by_cases hlt:k<n
  . have hkX:k<X.length:=by rw[qV.out];exact hlt
    have hst:=abD X k hkX;rw[Kp.out k hkX]at hst;obtain⟨c,hc⟩:=az (tb.getD k 0);have hcv:cV tb k=Dyadic.ofIntWithPrec (c.toNat:Int) 0*hp 8:=by unfold cV;rw[hc]
    have hcs:=MK tb k;rw[hcv]at hst hcs;have Yc:c.toNat<=255:=by have:=c.toNat_lt;omega
    obtain⟨D,hD⟩:=az (Dyadic.ofIntWithPrec (c.toNat:Int) 0);have rI:Sm 8 D:=by rw[<-hD];exact aje _ Yc
    rw[hD]at hst hcs;obtain⟨F,hF⟩:=az (D*hp 8);rw[hF]at hst hcs;have jd:=λW (hW:aB W)=>uQ (c.toNat:Int) D hD W zo hW;have za:=λW (hW:aB W)=>acs (au (dN D)) (nt (dN D).natAbs) (dE D) (-8) F (by rw[<-hF];exact acu D 8) W (rI.fit zd).1 zd hW;have mW:(X.take (k+1)).flatMap aY=(X.take k).flatMap aY++(bo F):=hst;obtain⟨agk,agR,bE⟩:=bM jd za mW;have hwc:IntKind.i64.wrap (c.toNat:Int)=(c.toNat:Int):=by rw[IntKind.wrap_i64];omega
    clear hst mW hcv hcs hD rI hF jd za;have Hc:=aj hc;clear hc;have Hd:=Tf;have Hb:=hbz wr;obtain⟨ae,ai⟩:=qZ (Hd.an trivial);go_upto_if 26 with fail
    go_cut[7] (λs7 wx=>s7=.int .u8 (c.toNat:Int)/\wr=wx);case first=>
     by_cases hkt:k<tn
     . have DF:k<tb.length:=by rw[Ht.out];exact hkt
       obtain⟨b,o,hab,hcl⟩:=(uD.out.below kN.out).elem (f:=λc:UInt8=>[Value.int .u8 (c.toNat:Int)]) (sz:=1) (λ_=>rfl) zd k DF;have Aj:=hcl 0 zm;rw[Nat.mul_one,Nat.add_zero]at Aj;have cF:tb[k]=c:=by rw[<-Hc.out];simp[DF]
       rw[cF]at Aj;have aQ:=tN tn tc k (k:Int) hab hkt rfl;rw[Nat.mul_one]at aQ;clear hcl hab cF;go_wp2_with fail;go_meet;exact⟨rfl,rfl⟩
     . have DF:¬k<tb.length:=by rw[Ht.out];exact hkt
       have hc0:c.toNat=0:=by rw[<-Hc.out,List.getD_eq_getElem?_getD,List.getElem?_eq_none zo];rfl
       go_wp2_with fail;go_meet;exact⟨by rw[hc0];rfl,rfl⟩
    case rest=>
     obtain⟨rfl,rfl⟩:=hcut;have HU:Hid (aB wr):=HT.out.below kN.out;go_wp2_with fail;refine aJ (Hb.an<|HU.an ae) (agk.out _ HU.out) λw5 ae ai=>?_;go_wp2_with fail;refine aJ ae (agR.out _ ae.2.1.out) λw6 ae ai=>?_;obtain⟨W7,Iu,aG,ae,ai⟩:=cg w6 ae 45 (bo F);have cu:=ownsRow_below Ho.out ae.2.1.out;have jr:=ae.2.1.out.size;have hnews:=fJ ae.1.out;have uw:=ae.2.2.2.1;go_wp2_with (at_builtin;refine wpList_append_own_at _ rfl _ _ 63 rfl W.heap.size 45 i0 _ 3 32 Tryz.underlying63 Hi.out cp.out bR.out bV.out rfl zd v k ((X.take k).flatMap aY) rfl cu ⟨w6.heap.size,0,none⟩ 1 1 (bo F) rfl rfl hnews zy zx zo zo ?_;intro v' w8 eO bF _ _);have fF:=(aC aO.out ae.2.1.out).grown bF zo (λj e=>cZ cu j e);have Ym:=uw.out.row zd cu bF;rw[<-bE.out]at eO;obtain⟨iE,gh,Hd8⟩:=bM eO fF Ym;clear eO fF bF cu hnews Ym uw;go_wp2;go_roundw;case rel=>exact⟨k+1,_,by omega,by go_num,rfl,iE.out,Hd8.out,gh.out⟩
     case measure=>exact bf
  . obtain rfl:k=n:=by omega
    have ho:=Ho.out;rw[List.take_of_length_le (by rw[qV.out];exact Nat.le_refl _)]at ho;obtain⟨a5,c5,rfl,hat,_⟩:=cO ho;have Hb:=kN;have eG:=aj hat;have Hd:=Tf;clear ho hat;obtain⟨ae,ai⟩:=qZ (Hd.an trivial);go_wp2_with fail;refine(jW.out _ a5 c5 Hb.out eG.out).mono ?_;rintro e w8 ⟨a2,c2,rfl,lN,ak⟩;obtain⟨ae,ai⟩:=qX ak (Hb.an ae);go_wp2;refine bodyPost_ret (results_tmp rfl _ _ _) rfl ⟨a2,c2,rfl,lN,ae.1.out⟩
def ape (xs:List Raw)(i:Nat)(x:Raw):(((xs.flatMap aY).set (i*3) (ag x.1)).set (i*3+1) (ah x.2.1)).set (i*3+2) (af x.2.2)=(xs.set i x).flatMap aY:=by
 induction xs generalizing i with
 |nil=>simp
 | cons y xs ih=>
   have e:∀(y:Raw) (zs:List Raw),(y::zs).flatMap aY=ag y.1::ah y.2.1::af y.2.2::zs.flatMap aY:=λy zs=>rfl;cases i with
   |zero=>rw[e];rfl
   |succ i=>rw[List.set_cons_succ,e,e,<-ih i,show(i+1) *3=i*3+1+1+1 by omega];rfl
def apC {w:World}{base n cap g:Nat}{e:TypeId}{xs:List Raw}(h:w.ownsRow base e 3 (.slice (some ⟨g,0,none⟩) n cap) n (xs.flatMap aY))(k:Nat)(hk:k<xs.length){s:Bool}{m:List UInt8}{ex:Int}(hx:xs[k]=(s,m,ex)):
 aR w g (k*3) [ag s,ah m,af ex]:=by
 obtain⟨a,c,hv,hat,_⟩:=cO h;simp only[Value.slice.injEq,true_and]at hv;obtain⟨rfl,rfl⟩:=hv;obtain⟨b,o,hab,p0,p1,p2⟩:=hat.num k hk hx;simp only[Option.some.injEq,Addr.mk.injEq,and_true]at hab;obtain⟨rfl,rfl⟩:=hab;rw[Nat.zero_add]at p0 p1 p2;exact jA p0 p1 p2
def acb (rows:List (List Raw))(j k:Nat)(h:j<rows.length):eT rows[j] k=eF rows j k:=by unfold eT eF bW;simp[List.getD_eq_getElem?_getD,h]
def anv (rows:List (List Raw))(V B:Nat)(a a':Option Addr)(cap cap':Nat)(tb:List UInt8)(ta:Option Addr)(tn tc:Nat)(w:World)(h1:1<=V)(h4:V<=4)(hr:Rw V B rows)(hB:B<=1000000)(ha:cC w a' rows)(ht:tb.length=tn)(js:At w ta (ja tb))(hT:aB w):
 Cl 25 #[.agg #[.slice a 0 cap,.slice a' (V+1) cap'],.slice ta tn tc] w λe w'=>∃(a2:Option Addr) (c2:Nat) (xs:List Raw),e=.returned (.slice a2 V c2)/\xs.length=V/\(∀x∈xs,Fit (B+40) x)/\mZ V (eF rows) (eT xs)/\At w' a2 (xs.flatMap aY)/\Bw w w':=by
 obtain⟨i0,hi,hz0,hz1,hz2⟩:=info_parts Tryz.awK;have h00:0<rows.length:=by have:=hr.1;omega
 obtain⟨b0,o0,a0,c0,tu,hc0,qh⟩:=ha.row 0 h00;have xy:=yb (V+1) cap' 0 0 tu zo rfl;simp only[Nat.zero_mul,Nat.add_zero]at xy;rw[Nat.add_zero]at hc0;have hl0:rows[0].length=V:=hr.2.1 _ (List.getElem_mem h00);have jp:∀x∈rows[0],Fit B x:=hr.2.2 _ (List.getElem_mem h00);have YM:mZ V (eF rows) (eT rows[0]):=Qa h1 h4 _ (λk _=>(acb rows 0 k h00).symm) (aaK h1 h4 (eF rows) 0 zo)
 have hrow:=λj (hj:j<rows.length)=>(show rows[j].length=V/\(∀x∈rows[j],Fit B x)/\mZ V (eF rows) (eT rows[j])from
  ⟨hr.2.1 _ (List.getElem_mem hj),hr.2.2 _ (List.getElem_mem hj),Qa h1 h4 _ (λk _=>(acb rows j k hj).symm) (aaK h1 h4 (eF rows) j (by have:=hr.1;omega))⟩)
 generalize hx0:rows[0]=p0 at*;rw[hl0]at hc0;have hmid:=λ(x y:Nat->Dyadic) (hx:mZ V (eF rows) x) (hy:mZ V (eF rows) y)=>anr h1 h4 (eF rows) (h:=hp 1) amS hx hy;have Ye:=λ(x y:Nat->Dyadic) (h:∀k,k<V->x k=y k) (hx:mZ V (eF rows) x)=>Qa h1 h4 (eF rows) h hx;generalize mZ V (eF rows)=IN at*;have xW:=js;rw[<-ac3]at xW;have Zg:a0≠none:=by
  rintro rfl;rcases qh with h|⟨_,_,h,_⟩
  . have h9:=congrArg List.length h;rw[jJ aY 3 (λ_=>rfl),hl0,List.length_nil]at h9;omega
  . cases h
 obtain⟨Hi,cp,bR,bV,Ha,HL,BF,yH,lD,BJ,afE,sJ⟩:=gN hi hz0 hz1 hz2 ha hr.1 hc0 qh hl0 jp YM hrow;obtain⟨af0,Fl,uD,HT,Ht,af8⟩:=ia hmid Ye xW hT ht Zg;have AO:=World.block_lt_of_cell? w _ hc0;simp only at AO;clear hi hz0 hz1 hz2 ha hr hc0 qh hl0 jp YM hrow hmid Ye js xW hT ht Zg tu hx0 h00;have hV0:((V:Int)+1==0)=false:=by simp;omega
 obtain⟨W,bX,ae,ai⟩:=fy w 27 [.slice a 0 cap,.slice a' (V+1) cap'];have rp:Hid (aR W b0 o0 [.slice a0 V c0]):=λj hj=>by
  obtain rfl:j=0:=by simp at hj;omega
  exact cell_later ae.1.out BF.out
 obtain⟨ae,ai⟩:=qZ (rp.an ae);have x00:W.cell? ⟨b0,o0,none⟩=some (.slice a0 V c0):=ae.1.out.cell 0 zm;have lbW:b0<W.heap.size:=World.block_lt_of_cell? W _ x00;have sk:=ae.2.1;have Tg:=ae.2.2.1;have hWz:w.heap.size<W.heap.size:=Tg.out.lt;go_enter Tryz.func25,Tryz.ntmps25;go_wp2_with (at_builtin;refine RN rfl _ _ 63 rfl W.heap.size 45 i0 _ 3 32 Tryz.underlying63 Hi.out cp.out bR.out bV.out rfl zd _ 0 [] rfl (World.ownsRow_made W #[] 0 (Nat.le_refl _) (Nat.zero_le _) zm) a0 V c0 (p0.flatMap aY) rfl (λe=>absurd e af8.out) (by rw[jJ aY 3 (λ_=>rfl),lD.out]) (yH.out.below (aC sk.out ((Below.refl _ W).alloc (Nat.le_refl _) _))) (Qx _) zx zo zm ?_;intro v1 w2 cW hg1 xM);rw[Nat.zero_add,List.nil_append]at cW;have hb1:=((Below.refl _ W).alloc (Nat.le_refl _) (.cells #[] 45)).grown hg1 zm (λk hk=>by have h9:W.heap.size=k:=Option.some.inj hk;omega);obtain⟨g,cq,rfl,_⟩:=rU cW h1;have hgb:=rT cW;obtain⟨sw,cn,nO⟩:=bM (Tg.out.below hb1) (aC sk.out hb1) cW;clear cW hb1 hg1 xM;have hbase:W.heap.size<=g:=hgb.1;go_wp2_with fail;go_loopw[9] (λx wr=>∃(i:Nat) (xs:List Raw),i<=12/\i<=tn/\x=af (i:Int)/\xs.length=V/\(∀y∈xs,Fit (B+3*i) y)/\IN (eT xs)/\wr.ownsRow W.heap.size 45 3 (.slice (some ⟨g,0,none⟩) V cq) V (xs.flatMap aY)/\ar wr w.heap.size 27 [.slice a 0 cap,.slice a' (V+1) cap']/\Bw w wr) (λx _=>12-(intOf x).toNat);case atStart=>exact⟨0,p0,by omega,Nat.zero_le _,rfl,lD.out,BJ.out,afE.out,nO.out,sw.out,cn.out⟩
 case round=>
  clear nO sw cn;obtain⟨i,xs,auT,hit,rfl,hxl,xZ,aau,ho,hd,pb⟩:=hrel;obtain⟨zq,zn,Uy,Ho,Hd,Hb⟩:=ia hxl xZ aau ho hd pb;clear hxl xZ aau ho hd pb;by_cases hlt:i<tn/\i<12
  rotate_left
  . have lC:Hid (∀y∈xs,Fit (B+40) y):=λy hy=>(zn.out y hy).mono zo;have eG:Hid (At wr (some ⟨g,0,none⟩) (xs.flatMap aY)):=by obtain⟨a9,c9,e9,h9,_⟩:=cO Ho.out;simp only[Value.slice.injEq,true_and]at e9;obtain⟨rfl,rfl⟩:=e9;exact h9
    rcases(show ¬i<tn\/(i<tn/\¬i<12)by omega)with h2|⟨h2,h3⟩;all_goals
     go_wp2
     refine bodyPost_ret (results_tmp rfl _ _ _) rfl ⟨_,_,xs,rfl,zq.out,lC.out,Uy.out,eG.out,Hb.out⟩
  obtain⟨h2,h3⟩:=hlt;have h3d:decide ((i:Int)<12)=true:=by rw[decide_eq_true_eq];omega
  have DF:i<tb.length:=by rw[Ht.out];exact h2
  obtain⟨b1,o1,oL,hcl⟩:=(uD.out.below Hb.out).elem (f:=λc:UInt8=>[Value.int .u8 (c.toNat:Int)]) (sz:=1) (λ_=>rfl) zd i DF;have Aj:=hcl 0 zm;rw[Nat.mul_one,Nat.add_zero]at Aj;obtain⟨c,hc⟩:=az (tb[i].toNat);have Yc:c<=255:=by have:=tb[i].toNat_lt;omega
  have Yg:wr.cell? ⟨b1,o1+i,none⟩=some (.int .u8 (c:Int)):=by rw[Aj,<-hc];rfl
  have tC:=tN tn tc i (i:Int) oL h2 rfl;rw[Nat.mul_one]at tC;have hwc:IntKind.i64.wrap (c:Int)=(c:Int):=by rw[IntKind.wrap_i64];omega
  obtain⟨j,hj⟩:=az (c% (V+1));have YQ:j<V+1:=by rw[<-hj];exact Nat.mod_lt _ zo
  have Pw:(c:Int).tmod ((V:Int)+1)=(j:Int):=by rw[<-hj];exact(Int.ofNat_tmod c (V+1)).symm
  have hVn:¬(V:Int)+1=0:=by omega
  have Dz:j<rows.length:=by rw[HL.out];exact YQ
  obtain⟨b3,o3,a3,c3,uY,hc3,Df⟩:=Ha.out.row j Dz;have Dy:=yb (V+1) cap' j (j:Int) uY YQ rfl;rw[Nat.mul_one]at Dy;obtain⟨hrl,hrf,ZW⟩:=sJ.out j Dz;rw[hrl]at hc3;generalize rows[j]=R at*;have Hy:Hid (aR wr b1 (o1+i) [.int .u8 (c:Int)]):=λq hq=>by
   obtain rfl:q=0:=by simp at hq;omega
   exact Yg
  have Hp:Hid (aR wr b3 (o3+j) [.slice a3 V c3]):=λq hq=>by
   obtain rfl:q=0:=by simp at hq;omega
   exact cell_later Hb.out hc3
  obtain⟨HR,Hrl,Hrf,agL⟩:=bU Df hrl hrf ZW;clear hcl Aj Yg hc oL uY hc3 Df hrl hrf ZW hj;obtain⟨wo,hwo⟩:∃u,u=wr:=⟨_,rfl⟩;subst hwo;obtain⟨ae,ai⟩:=qZ (Hd.an<|Hy.an<|Hp.an trivial);go_wp2_with fail;refine cQ 999 ae (cM 14 0x1b19171513110f0d0b0907050301) ?_;refine bC ?_;refine cP ae λai=>?_;have gX:Bw wo wo.drew:=(Below.refl _ _).drew;have hd:=ae.1.out.below gX;have hb:=aC Hb.out gX;have ho:=ownsRow_below Ho.out gX;generalize wo.drew=wd at gX hd hb ho⊢;obtain⟨Sg,Sd,Sj⟩:=bM hd hb ho;clear gX hd hb ho ae ai Ho;go_wp2_with fail;go_loopw[11] (λx wr=>∃(k:Nat) (ys:List Raw),k<=V/\x=af (k:Int)/\ys.length=V/\(∀q (h:q<ys.length),k<=q->Fit (B+3*i) ys[q])/\(∀q (h:q<ys.length),q<k->Fit (B+3* (i+1)) ys[q])/\(∀q,q<V->eT ys q=if q<k then(eT xs q+eT R q) *hp 1 else eT xs q)/\wr.ownsRow W.heap.size 45 3 (.slice (some ⟨g,0,none⟩) V cq) V (ys.flatMap aY)/\ar wr w.heap.size 27 [.slice a 0 cap,.slice a' (V+1) cap']/\Bw w wr) (λx _=>V-(intOf x).toNat);case atStart=>exact⟨0,xs,Nat.zero_le _,rfl,zq.out,λq h _=>zn.out _ (List.getElem_mem h),λq _ h=>absurd h (Nat.not_lt_zero _),λq _=>by rw[if_neg (Nat.not_lt_zero _)],Sj.out,Sg.out,Sd.out⟩
  case round=>
   clear Sg Sd Sj;obtain⟨k,ys,hk,rfl,hyl,hy1,hy2,hy3,ho,hd,pb⟩:=hrel;obtain⟨Cq,mF,mG,Mo,Ho,Hd,dG⟩:=jv hyl hy1 hy2 hy3 ho hd pb;clear hyl hy1 hy2 hy3 ho hd pb;by_cases hkV:k<V
   . have Au:k<ys.length:=by rw[Cq.out];exact hkV
     have Ar:k<R.length:=by rw[Hrl.out];exact hkV
     obtain⟨s,m,e,hx⟩:=pU (ys[k]);obtain⟨t,l,f,hx2⟩:∃t l f,R[k]=(t,l,f):=⟨_,_,_,rfl⟩;have hwx:=apC Ho.out k Au hx;obtain⟨b4,o4,Dd,p0,p1,p2⟩:=(HR.out.below dG.out).num k Ar hx2;have amw:=vK V cq k (k:Int) (rfl:(some ⟨g,0,none⟩:Option Addr)=_) hkV rfl;simp only[Nat.zero_add]at amw;have auV:=vK V c3 k (k:Int) Dd hkV rfl;have cS:Fit (B+3*i) (s,m,e):=by rw[<-hx];exact mF.out k Au (Nat.le_refl _)
     have eY:Fit (B+3*i) (t,l,f):=by rw[<-hx2];exact(Hrf.out _ (List.getElem_mem Ar)).mono zo
     obtain⟨S,hS⟩:=az (dval (s,m,e)+dval (t,l,f));have mQ:Sm (B+3*i+1) S:=by rw[<-hS];exact Sm.add cS.2 eY.2
     obtain⟨H,hH⟩:=az (S*hp 1);have WT:Sm (B+3* (i+1)) H:=by rw[<-hH];exact(Sm.mul mQ (amQ 1)).mono zo
     have hval:(eT xs k+eT R k) *hp 1=H:=by have h9:=Mo.out k hkV;rw[if_neg (Nat.lt_irrefl k),yA ys k Au,hx]at h9;rw[<-h9,yA R k Ar,hx2,hS,hH]
     have za:=aj λW (hW:aB W)=>acs (au (dN S)) (nt (dN S).natAbs) (dE S) (-1) H (by rw[<-hH];exact acu S 1) W (mQ.fit zo).1 zd hW;obtain⟨HS,HHs,ag9,Le,HfR⟩:=eV hS WT hval cS eY;have Hx:Hid (aR wr g (k*3) [ag s,ah m,af e]):=hwx;have Hy:Hid (aR wr b4 (o4+k*3) [ag t,ah l,af f]):=jA p0 p1 p2;have Dx:g<wr.heap.size:=(rT Ho.out).2;clear hwx Dd p0 p1 p2 cS eY hS mQ hH WT hval hx hx2;have Hb:=hbz wr;obtain⟨ae,ai⟩:=qZ (Hx.an<|Hy.an trivial);have HU:Hid (aB wr):=HT.out.below dG.out;go_wp2_with fail;obtain⟨Hx,Hy,_⟩:=ae;obtain⟨x0,x1,x2⟩:=Hx.out.w3;obtain⟨y0,y1,y2⟩:=Hy.out.w3;refine eW (λw'=>aK w' g (k*3) (ag s)/\aK w' g (k*3+1) (ah m)/\aK w' g (k*3+2) (af e)/\aK w' b4 (o4+k*3) (ag t)/\aK w' b4 (o4+k*3+1) (ah l)/\aK w' b4 (o4+k*3+2) (af f)) (λi=>Nat.blt i 14) [(0,true),(1,true),(2,true),(3,true),(4,true),(5,true),(6,true),(7,true),(8,true),(9,true),(10,false),(11,false),(12,false),(13,true),(14,false)] zk zk rfl zk zc ⟨x0,x1,x2,y0,y1,y2⟩ ?_;iterate 10 (refine pT rfl rfl ?_ (by intro w' ⟨q0,q1,q2,q3,q4,q5⟩;go_simp;try with_reducible rfl);try simp only[UU])
     refine aP rfl rfl (λK hK=>?_);go_simp;refine hK _ _ (λ_=>⟨aV x0,aV x1,aV x2,aV y0,aV y1,aV y2⟩) ?_;try simp only[UU]
     refine bY (λW5=>ar W5 (wr.heap.size) 45 [ag s,ah m,af e,ag t,ah l,af f]/\Bw wr W5) (by first|exact iA|exact iB) ?_;rintro W5 ⟨qu,ak⟩;replace Hx:=kW Hx ak;replace Hy:=kW Hy ak;replace HU:=kT HU ak;have Hu:=aj qu;clear qu;obtain⟨x0,x1,x2⟩:=Hx.out.w3;obtain⟨y0,y1,y2⟩:=Hy.out.w3;obtain⟨u0,u1,u2,u3,u4,u5⟩:=Hu.out.c6;replace Hb:=aZ Hb ak;refine aP rfl rfl (λK hK=>?_);go_simp;with_reducible refine(CE s m e t l f S (B+3*i) HS.out wr.heap.size _ 45 _ Le.out HfR.out zo Hu.out (by first|exact HU.out|exact aB.drew HU.out|exact aB.alloc HU.out _|exact aB.drew (aB.alloc HU.out _) |exact aB.alloc (aB.drew HU.out) _)).mono ?_
     rintro e w6 ⟨rfl,hq⟩;have ak:Bw W5 w6:=by first|exact hq|exact cJ hq
     replace Hx:=kW Hx ak;replace Hy:=kW Hy ak;replace HU:=kT HU ak;obtain⟨Hu,u0,u1,u2,u3,u4,u5⟩:=Js Hu ak;obtain⟨x0,x1,x2⟩:=Hx.out.w3;obtain⟨y0,y1,y2⟩:=Hy.out.w3;replace Hb:=aZ Hb ak;refine hK _ _ (λ_=>⟨x0,x1,x2,y0,y1,y2⟩) ?_;try simp only[UU]
     refine aP rfl rfl (λK hK=>?_);go_simp;with_reducible refine(za.out _ (by first|exact HU.out|exact aB.drew HU.out|exact aB.alloc HU.out _|exact aB.drew (aB.alloc HU.out _) |exact aB.alloc (aB.drew HU.out) _)).mono ?_
     rintro e w7 ⟨rfl,hq⟩;have ak:Bw w6 w7:=by first|exact hq|exact cJ hq
     replace Hx:=kW Hx ak;replace Hy:=kW Hy ak;replace HU:=kT HU ak;obtain⟨Hu,u0,u1,u2,u3,u4,u5⟩:=Js Hu ak;obtain⟨x0,x1,x2⟩:=Hx.out.w3;obtain⟨y0,y1,y2⟩:=Hy.out.w3;replace Hb:=aZ Hb ak;refine hK _ _ (λ_=>⟨x0,x1,x2,y0,y1,y2⟩) ?_;try simp only[UU]
     refine pT rfl rfl ?_;try simp only[UU]
     refine aP rfl rfl (λK hK=>?_);have hov:=ownsRow_below Ho.out Hb.out;have CK:=kE hov (k*3);have xm:=kE hov (k*3+1);have GU:=kE hov (k*3+2);obtain⟨cN,uw,kM⟩:=bM hov (Hd.out.below Hb.out) (aC dG.out Hb.out);clear hov;go_simp;refine hK _ _ (λh=>absurd h zd) ?_;try simp only[UU]
     iterate 0 skip
     simp only[bI];go_wp2;go_roundw;case rel=>
      have eD:=iZ (iZ (iZ cN.out (k*3) (ag (au (dN H)))) (k*3+1) (ah (nt (dN H).natAbs))) (k*3+2) (af (dE H));have e9:(((ys.flatMap aY).set (k*3) (ag (au (dN H)))).set (k*3+1) (ah (nt (dN H).natAbs))).set (k*3+2) (af (dE H))=(ys.set k (canon H)).flatMap aY:=ape ys k (canon H);rw[e9]at eD;refine⟨k+1,ys.set k (canon H),by omega,by go_num,by rw[List.length_set];exact Cq.out,λq h hq=>?_,λq h hq=>?_,λq hq=>?_,eD,((uw.out.so g (k*3) zo _).so g (k*3+1) zo _).so g (k*3+2) zo _,((kM.out.setCell zp _).setCell zp _).setCell zp _⟩
      . rw[List.getElem_set_ne zo];exact mF.out q (by rw[List.length_set]at h;exact h) zo
      . by_cases tH:k=q
        . subst tH;rw[List.getElem_set_self];exact HHs.out.fit zo
        . rw[List.getElem_set_ne tH];exact mG.out q (by rw[List.length_set]at h;exact h) zo
      . have ZR:q<ys.length:=by rw[Cq.out];exact hq
        rw[yA _ q (by rw[List.length_set];exact ZR)];by_cases tH:k=q
        . subst tH;rw[List.getElem_set_self,if_pos zo,bD];exact ag9.out.symm
        . rw[List.getElem_set_ne tH,<-yA ys q ZR,Mo.out q hq];by_cases h9:q<k
          . rw[if_pos h9,if_pos zo]
          . rw[if_neg h9,if_neg zo]
     case measure=>exact bf
   . obtain rfl:k=V:=by omega
     have Yv:∀y∈ys,Fit (B+3* (i+1)) y:=λy hy=>by obtain⟨q,hq,rfl⟩:=List.mem_iff_getElem.1 hy;exact mG.out q hq (by rw[Cq.out]at hq;exact hq)
     have YN:IN (eT ys):=Fl.out _ _ (λq hq=>by rw[Mo.out q hq,if_pos hq]) (af0.out _ _ Uy.out agL.out);obtain⟨Lc,afF⟩:=aI Yv YN;clear Yv YN;go_wp2;go_roundw;case rel=>exact⟨i+1,ys,by omega,by omega,by go_num,Cq.out,Lc.out,afF.out,Ho.out,Hd.out,dG.out⟩
     case measure=>exact bf
end Go.Proofs.YtpfgffadgkkedaaGreatDoor
