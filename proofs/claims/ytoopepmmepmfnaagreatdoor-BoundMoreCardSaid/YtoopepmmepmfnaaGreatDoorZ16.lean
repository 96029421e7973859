/- Package bound: may,Order,least. -/
import Derived.Test.YtoopepmmepmfnaaGreatDoorZ14
import Derived.Test.YtoopepmmepmfnaaGreatDoorZ11
import Derived.WalkMore
import Derived.Test.YtoopepmmepmfnaaGreatDoorZ7
set_option linter.unusedVariables false
set_option linter.unusedSimpArgs false
set_option maxRecDepth 100000
set_option maxHeartbeats 16000000
namespace Go.Proofs.YtoopepmmepmfnaaGreatDoor
open Go.RowKit
attribute [local go_sem ↓] Go.wp_at_zero Go.wp_at_succ
theorem JE (s:Bool)(l:List UInt8)(e:Int)(t:Bool)(m:List UInt8)(f:Int)(w:World)(hx:Ok (s,l,e))(hy:Ok (t,m,f)):
 Calls Tryz.prog 43 #[.agg #[.bool s,.string (bs l),.int .i64 e],.agg #[.bool t,.string (bs m),.int .i64 f]] w λe' w'=>e'=.returned (.bool (decide (0<=aL (ar (s,l,e))/\0<aL (ar (t,m,f)))))/\Bw w w':=by
 obtain⟨c,hc⟩:=az (aL (ar (s,l,e)));obtain⟨d,hd⟩:=az (aL (ar (t,m,f)));obtain⟨Gx,Gy,Hc,Hd⟩:=dt hx hy hc hd;rw[hc,hd];clear hx hy hc hd;obtain⟨W,cL,Hb,Hx,Hy⟩:=jF w 39 [.bool s,.string (bs l),.int .i64 e] 39 [.bool t,.string (bs m),.int .i64 f];obtain⟨x0,x1,x2⟩:=Hx.out.c3;obtain⟨y0,y1,y2⟩:=Hy.out.c3;go_enter Tryz.func43,Tryz.ntmps43;go_wp2_with fail;refine(lj s l e c Hc.out _ Gx.out).mono ?_;rintro e w1 ⟨rfl,ae⟩;clear x0 x1 x2 y0 y1 y2;replace Hx:=kB Hx ae;replace Hy:=kB Hy ae;obtain⟨x0,x1,x2⟩:=Hx.out.c3;obtain⟨y0,y1,y2⟩:=Hy.out.c3;replace Hb:=ak Hb ae;clear ae;by_cases hc0:0<=c
 . go_wp2_with fail;refine(lj t m f d Hd.out _ Gy.out).mono ?_;rintro e w2 ⟨rfl,ae⟩;clear x0 x1 x2 y0 y1 y2;replace Hx:=kB Hx ae;replace Hy:=kB Hy ae;obtain⟨x0,x1,x2⟩:=Hx.out.c3;obtain⟨y0,y1,y2⟩:=Hy.out.c3;replace Hb:=ak Hb ae;clear ae;go_wp2;refine bodyPost_ret (results_tmp rfl _ _ _) rfl ⟨?_,Hb.out⟩;by_cases hd0:0<d
   . simp[hc0,hd0]
   . simp[hc0,hd0]
 . go_wp2;refine bodyPost_ret (results_tmp rfl _ _ _) rfl ⟨?_,Hb.out⟩;rw[decide_eq_false (λh:0<=c=>by omega)];rfl
def qQ (bx:List (Raw×Raw)):Nat->List (Raw×Raw)
 |0=>bx
 |k+1=>(uG (bx.map bu) (k+1)).map dK
theorem XT (bx:List (Raw×Raw))(k:Nat):(qQ bx k).map bu=uG (bx.map bu) k:=by
 cases k with
 |zero=>rfl
 | succ k=>
   show((uG (bx.map bu) (k+1)).map dK).map bu=_
   rw[List.map_map,show bu∘dK=id from funext XL,List.map_id]
theorem akY (bx:List (Raw×Raw))(k:Nat):(qQ bx k).length=bx.length:=by have h:=congrArg List.length (XT bx k);rw[List.length_map,akV,List.length_map]at h;exact h
theorem akX {B:Nat}{bx:List (Raw×Raw)}(h:gG B bx)(k:Nat)(hB:B+3*k<=268435456):gG (B+3*k) (qQ bx k):=by
 cases k with
 |zero=>exact h
 |succ k=>exact gG.of (akW h.smP (k+1)) hB
def rE (bx:List Pr)(k:Nat):List Value:=(List.range k).map λi=>.int .i64 (tC bx i:Int)
theorem acQ (bx:List Pr)(k:Nat):rE bx (k+1)=rE bx k++[.int .i64 (tC bx k:Int)]:=by unfold rE;rw[List.range_succ,List.map_append];rfl
theorem XB (top xb ib L B k:Nat)(bx:List (Raw×Raw))(w:World)(hL:bx.length=L)(h1:1<=L)(hl:L<=1000)(hf:gG B bx)(hB:B+3*k<=1000000)(hk:k<=100000)(hS:kv w top xb ib L (qQ bx k) (kK (bx.map bu) k))(hT:au w):
 Calls Tryz.prog 34 #[.pointer (some ⟨xb,0,none⟩)] w λe w'=>e=.returned (.int .i64 (tC (bx.map bu) k:Int))/\kv w' top xb ib L (qQ bx (k+1)) (kK (bx.map bu) (k+1))/\Chg (λb=>b=xb\/b=ib) w w':=by
 have h:=akx top xb ib L (B+3*k) (qQ bx k) (kK (bx.map bu) k) w (by rw[akY];exact hL) h1 hl (akX hf k zo) hB (λi=>by have:=Yh (bx.map bu) k i;omega) hS hT;rw[XT]at h;exact h
theorem ajm (a:Option Addr)(L cap B N:Nat)(bx:List (Raw×Raw))(w:World)(hL:bx.length=L)(hl:L<=1000)(hf:gG B bx)(hB:B<=100000)(ha:At w a (bx.flatMap bX))(hT:au w)(hc:iZ (bx.map bu)=0)(hN:N<=1024):
 Calls Tryz.prog 9 #[.slice a L cap,.int .i64 (N:Int)] w λe w'=>∃a' c',e=.returned (.tuple #[.slice a' N c',.int .i64 0])/\At w' a' (rE (bx.map bu) N)/\Bw w w':=by
 obtain⟨i0,hi,hz0,hz1,hz2⟩:=info_parts Tryz.aqO;have h1:1<=L:=by
  have:=(QY hc).1;rw[<-hL];cases bx with
  |nil=>exact absurd rfl this
  |cons x xs=>simp
 have di:=λW (hW:Bw w W)=>JF a L cap B bx W hL zo hf (ha.below hW) (hT.below hW);rw[hc]at di;have hbg:=λW (hW:Bw w W)=>QJ a L cap bx W hL h1 hl (ha.below hW);have tW:=λk top xb ib W (hk:k<=1024) (hS:kv W top xb ib L (qQ bx k) (kK (bx.map bu) k)) (hT:au W)=>XB top xb ib L B k bx W hL h1 hl hf zo zo hS hT;have hnx:=acQ (bx.map bu);have pW:rE (bx.map bu) 0=[]:=rfl;have hs0:qQ bx 0=bx:=rfl;have ht0:kK (bx.map bu) 0=λ_=>0:=rfl;obtain⟨AC,xN⟩:∃f,rE (bx.map bu)=f:=⟨_,rfl⟩;obtain⟨AX,RY⟩:∃f,tC (bx.map bu)=f:=⟨_,rfl⟩;obtain⟨SR,KN⟩:∃f,qQ bx=f:=⟨_,rfl⟩;obtain⟨TM,KS⟩:∃f,kK (bx.map bu)=f:=⟨_,rfl⟩;rw[xN]at hnx pW⊢;simp only[RY]at hnx tW;simp only[KN,KS]at tW;rw[KN]at hs0;rw[KS]at ht0;simp only[<-hs0,<-ht0]at hbg;have aga:∀k,(AC k).length=k:=λk=>by rw[<-xN];simp[rE]
 obtain⟨Hi,fC,fJ,eF,iI,GM,CR,nY,GJ,HT⟩:=uk hi hz0 hz1 hz2 di hbg tW hnx pW hT;clear hi hz0 hz1 hz2 di hbg tW hnx pW hT aga hs0 ht0 KN KS RY xN hc ha hf hL;have hN1:¬(1024:Int)<(N:Int):=by omega
 have KF:¬(N:Int)<0:=by omega
 have Hb:Hid (Bw w w):=Below.refl _ _;go_enter Tryz.func9,Tryz.ntmps9;go_wp2_with fail;refine(iI.out _ Hb.out).mono ?_;rintro e w1 ⟨rfl,ae⟩;replace Hb:=ak Hb ae;clear ae;go_wp2_with fail;refine(GM.out _ Hb.out).mono ?_;rintro e w2 ⟨xb,ib,rfl,hx1,hi1,hx2,hi2,hS,ae⟩;have hw1:=Hb.out.size;replace Hb:=af (aG Hb.out ae);have HS:=af hS;have hsz:=ae.size;clear hS ae;go_wp2_with fail;go_loopw[7,28] (λs7 x wr=>∃(k:Nat) (v:Value),k<=N/\x=.int .i64 (k:Int)/\v=s7/\wr.ownsRow w2.heap.size 3 1 v k (AC k)/\kv wr w1.heap.size xb ib L (SR k) (TM k)/\w2.heap.size<=wr.heap.size/\Bw w wr) (λ_ x _=>N-(intOf x).toNat);case atStart=>exact⟨0,_,Nat.zero_le _,rfl,rfl,by rw[GJ.out];exact World.ownsRow_nil _ _ _ _,HS.out,Nat.le_refl _,Hb.out⟩
 case round=>
  clear Hb HS;obtain⟨k,v,hk,rfl,rfl,pv,ps,pz,pb⟩:=hrel;by_cases hlt:k<N
  . have hlt':(k:Int)<(N:Int):=by omega
    obtain⟨cZ,IP,Hb⟩:=cP pv ps pb;clear pv ps pb;go_wp2_with fail;refine(CR.out k w1.heap.size xb ib _ zo IP.out (HT.out.below Hb.out)).mono ?_;rintro e w4 ⟨rfl,SX,En⟩;have hv4:=Xa cZ.out En (λb e h=>by have:=eJ cZ.out b e;omega);have hb4:=Hb.out.trans (En.below Hb.out.size (λb h=>by omega));have Mv:=En.size;obtain⟨Zn,Hv4,jI⟩:=cP SX hv4 hb4;have sz0:=hb4.size;clear SX En hv4 hb4 IP cZ Hb;have Hb:Hid (Bw w4 w4):=Below.refl _ _;obtain⟨W6,pV,ae,Hd⟩:=bH w4 3 [.int .i64 (AX k:Int)];have d0:=Hd.out.c1;replace Hb:=ak Hb ae;clear ae;have cX:=ownsRow_below Hv4.out Hb.out;have SY:=Zn.out.below Hb.out;have lH:=Hb.out.size;have hnews:∀i u,([.int .i64 (AX k:Int)]:List Value)[i]?=some u->W6.cell? ((⟨w4.heap.size,0,none⟩:Addr).add i)=some u:=jL Hd.out;have Zo:=af SY;clear d0 SY;go_wp2_with (at_builtin;refine wpList_append_own_at _ rfl _ _ 26 rfl w2.heap.size 3 i0 _ 1 8 Tryz.underlying26 Hi.out fC.out fJ.out eF.out rfl zd v k (AC k) rfl cX ⟨w4.heap.size,0,none⟩ 1 1 [.int .i64 (AX k:Int)] rfl rfl hnews zy zx zo zo ?_;intro v' w7 fY gA _ _;obtain⟨g',pO,rfl⟩:=ownsRow_succ fY);go_roundw;case rel=>
     refine⟨k+1,_,by omega,by go_num,rfl,?_,?_,?_,?_⟩
     . rw[nY.out];exact fY
     . exact Zo.out.row cX zo zo zo gA
     . have:=gA.size;omega
     . exact(aG jI.out Hb.out).grown gA zo (λj e=>by have:=eJ cX j e;omega)
    case measure=>simp[intOf];omega
  . obtain rfl:k=N:=by omega
    obtain⟨a2,c2,rfl,hat,_⟩:=eI pv;obtain⟨ej,Hb⟩:=aJ hat pb;clear pv ps pb hat;go_wp2;refine bodyPost_ret (v:=.tuple #[.slice a2 k c2,.int .i64 0]) (by simp[results,Tryz.results9,go_sem]) rfl ⟨a2,c2,rfl,ej.out,Hb.out⟩
theorem VU (d gf gg:Nat)(la lb:Array Value)(c:Nat->Bool)(J:Nat->World->Prop)(w:World)(hd:1<=d)(hd2:d<=1000)
 (eg:∀args w,(callFunc gf args).run Tryz.prog w=.ok (.enter gf args) w) (eh:∀args w,(callFunc gg args).run Tryz.prog w=.ok (.enter gg args) w)
 (h0:J 0 w) (h1:∀k W,k<=1024->J k W->Calls Tryz.prog gf la W λe w'=>e=.returned (.bool (c k))/\J k w')
 (h2:∀k W,k<=1024->J k W->Calls Tryz.prog gg lb W λe w'=>e=.returned (.tuple #[])/\J (k+1) w'):
 Calls Tryz.prog 44 #[.int .i64 (d:Int),.func (.func gf) #[] la,.func (.func gg) #[] lb] w λe w'=>e=.returned (.tuple #[.int .i64 (((wj c d).getD 0:Nat):Int),.int .i64 (if wj c d=none then 3 else 0)])/\∃k,J k w':=by
 obtain⟨R,hR⟩:=az (wj c d);have tM:jY c d (1026-0) 0=R:=hR;have hst:∀k,k<=1025->jY c d (1026-k) k=if 1024<d*k then none else if c k then some (d*k)else jY c d (1026-(k+1)) (k+1):=λk hk=>by rw[show 1026-k=(1026-(k+1))+1 by omega];rfl
 rw[hR];obtain⟨H0,H1,H2,yX,bR,kq,Heh⟩:=jC h0 h1 h2 tM hst eg eh;clear h0 h1 h2 hR tM hst eg eh;go_enter Tryz.func44,Tryz.ntmps44;go_wp2;go_step3
 go_wp2;go_step3
 go_wp2;go_loopw[8] (λx wr=>∃k:Nat,k<=1025/\d*k<=1024+d/\x=.int .i64 ((d*k:Nat):Int)/\jY c d (1026-k) k=R/\J k wr) (λx _=>3000-(intOf x).toNat);case atStart=>exact⟨0,by omega,by omega,rfl,yX.out,H0.out⟩
 case round=>
  obtain⟨k,hk,hdk,rfl,hF,hJ⟩:=hrel;have hs:=bR.out k hk;rw[hF]at hs;have hmk:d* (k+1)=d*k+d:=Nat.mul_succ d k;have oY:k<=d*k:=Nat.le_mul_of_pos_left k hd;obtain⟨m,hm⟩:=az (d*k);rw[hm]at hs hdk hmk oY⊢;obtain⟨HJ,pL⟩:=aJ hJ hmk;have kQ:=kq.out;have Ig:=Heh.out;clear hJ hF hm hmk;by_cases h1:1024<m
  . rw[if_pos h1]at hs;have h1':(1024:Int)<(m:Int):=by omega
    have Hs:=af hs;clear hs kQ Ig;go_wp2;try rw[Exit.noGoto_ret]
    exact bodyPost_ret (v:=.tuple #[.int .i64 0,.int .i64 3]) (by simp[results,Tryz.results44,go_sem]) rfl ⟨by rw[Hs.out];rfl,k,HJ.out⟩
  . rw[if_neg h1]at hs;have h1':¬(1024:Int)<(m:Int):=by omega
    have hk2:k<=1024:=by omega
    obtain⟨t,ht⟩:=az (c k);have hc1:=H1.out k wr hk2 HJ.out;rw[ht]at hs hc1;obtain⟨Hs,ZR⟩:=aJ hs hc1;clear hs hc1 ht;go_wp2_with fail;refine ZR.out.mono ?_;rintro e w2 ⟨rfl,hJ2⟩;replace HJ:=af hJ2;clear hJ2;cases t with
    | true=>
      have hs:=Hs.out;rw[if_pos rfl]at hs;replace Hs:=af hs;clear hs kQ Ig;go_wp2;try rw[Exit.noGoto_ret]
      exact bodyPost_ret (v:=.tuple #[.int .i64 (m:Int),.int .i64 0]) (by simp[results,Tryz.results44,go_sem]) rfl ⟨by rw[Hs.out];rfl,k,HJ.out⟩
    | false=>
      have hs:=Hs.out;rw[if_neg zd]at hs;have hc2:=H2.out k w2 hk2 HJ.out;have xe:=af hc2;replace Hs:=af hs;have hwr:IntKind.i64.wrap ((m:Int)+(d:Int))=((m+d:Nat):Int):=by rw[IntKind.wrap_i64];omega
      clear hs hc2 kQ;go_wp2_with fail;refine xe.out.mono ?_;rintro e w3 ⟨rfl,hJ3⟩;have Zd:=af hJ3;clear hJ3 Ig;go_wp2;go_roundw;case rel=>exact⟨k+1,by omega,by rw[pL.out];omega,by rw[pL.out];simp,Hs.out.symm,Zd.out⟩
      case measure=>simp[intOf];omega
def mD (n:Int):Int:=if n<0\/1024<n then 0 else sG n.toNat
theorem BR (n:Int)(w:World):Calls Tryz.prog 11 #[.int .i64 n] w λe w'=>e=.returned (bM (mD n))/\Bw w w':=by
 by_cases h:n<0\/1024<n
 . have e0:bM (mD n)=.agg #[.bool false,.string ⟨#[]⟩]:=by unfold mD;rw[if_pos h];rfl
   rw[e0];by_cases h1:n<0
   . clear e0 h;obtain⟨W,cL,Hb,Hr⟩:=gX w 32 [.bool false,.string ⟨#[]⟩];obtain⟨r0,ah,r1,ai⟩:=Hr.out.g2;go_enter Tryz.func11,Tryz.ntmps11;go_wp2;clear r0 ah r1 ai;refine eK (bf W (w.heap.size) 0 [.bool false,.string ⟨#[]⟩]) bI ?_;intro w9 hs;replace Hr:=cp Hr hs;obtain⟨r0,ah,r1,ai⟩:=Hr.out.g2;replace Hb:=bS Hb hs ZS;clear hs;refine bodyPost_ret (v:=.agg #[.bool false,.string ⟨#[]⟩]) (by simp[results,Tryz.results11,go_sem,r0,r1]) rfl ⟨rfl,Hb.out⟩
   . have h2:1024<n:=by omega
     clear e0 h;obtain⟨W,cL,Hb,Hr⟩:=gX w 32 [.bool false,.string ⟨#[]⟩];obtain⟨r0,ah,r1,ai⟩:=Hr.out.g2;go_enter Tryz.func11,Tryz.ntmps11;go_wp2;clear r0 ah r1 ai;refine eK (bf W (w.heap.size) 0 [.bool false,.string ⟨#[]⟩]) bI ?_;intro w9 hs;replace Hr:=cp Hr hs;obtain⟨r0,ah,r1,ai⟩:=Hr.out.g2;replace Hb:=bS Hb hs ZS;clear hs;refine bodyPost_ret (v:=.agg #[.bool false,.string ⟨#[]⟩]) (by simp[results,Tryz.results11,go_sem,r0,r1]) rfl ⟨rfl,Hb.out⟩
 . obtain⟨N,rfl⟩:∃N:Nat,n=N:=⟨n.toNat,by omega⟩;have hN:N<=1024:=by omega
   have hv:mD (N:Int)=sG N:=by unfold mD;rw[if_neg h];rfl
   rw[hv];obtain⟨P,hP⟩:∃P:Int,(2:Int)^(N+1)=P:=⟨_,rfl⟩;have hV:sG N=P-1:=by unfold sG;rw[hP]
   have hlen:(nt P.natAbs).length<=34359738368:=by
    have h1:P.natAbs<2^(N+2):=by rw[<-hP,Int.natAbs_pow];exact Nat.pow_lt_pow_right zd zo
    exact Nat.le_trans (jf (N:=200) h1 zo) zd
   have hsh:∀W,Calls Tryz.prog 38 #[.agg #[.bool (aj 1),.string (bs (nt 1))],.int .i64 ((N:Int)+1)] W λe w'=>e=.returned (bM P)/\Bw W w':=λW=>by have h:=Gj (aj 1) (nt 1) (N+1) W zd zo;rw[show iv (aj 1) (nt 1)=1 from dI 1,Int.one_mul,hP]at h;exact h
   have hsu:∀W,Calls Tryz.prog 37 #[.agg #[.bool (aj P),.string (bs (nt P.natAbs))],.agg #[.bool (aj 1),.string (bs (nt 1))]] W λe w'=>e=.returned (bM (P-1))/\Bw W w':=λW=>by have h:=Gk (aj P) (nt P.natAbs) (aj 1) (nt 1) W hlen zd;rw[dI,show iv (aj 1) (nt 1)=1 from dI 1]at h;exact h
   rw[hV];obtain⟨Q,hQ⟩:=az (P-1);rw[hQ]at hsu⊢;obtain⟨IX,Hsu⟩:=aJ hsh hsu;have h1:¬(N:Int)<0:=by omega
   have h2:¬(1024:Int)<(N:Int):=by omega
   have hwr:IntKind.i64.wrap ((N:Int)+1)=(N:Int)+1:=by rw[IntKind.wrap_i64];omega
   clear hsh hsu hP hV hlen hv h hQ;obtain⟨W,cL,Hb,Hr⟩:=gX w 32 [.bool false,.string ⟨#[]⟩];obtain⟨r0,ah,r1,ai⟩:=Hr.out.g2;go_enter Tryz.func11,Tryz.ntmps11;go_wp2_with fail;refine(Gi 1 1 rfl _ zd zd).mono ?_;rintro e w1 ⟨rfl,ae⟩;clear r0 ah r1 ai;replace Hr:=kB Hr ae;obtain⟨r0,ah,r1,ai⟩:=Hr.out.g2;replace Hb:=ak Hb ae;clear ae;have nO:=Hr.out.lt;obtain⟨W2,kz,ae,Ho⟩:=bH w1 32 [.bool (aj 1),.string (bs (nt 1))];clear r0 ah r1 ai;replace Hr:=kB Hr ae;obtain⟨r0,ah,r1,ai⟩:=Hr.out.g2;obtain⟨o0,o1⟩:=Ho.out.c2;replace Hb:=ak Hb ae;clear ae;go_wp2_with fail;refine cf (λw'=>w'.cell? ⟨w1.heap.size,0,none⟩=some (.bool (aj 1))/\w'.cell? ⟨w1.heap.size,1,none⟩=some (.string (bs (nt 1)))) (λi=>Nat.blt i 6) [(0,true),(1,true),(2,true),(4,true),(3,false),(5,false),(6,false)] zk zk rfl zk zc ⟨o0,o1⟩ ?_;iterate 4 (refine pT rfl rfl ?_ (by intro w' ⟨q0,q1⟩;go_simp;try with_reducible rfl);try simp only[UU])
   refine aF rfl rfl (λK hK=>?_);go_simp;with_reducible refine(IX.out _).mono ?_
   rintro e w3 ⟨rfl,hq⟩;have ae:Bw W2 w3:=by first|exact hq|exact aK hq
   clear r0 ah r1 ai o0 o1;replace Hr:=kB Hr ae;replace Ho:=kB Ho ae;obtain⟨r0,ah,r1,ai⟩:=Hr.out.g2;obtain⟨o0,o1⟩:=Ho.out.c2;replace Hb:=ak Hb ae;clear ae;refine hK _ _ (λ_=>⟨o0,o1⟩) ?_;clear hK K;try simp only[UU]
   refine aF rfl rfl (λK hK=>?_);go_simp;with_reducible refine(Hsu.out _).mono ?_
   rintro e w4 ⟨rfl,hq⟩;have ae:Bw w3 w4:=by first|exact hq|exact aK hq
   clear r0 ah r1 ai o0 o1;replace Hr:=kB Hr ae;replace Ho:=kB Ho ae;obtain⟨r0,ah,r1,ai⟩:=Hr.out.g2;obtain⟨o0,o1⟩:=Ho.out.c2;replace Hb:=ak Hb ae;clear ae;refine hK _ _ (λ_=>⟨o0,o1⟩) ?_;clear hK K;try simp only[UU]
   refine aF rfl rfl (λK hK=>?_);go_simp;refine hK _ _ (λh=>absurd h zd) ?_;clear hK K;try simp only[UU]
   clear r0 ah r1 ai o0 o1;refine cj (bf w4 (w.heap.size) 0 [.bool (aj Q),.string (bs (nt Q.natAbs))]) bI ?_;intro w9 hs;replace Hr:=cp Hr hs;replace Ho:=kS Ho hs zo;obtain⟨r0,ah,r1,ai⟩:=Hr.out.g2;obtain⟨o0,o1⟩:=Ho.out.c2;replace Hb:=bS Hb hs ZS;clear hs;simp only[aN];go_wp2;refine bodyPost_ret (v:=bM Q) (by simp[results,Tryz.results11,go_sem,r0,r1]) rfl ⟨rfl,?_⟩;(repeat first|exact Hb.out| (refine Below.setCell ?_ (by have:=Hb.out.size;first| (dsimp only;omega) | (show _<=_;omega) | (simp<;>omega)) _) | (refine Below.alloc ?_ zt _) |refine Below.drew ?_)
def jA (ds:List Int):List Value:=ds.map λd=>.int .i64 d
def lK (ds:List Int):Nat->Int
 |0=>ds.getD 0 0
 |k+1=>min (lK ds k) (ds.getD k 0)
theorem aiA (ds:List Int)(k:Nat):lK ds k<0↔ds.getD 0 0<0\/∃i,i<k/\ds.getD i 0<0:=by
 induction k with
 | zero => unfold lK;constructor
           . exact .inl
           . rintro(h|⟨i,hi,_⟩)
             . exact h
             . omega
 | succ k ih=>
   unfold lK;rw[show ∀a b:Int,min a b<0↔a<0\/b<0 from λa b=>by omega,ih];constructor
   . rintro((h|⟨i,hi,h⟩) |h)
     . exact .inl h
     . exact .inr ⟨i,by omega,h⟩
     . exact .inr ⟨k,by omega,h⟩
   . rintro(h|⟨i,hi,h⟩)
     . exact .inl (.inl h)
     . by_cases e:i=k
       . subst e;exact .inr h
       . exact .inl (.inr ⟨i,by omega,h⟩)
theorem MJ (ds:List Int)(hk:1<=ds.length):(lK ds ds.length<0)↔∃d∈ds,d<0:=by
 rw[aiA ds _];constructor
 . rintro(h|⟨i,hi,h⟩)
   . refine⟨ds[0],List.getElem_mem _,?_⟩;simpa[show 0<ds.length by omega]using h
   . exact⟨ds[i],List.getElem_mem _,by simpa[hi]using h⟩
 . rintro⟨d,hd,h⟩;obtain⟨i,hi,rfl⟩:=List.mem_iff_getElem.1 hd;exact .inr ⟨i,hi,by simpa[hi]using h⟩
theorem At.ig {w:World}{a:Option Addr}{ds:List Int}(h:At w a (jA ds))(k:Nat)(hk:k<ds.length):∃b o,a=some ⟨b,o,none⟩/\w.cell? ⟨b,o+k,none⟩=some (.int .i64 (ds.getD k 0)):=by
 have hk2:k<(jA ds).length:=by simpa[jA]using hk
 obtain⟨b,o,hab,hcs⟩:=h.get (by intro h0;rw[h0]at hk2;simp at hk2);exact⟨b,o,hab,by rw[hcs k hk2];simp[jA,hk]⟩
theorem XK (a:Option Addr)(n cap:Nat)(ds:List Int)(w:World)(hn:ds.length=n)(h1:1<=n)(hl:n<=1048576)(ha:At w a (jA ds)):
 Calls Tryz.prog 42 #[.slice a n cap] w λe w'=>e=.returned (.int .i64 (lK ds n))/\Bw w w':=by
 obtain⟨b,o,hab,hc0⟩:=ha.ig 0 zo;have hcs:∀W,Bw w W->∀k,k<n->W.cell? ⟨b,o+k,none⟩=some (.int .i64 (ds.getD k 0)):=λW hW k hk=>by obtain⟨b',o',jQ,h⟩:=(ha.below hW).ig k zo;rw[hab]at jQ;simp only[Option.some.injEq,Addr.mk.injEq,and_true]at jQ;obtain⟨rfl,rfl⟩:=jQ;exact h
 subst hab;have hst:∀k,lK ds (k+1)=min (lK ds k) (ds.getD k 0):=λk=>rfl;have Ea:lK ds 1=ds.getD 0 0:=by show min (ds.getD 0 0) (ds.getD 0 0)=_;omega
 obtain⟨M,hM⟩:=az (lK ds);obtain⟨D,hD⟩:∃D:Nat->Int,(λk=>ds.getD k 0)=D:=⟨_,rfl⟩;have Ay:∀k,ds.getD k 0=D k:=λk=>by rw[<-hD]
 simp only[Ay,hM]at hcs hst Ea hc0;rw[hM];rw[Nat.add_zero]at hc0;obtain⟨CL,bR,YJ⟩:=cP hcs hst Ea;have nC:=sf n cap 0 0 (rfl:(some ⟨b,o,none⟩:Option Addr)=_) h1 rfl;rw[Nat.mul_one,Nat.add_zero]at nC;have dY:¬(n:Int)<1:=by omega
 clear hcs hst Ea Ay hD hM ha hn;have Hb:Hid (Bw w w):=Below.refl _ _;go_enter Tryz.func42,Tryz.ntmps42;go_wp2_with fail;clear nC hc0;go_loopw[3,4] (λs3 x wr=>∃k:Nat,1<=k/\k<=n/\x=.int .i64 (k:Int)/\s3=.int .i64 (M k)/\Bw w wr) (λ_ x _=>n-(intOf x).toNat);case atStart=>exact⟨1,Nat.le_refl _,h1,rfl,by rw[YJ.out],Hb.out⟩
 case round=>
  clear Hb;obtain⟨k,hk1,hk,rfl,rfl,pb⟩:=hrel;by_cases hlt:k<n
  . have hc:=CL.out wr pb k hlt;have aX:=sf n cap k (k:Int) (rfl:(some ⟨b,o,none⟩:Option Addr)=_) hlt rfl;rw[Nat.mul_one]at aX;have Hb:=af pb;clear pb;go_wp2;go_roundw;case rel=>exact⟨k+1,by omega,by omega,by go_num,by rw[bR.out],Hb.out⟩
    case measure=>simp[intOf];omega
  . obtain rfl:k=n:=by omega
    have Hb:=af pb;clear pb;go_wp2;refine bodyPost_ret (results_tmp rfl _ _ _) rfl ⟨rfl,Hb.out⟩
theorem BX (d:Int)(h:d.natAbs<2^64):Sm 128 (Dyadic.ofIntWithPrec d 0):=by have h1:=Sm.raw (x:=(aj d,nt d.natAbs,0)) (B:=64) (by have:=jf (k:=64) (N:=8) h zd;show 8* (nt d.natAbs).length<=64;omega) (by show-((64:Nat):Int)<=0;omega) (by show(0:Int)<=((64:Nat):Int);omega);rwa [xL]at h1
theorem akN {A B:Nat}{g:Dyadic}{ds:Nat->Dyadic}{t:Nat->Nat}{T:Nat}(hg:Sm A g)(hd:∀i,Sm B (ds i))(ht:∀i,t i<=T)(k:Nat):Sm (A+B+T+1+k) (jk g ds t k):=by
 induction k with
 |zero=>exact Sm.zero _
 |succ k ih=>have h:=Sm.mul (Sm.mul hg (hd k)) ((EN (t k)).mono (show t k+1<=T+1 by have:=ht k;omega));exact Sm.add ih (h.mono (show A+B+(T+1)<=A+B+T+1+k by omega))
def pE (w:World)(top db gb mb pb xb ib L:Nat)(da:Option Addr)(dc:Nat)(ds:List Int)(gs:Bool)(gl:List UInt8)(ge:Int)(ms:Bool)(ml:List UInt8)(me:Int)(bx:List (Raw×Raw))(k:Nat):Prop:=
 ag w db 26 [.slice da L dc]/\ag w gb 39 [.bool gs,.string (bs gl),.int .i64 ge]/\ag w mb 39 [.bool ms,.string (bs ml),.int .i64 me]/\ag w pb 64 [.pointer (some ⟨xb,0,none⟩)]/\At w da (jA ds)/\kv w top xb ib L (qQ bx k) (kK (bx.map bu) k)
theorem pE.below {w w':World}{top db gb mb pb xb ib L dc k:Nat}{da:Option Addr}{ds:List Int}{gs:Bool}{gl:List UInt8}{ge:Int}{ms:Bool}{ml:List UInt8}{me:Int}{bx:List (Raw×Raw)}(h:pE w top db gb mb pb xb ib L da dc ds gs gl ge ms ml me bx k)(hb:Bw w w'):pE w' top db gb mb pb xb ib L da dc ds gs gl ge ms ml me bx k:=
 ⟨h.1.below hb,h.2.1.below hb,h.2.2.1.below hb,h.2.2.2.1.below hb,h.2.2.2.2.1.below hb,h.2.2.2.2.2.below hb⟩
theorem afF (top db gb mb pb xb ib L:Nat)(da:Option Addr)(dc:Nat)(ds:List Int)(gs:Bool)(gl:List UInt8)(ge:Int)(ms:Bool)(ml:List UInt8)(me:Int)(bx:List (Raw×Raw))(k B:Nat)(w:World)(hL:bx.length=L)(h1:1<=L)(hl:L<=1000)(hf:gG B bx)(hB:B<=100000)(hk:k<=2000)(hT:au w)
 (hdx:db≠xb/\db≠ib) (hgx:gb≠xb/\gb≠ib) (hmx:mb≠xb/\mb≠ib) (hpx:pb≠xb/\pb≠ib) (pW:∀b o,da=some ⟨b,o,none⟩->b≠xb/\b≠ib) (hJ:pE w top db gb mb pb xb ib L da dc ds gs gl ge ms ml me bx k):
 Calls Tryz.prog 47 #[.pointer (some ⟨pb,0,none⟩)] w λe w'=>e=.returned (.tuple #[])/\pE w' top db gb mb pb xb ib L da dc ds gs gl ge ms ml me bx (k+1)/\Chg (λb=>b=xb\/b=ib) w w':=by
 obtain⟨q1,q2,q3,q4,q5,q6⟩:=hJ;have hs:=XB top xb ib L B k bx w hL h1 hl hf zo zo q6 hT;have hp0:w.cell? ⟨pb,0,none⟩=some (.pointer (some ⟨xb,0,none⟩)):=q4.cell 0;obtain⟨Hs,Q1,Q2,Q3,Q4,Q5,GJ⟩:=jC hs q1 q2 q3 q4 q5 pW;clear hs q1 q2 q3 q4 q5 q6 pW hf hL hT;go_enter Tryz.func47,Tryz.ntmps47;go_wp2_with fail;refine Hs.out.mono ?_;rintro e w1 ⟨rfl,hS,hc⟩;obtain⟨HS,Hc⟩:=aJ hS hc;clear hS hc hp0;go_wp2;refine bodyPost_end (v:=.tuple #[]) (by simp[results,Tryz.results47,go_sem]) rfl ⟨rfl,⟨Hc.out.blk Q1.out zo,Hc.out.blk Q2.out zo,Hc.out.blk Q3.out zo,Hc.out.blk Q4.out zo,At.chgS Q5.out Hc.out (λb o e h=>by have:=GJ.out b o e;omega),HS.out⟩,Hc.out⟩
theorem aeQ (top db gb mb pb xb ib L:Nat)(da:Option Addr)(dc:Nat)(ds:List Int)(gs:Bool)(gl:List UInt8)(ge:Int)(ms:Bool)(ml:List UInt8)(me:Int)(bx:List (Raw×Raw))(k:Nat)(w:World)(hL:ds.length=L)(hl:L<=1000)(hg:Fit 300 (gs,gl,ge))(hm:Fit 300 (ms,ml,me))(hd:∀d∈ds,0<=d/\d<18446744073709551616/4)(hk:k<=2000)(hT:au w)
 (hJ:pE w top db gb mb pb xb ib L da dc ds gs gl ge ms ml me bx k):
 Calls Tryz.prog 45 #[.pointer (some ⟨db,0,none⟩),.pointer (some ⟨gb,0,none⟩),.pointer (some ⟨pb,0,none⟩),.pointer (some ⟨mb,0,none⟩)] w λe w'=>e=.returned (.bool (decide (aL (jk (ar (gs,gl,ge)) (λi=>Dyadic.ofIntWithPrec (ds.getD i 0) 0) (kK (bx.map bu) k) L-ar (ms,ml,me))<0)))/\Bw w w':=by
 obtain⟨q1,q2,q3,q4,q5,q6⟩:=hJ;obtain⟨sa,sc,s1,s2,s3,s4,s5⟩:=q6;obtain⟨T,Ej⟩:=az (kK (bx.map bu) k);obtain⟨D,hD⟩:∃D:Nat->Dyadic,(λi=>Dyadic.ofIntWithPrec (ds.getD i 0) 0)=D:=⟨_,rfl⟩;obtain⟨G,hG⟩:=az (ar (gs,gl,ge));obtain⟨M,hM⟩:=az (ar (ms,ml,me));have KT:∀i,T i<=2000:=λi=>by rw[<-Ej];exact Nat.le_trans (Yh _ _ _) hk
 have hdr:∀i,0<=ds.getD i 0/\ds.getD i 0<18446744073709551616/4:=λi=>by
  by_cases h:i<ds.length
  . have e:ds.getD i 0=ds[i]:=by simp[h]
    rw[e];exact hd _ (List.getElem_mem h)
  . have e:ds.getD i 0=0:=by simp[List.getD_eq_getElem?_getD,List.getElem?_eq_none (by omega:ds.length<=i)]
    rw[e];decide
 have Ky:∀i,Dyadic.ofIntWithPrec (ds.getD i 0) 0=D i:=λi=>by rw[<-hD]
 have iM:∀i,Sm 128 (D i):=λi=>by rw[<-Ky];exact BX _ (by have:=hdr i;omega)
 rw[hD,Ej,hM];rw[Ej]at s3;have rS:Sm 300 G:=by rw[<-hG];exact hg.2
 have LH:=hm.2;rw[hM]at LH;have hS:∀i,Sm (300+128+2000+1+i) (jk G D T i):=λi=>akN rS iM KT i;have KQ:∀i,jk G D T (i+1)=jk G D T i+G*D i*hp (T i):=λi=>rfl;have ma:jk G D T 0=0:=rfl;have hai:=λW (hW:Bw w W) i (hi:i<L)=>(q5.below hW).ig i zo;rw[hG];obtain⟨S,AL⟩:=az (jk G D T);rw[AL]at hS KQ ma⊢;obtain⟨c,hc⟩:=az (aL (S L-M));rw[hc];have HC:=af hc;clear hc;have l1:=q1.lt;have l2:=q2.lt;have l3:=q3.lt;have l4:=q4.lt;have l5:=s1.lt;have l6:=s3.lt;have mo:∀b o,da=some ⟨b,o,none⟩->0<L->b<w.heap.size:=λb o e h0=>by obtain⟨b',o',e',hc⟩:=q5.ig 0 zo;rw[e]at e';simp only[Option.some.injEq,Addr.mk.injEq,and_true]at e';rw[e'.1];exact World.block_lt_of_cell? w _ hc
 obtain⟨Hd,Hg,Hm,Hp,Hx,Hi,HT,HG,HM,Zu,GZ,YU⟩:=iR q1 q2 q3 q4 s1 s3 hT hG hM KT hdr Ky;obtain⟨Gs,Fg,Fm,HgS,HmS,HS,Zt,Gz,ZI,rp⟩:=uk iM hg hm rS LH hS KQ ma hai mo;clear q1 q2 q3 q4 q5 s1 s2 s3 s4 hT hG hM KT hdr Ky iM hg hm rS LH hS KQ ma hai mo AL hD Ej hd;have Bg:=Hg;have Bm:=Hm;have Bp:=Hp;have Bx:=Hx;have Bi:=Hi;have Hb:Hid (Bw w w):=Below.refl _ _;go_enter Tryz.func45,Tryz.ntmps45;have d0:=Hd.out.c1;obtain⟨g0,g1,g2⟩:=Hg.out.c3;obtain⟨m0,m1,m2⟩:=Hm.out.c3;have p0:=Hp.out.c1;obtain⟨x0,x1⟩:=Hx.out.c2;have aoH:=Hd.out.lt;have aoU:=Hg.out.lt;have ao4:=Hm.out.lt;have apd:=Hp.out.lt;have apH:=Hx.out.lt;have aoY:=Hi.out.lt;obtain⟨W,cL,ae,Hs⟩:=bH w 39 [.bool false,.string ⟨#[]⟩,.int .i64 0];clear d0;replace Hd:=kB Hd ae;clear g0 g1 g2;replace Hg:=kB Hg ae;clear m0 m1 m2;replace Hm:=kB Hm ae;clear p0;replace Hp:=kB Hp ae;clear x0 x1;replace Hx:=kB Hx ae;replace Hi:=kB Hi ae;have d0:=Hd.out.c1;obtain⟨g0,g1,g2⟩:=Hg.out.c3;obtain⟨m0,m1,m2⟩:=Hm.out.c3;have p0:=Hp.out.c1;obtain⟨x0,x1⟩:=Hx.out.c2;obtain⟨s0,aO,s1,aP,s2,aV⟩:=Hs.out.g3;replace Hb:=ak Hb ae;clear ae;go_wp2_with fail;clear d0 g0 g1 g2 m0 m1 m2 p0 x0 x1 s0 aO s1 aP s2 aV;first|refine bB (bf W (w.heap.size) 0 [.bool false,.string ⟨#[]⟩,.int .i64 0]) bI ?_|refine bz (bf W (w.heap.size) 0 [.bool false,.string ⟨#[]⟩,.int .i64 0]) bI ?_
 intro W1 hs;replace Hd:=kS Hd hs zo;replace Hg:=kS Hg hs zo;replace Hm:=kS Hm hs zo;replace Hp:=kS Hp hs zo;replace Hx:=kS Hx hs zo;replace Hi:=kS Hi hs zo;replace Hs:=cp Hs hs;have d0:=Hd.out.c1;obtain⟨g0,g1,g2⟩:=Hg.out.c3;obtain⟨m0,m1,m2⟩:=Hm.out.c3;have p0:=Hp.out.c1;obtain⟨x0,x1⟩:=Hx.out.c2;obtain⟨s0,aO,s1,aP,s2,aV⟩:=Hs.out.g3;replace Hb:=bS Hb hs ZS;clear hs;go_wp2_with fail;clear d0 g0 g1 g2 m0 m1 m2 p0 x0 x1 s0 s1 s2 aO aP aV;go_loopw[11] (λx wr=>∃j:Nat,j<=L/\x=.int .i64 (j:Int)/\ag wr w.heap.size 39 (bJ (canon (S j)))/\Bw w wr) (λx _=>L-(intOf x).toNat);case atStart=>exact⟨0,Nat.zero_le _,rfl,by rw[Gz.out];exact Hs.out,Hb.out⟩
 case round=>
  clear Hs Hb Hd Hg Hm Hp Hx Hi;obtain⟨j,hj,rfl,ps,pb⟩:=hrel;by_cases hlt:j<L
  . obtain⟨b,o,hab,hc0⟩:=ZI.out wr pb j hlt;have lb:=rp.out b o hab zo;subst hab;have aX:=sf L dc j (j:Int) (rfl:(some ⟨b,o,none⟩:Option Addr)=_) hlt rfl;have lD:=sf L L j (j:Int) (rfl:(some ⟨ib,0,none⟩:Option Addr)=_) hlt rfl;rw[Nat.mul_one]at aX lD;rw[Nat.zero_add]at lD;obtain⟨d,hd⟩:=az (ds.getD j 0);obtain⟨E,hE⟩:=az (D j);obtain⟨Y,hY⟩:=az (S j);obtain⟨Z,hZ⟩:=az (S (j+1));obtain⟨q,hq⟩:=az (T j);obtain⟨P,hP⟩:=az (G*E);obtain⟨X,hX⟩:=az (P*hp q);have hdr:=GZ.out j;have Es:=YU.out j;have lv:=Gs.out j;have ja:=HS.out j;have hst:=Zt.out j;have LZ:=Zu.out j;rw[hd]at hdr Es hc0;rw[hE]at Es lv hst;rw[hY]at ja hst ps;rw[hZ]at hst;rw[hq]at LZ hst;rw[hP,hX]at hst;have xS:Sm 428 P:=by rw[<-hP];exact Sm.mul HgS.out lv
    have dX:Sm 4000 X:=by rw[<-hX];exact(Sm.mul xS (EN q)).mono zo
    have HX:Hid (ar (aj (dN P),nt (dN P).natAbs,dE P+ -(q:Int))=X):=by show _=_;rw[<-hX];exact XC P q
    have HP:Hid (ar (gs,gl,ge) *ar (aj (dN E),nt (dN E).natAbs,dE E)=P):=by show _*ar (canon E)=P;rw[bC,HG.out];exact hP
    have HZ:Hid (ar (aj (dN Y),nt (dN Y).natAbs,dE Y)+ar (aj (dN X),nt (dN X).natAbs,dE X)=Z):=by show ar (canon Y)+ar (canon X)=Z;rw[bC,bC];exact hst.symm
    have FE:Hid (Fit 300 (aj (dN E),nt (dN E).natAbs,dE E)):=(lv.mono zo).fit zo;have FP:Hid (Ok (aj (dN P),nt (dN P).natAbs,dE P)):=(xS.fit zo).1;have FY:Hid (Fit 4000 (aj (dN Y),nt (dN Y).natAbs,dE Y)):=(ja.mono zo).fit zo;have FX:Hid (Fit 4000 (aj (dN X),nt (dN X).natAbs,dE X)):=dX.fit zo;have ht0:wr.cell? ⟨ib,j,none⟩=some (.int .i64 (q:Int)):=by rw[(Bi.out.below pb).cell,List.getElem?_eq_getElem (by rw[NJ];exact hlt),Yg,hq]
    have hwr:IntKind.i64.wrap (-(q:Int))= -(q:Int):=by rw[IntKind.wrap_i64];omega
    have Hs:Hid (ag wr w.heap.size 39 [.bool (aj (dN Y)),.string (bs (nt (dN Y).natAbs)),.int .i64 (dE Y)]):=ps;obtain⟨Hg,Hp,Hx⟩:=cP (Bg.out.below pb) (Bp.out.below pb) (Bx.out.below pb);have Ht:Hid (bg wr ib j [.int .i64 (q:Int)]):=λi hi=>by
     obtain rfl:i=0:=by simp at hi;omega
     exact ht0
    obtain⟨ZV,kY,Hb,aab⟩:=dt Es hZ pb hdr;have lM:=pb.size;clear ps pb Es lv ja hst xS dX hX hP hZ hY hE hq hd ht0 hdr;obtain⟨s0,aO,s1,aP,s2,aV⟩:=Hs.out.g3;obtain⟨g0,g1,g2⟩:=Hg.out.c3;have p0:=Hp.out.c1;obtain⟨x0,x1⟩:=Hx.out.c2;have t0:=Ht.out.w1;go_wp2_with fail;clear hc0;refine cf (λw'=>w'.cell? ⟨w.heap.size,0,none⟩=some (.bool (aj (dN Y)))/\w'.cell? ⟨w.heap.size,1,none⟩=some (.string (bs (nt (dN Y).natAbs)))/\w'.cell? ⟨w.heap.size,2,none⟩=some (.int .i64 (dE Y))/\w'.cell? ⟨gb,0,none⟩=some (.bool gs)/\w'.cell? ⟨gb,1,none⟩=some (.string (bs gl))/\w'.cell? ⟨gb,2,none⟩=some (.int .i64 ge)/\w'.cell? ⟨pb,0,none⟩=some (.pointer (some ⟨xb,0,none⟩))/\w'.cell? ⟨xb,0,none⟩=some (.slice sa L sc)/\w'.cell? ⟨xb,1,none⟩=some (.slice (some ⟨ib,0,none⟩) L L)/\w'.cell? ⟨ib,j,none⟩=some (.int .i64 (q:Int))) (λi=>Nat.blt i 17) [(0,true),(1,true),(2,true),(6,true),(7,true),(8,true),(9,true),(10,true),(11,true),(12,true),(13,true),(3,false),(4,false),(5,false),(14,false),(15,false),(16,false),(17,false)] zk zk rfl zk zc ⟨s0,s1,s2,g0,g1,g2,p0,x0,x1,t0⟩ ?_;iterate 11 (refine pT rfl rfl ?_ (by intro w' ⟨q0,q1,q2,q3,q4,q5,q6,q7,q8,q9⟩;go_simp;try with_reducible rfl);try simp only[UU])
    refine aF rfl rfl (λK hK=>?_);go_simp;with_reducible refine(rI d E ZV.out _ (by have:=aab.out;omega) (by first|exact(HT.out.below Hb.out) |exact au.drew (HT.out.below Hb.out) |exact au.alloc (HT.out.below Hb.out) _|exact au.drew (au.alloc (HT.out.below Hb.out) _) |exact au.alloc (au.drew (HT.out.below Hb.out)) _)).mono ?_
    rintro e w5 ⟨rfl,hq⟩;have ae:Bw wr w5:=by first|exact hq|exact aK hq
    clear s0 aO s1 aP s2 aV g0 g1 g2 p0 x0 x1 t0;replace Hs:=kB Hs ae;replace Hg:=kB Hg ae;replace Hp:=kB Hp ae;replace Hx:=kB Hx ae;replace Ht:=kW Ht ae;obtain⟨s0,aO,s1,aP,s2,aV⟩:=Hs.out.g3;obtain⟨g0,g1,g2⟩:=Hg.out.c3;have p0:=Hp.out.c1;obtain⟨x0,x1⟩:=Hx.out.c2;have t0:=Ht.out.w1;replace Hb:=ak Hb ae;clear ae;refine hK _ _ (λ_=>⟨s0,s1,s2,g0,g1,g2,p0,x0,x1,t0⟩) ?_;clear hK K;try simp only[UU]
    refine aF rfl rfl (λK hK=>?_);go_simp;refine hK _ _ (λ_=>⟨aH s0,aH s1,aH s2,aH g0,aH g1,aH g2,aH p0,aH x0,aH x1,aH t0⟩) ?_;clear hK K;try simp only[UU]
    refine cj (λW6=>ag W6 (w5.heap.size) 39 [.bool gs,.string (bs gl),.int .i64 ge,.bool (aj (dN E)),.string (bs (nt (dN E).natAbs)),.int .i64 (dE E)]/\Bw w5 W6) (by first|exact fy|exact fA) ?_;rintro W6 ⟨qv,ae⟩;clear s0 aO s1 aP s2 aV g0 g1 g2 p0 x0 x1 t0;have apx:=Hs.out.lt;have Wp:=Hg.out.lt;have api:=Hp.out.lt;have ail:=Hx.out.lt;replace Hs:=kB Hs ae;replace Hg:=kB Hg ae;replace Hp:=kB Hp ae;replace Hx:=kB Hx ae;replace Ht:=kW Ht ae;have Hv:=af qv;clear qv;obtain⟨s0,aO,s1,aP,s2,aV⟩:=Hs.out.g3;obtain⟨g0,g1,g2⟩:=Hg.out.c3;have p0:=Hp.out.c1;obtain⟨x0,x1⟩:=Hx.out.c2;have t0:=Ht.out.w1;obtain⟨v0,v1,v2,v3,v4,v5⟩:=Hv.out.c6;replace Hb:=ak Hb ae;clear ae;refine aF rfl rfl (λK hK=>?_);go_simp;with_reducible refine(tG gs gl ge _ _ _ P 300 HP.out w5.heap.size 2 39 _ Fg.out FE.out zo Hv.out (by first|exact(HT.out.below Hb.out) |exact au.drew (HT.out.below Hb.out) |exact au.alloc (HT.out.below Hb.out) _|exact au.drew (au.alloc (HT.out.below Hb.out) _) |exact au.alloc (au.drew (HT.out.below Hb.out)) _)).mono ?_
    rintro e w7 ⟨rfl,hq⟩;have ae:Bw W6 w7:=by first|exact hq|exact aK hq
    clear s0 aO s1 aP s2 aV g0 g1 g2 p0 x0 x1 t0 v0 v1 v2 v3 v4 v5;replace Hs:=kB Hs ae;replace Hg:=kB Hg ae;replace Hp:=kB Hp ae;replace Hx:=kB Hx ae;replace Ht:=kW Ht ae;replace Hv:=kB Hv ae;obtain⟨s0,aO,s1,aP,s2,aV⟩:=Hs.out.g3;obtain⟨g0,g1,g2⟩:=Hg.out.c3;have p0:=Hp.out.c1;obtain⟨x0,x1⟩:=Hx.out.c2;have t0:=Ht.out.w1;obtain⟨v0,v1,v2,v3,v4,v5⟩:=Hv.out.c6;replace Hb:=ak Hb ae;clear ae;refine hK _ _ (λ_=>⟨s0,s1,s2,g0,g1,g2,p0,x0,x1,t0⟩) ?_;clear hK K;try simp only[UU]
    refine aF rfl rfl (λK hK=>?_);go_simp;with_reducible refine(yF _ _ _ (-(q:Int)) X HX.out _ FP.out zo (by first|exact(HT.out.below Hb.out) |exact au.drew (HT.out.below Hb.out) |exact au.alloc (HT.out.below Hb.out) _|exact au.drew (au.alloc (HT.out.below Hb.out) _) |exact au.alloc (au.drew (HT.out.below Hb.out)) _)).mono ?_
    rintro e w8 ⟨rfl,hq⟩;have ae:Bw w7 w8:=by first|exact hq|exact aK hq
    clear s0 aO s1 aP s2 aV g0 g1 g2 p0 x0 x1 t0 v0 v1 v2 v3 v4 v5;replace Hs:=kB Hs ae;replace Hg:=kB Hg ae;replace Hp:=kB Hp ae;replace Hx:=kB Hx ae;replace Ht:=kW Ht ae;replace Hv:=kB Hv ae;obtain⟨s0,aO,s1,aP,s2,aV⟩:=Hs.out.g3;obtain⟨g0,g1,g2⟩:=Hg.out.c3;have p0:=Hp.out.c1;obtain⟨x0,x1⟩:=Hx.out.c2;have t0:=Ht.out.w1;obtain⟨v0,v1,v2,v3,v4,v5⟩:=Hv.out.c6;replace Hb:=ak Hb ae;clear ae;refine hK _ _ (λ_=>⟨s0,s1,s2,g0,g1,g2,p0,x0,x1,t0⟩) ?_;clear hK K;try simp only[UU]
    refine aF rfl rfl (λK hK=>?_);go_simp;refine hK _ _ (λ_=>⟨aH s0,aH s1,aH s2,aH g0,aH g1,aH g2,aH p0,aH x0,aH x1,aH t0⟩) ?_;clear hK K;try simp only[UU]
    refine cj (λW9=>ag W9 (w8.heap.size) 39 [.bool (aj (dN Y)),.string (bs (nt (dN Y).natAbs)),.int .i64 (dE Y),.bool (aj (dN X)),.string (bs (nt (dN X).natAbs)),.int .i64 (dE X)]/\Bw w8 W9) (by first|exact fy|exact fA) ?_;rintro W9 ⟨qu,ae⟩;clear s0 aO s1 aP s2 aV g0 g1 g2 p0 x0 x1 t0 v0 v1 v2 v3 v4 v5;have aii:=Hs.out.lt;have aoX:=Hg.out.lt;have apj:=Hp.out.lt;have aim:=Hx.out.lt;have apG:=Hv.out.lt;replace Hs:=kB Hs ae;replace Hg:=kB Hg ae;replace Hp:=kB Hp ae;replace Hx:=kB Hx ae;replace Ht:=kW Ht ae;replace Hv:=kB Hv ae;have Hu:=af qu;clear qu;obtain⟨s0,aO,s1,aP,s2,aV⟩:=Hs.out.g3;obtain⟨g0,g1,g2⟩:=Hg.out.c3;have p0:=Hp.out.c1;obtain⟨x0,x1⟩:=Hx.out.c2;have t0:=Ht.out.w1;obtain⟨v0,v1,v2,v3,v4,v5⟩:=Hv.out.c6;obtain⟨u0,u1,u2,u3,u4,u5⟩:=Hu.out.c6;replace Hb:=ak Hb ae;clear ae;refine aF rfl rfl (λK hK=>?_);go_simp;with_reducible refine(vq _ _ _ _ _ _ Z 4000 HZ.out w8.heap.size 2 39 _ FY.out FX.out zo Hu.out (by first|exact(HT.out.below Hb.out) |exact au.drew (HT.out.below Hb.out) |exact au.alloc (HT.out.below Hb.out) _|exact au.drew (au.alloc (HT.out.below Hb.out) _) |exact au.alloc (au.drew (HT.out.below Hb.out)) _)).mono ?_
    rintro e cV ⟨rfl,hq⟩;have ae:Bw W9 cV:=by first|exact hq|exact aK hq
    clear s0 aO s1 aP s2 aV g0 g1 g2 p0 x0 x1 t0 v0 v1 v2 v3 v4 v5 u0 u1 u2 u3 u4 u5;replace Hs:=kB Hs ae;replace Hg:=kB Hg ae;replace Hp:=kB Hp ae;replace Hx:=kB Hx ae;replace Ht:=kW Ht ae;replace Hv:=kB Hv ae;replace Hu:=kB Hu ae;obtain⟨s0,aO,s1,aP,s2,aV⟩:=Hs.out.g3;obtain⟨g0,g1,g2⟩:=Hg.out.c3;have p0:=Hp.out.c1;obtain⟨x0,x1⟩:=Hx.out.c2;have t0:=Ht.out.w1;obtain⟨v0,v1,v2,v3,v4,v5⟩:=Hv.out.c6;obtain⟨u0,u1,u2,u3,u4,u5⟩:=Hu.out.c6;replace Hb:=ak Hb ae;clear ae;refine hK _ _ (λ_=>⟨s0,s1,s2,g0,g1,g2,p0,x0,x1,t0⟩) ?_;clear hK K;try simp only[UU]
    refine aF rfl rfl (λK hK=>?_);go_simp;refine hK _ _ (λh=>absurd h zd) ?_;clear hK K;try simp only[UU]
    clear s0 aO s1 aP s2 aV g0 g1 g2 p0 x0 x1 t0 v0 v1 v2 v3 v4 v5 u0 u1 u2 u3 u4 u5;refine cj (bf cV (w.heap.size) 0 [.bool (aj (dN Z)),.string (bs (nt (dN Z).natAbs)),.int .i64 (dE Z)]) bI ?_;intro W11 hs;replace Hs:=cp Hs hs;replace Hg:=kS Hg hs zo;replace Hp:=kS Hp hs zo;replace Hx:=kS Hx hs zo;replace Ht:=kSx Ht hs zo;replace Hv:=kS Hv hs zo;replace Hu:=kS Hu hs zo;obtain⟨s0,aO,s1,aP,s2,aV⟩:=Hs.out.g3;obtain⟨g0,g1,g2⟩:=Hg.out.c3;have p0:=Hp.out.c1;obtain⟨x0,x1⟩:=Hx.out.c2;have t0:=Ht.out.w1;obtain⟨v0,v1,v2,v3,v4,v5⟩:=Hv.out.c6;obtain⟨u0,u1,u2,u3,u4,u5⟩:=Hu.out.c6;replace Hb:=bS Hb hs ZS;clear hs;simp only[aN];go_wp2;go_roundw;case rel=>exact⟨j+1,by omega,by go_num,by rw[kY.out];exact Hs.out,Hb.out⟩
    case measure=>simp[intOf];omega
  . obtain rfl:j=L:=by omega
    obtain⟨Y,hY⟩:=az (S j);have ja:=HS.out j;have hc:=HC.out;rw[hY]at ja ps hc;have Hc:Hid (aL (ar (aj (dN Y),nt (dN Y).natAbs,dE Y)-ar (ms,ml,me))=c):=by show aL (ar (canon Y)-_)=c;rw[bC,HM.out];exact hc
    have FY:Hid (Ok (aj (dN Y),nt (dN Y).natAbs,dE Y)):=(ja.fit zo).1;have Hs:Hid (ag wr w.heap.size 39 [.bool (aj (dN Y)),.string (bs (nt (dN Y).natAbs)),.int .i64 (dE Y)]):=ps;obtain⟨Hm,Hb⟩:=aJ (Bm.out.below pb) pb;clear ps pb ja hc hY;obtain⟨s0,s1,s2⟩:=Hs.out.c3;obtain⟨m0,m1,m2⟩:=Hm.out.c3;go_wp2_with fail;refine(oC _ _ _ _ _ _ c Hc.out _ FY.out Fm.out.1 (HT.out.below Hb.out)).mono ?_;rintro e w5 ⟨rfl,ae⟩;clear s0 s1 s2 m0 m1 m2;replace Hs:=kB Hs ae;replace Hm:=kB Hm ae;obtain⟨s0,s1,s2⟩:=Hs.out.c3;obtain⟨m0,m1,m2⟩:=Hm.out.c3;replace Hb:=ak Hb ae;clear ae;go_wp2;refine bodyPost_ret (results_tmp rfl _ _ _) rfl ⟨rfl,Hb.out⟩
def pn (ds:List Int):Nat->Dyadic:=λi=>Dyadic.ofIntWithPrec (ds.getD i 0) 0
def yP (ds:List Int)(L:Nat)(G M:Dyadic):Prop:=ds.length=L/\(∀d∈ds,0<=d)/\0<=aL G/\0<aL M
instance (ds :List Int) (L:Nat) (G M:Dyadic):Decidable (yP ds L G M):=by unfold yP;infer_instance
theorem Dr (a:Option Addr)(L cap B:Nat)(bx:List (Raw×Raw))(da:Option Addr)(dc:Nat)(ds:List Int)(gs:Bool)(gl:List UInt8)(ge:Int)(ms:Bool)(ml:List UInt8)(me:Int)(w:World)(hL:bx.length=L)(hl:L<=1000)(hf:gG B bx)(hB:B<=90000)(ha:At w a (bx.flatMap bX))(mo:At w da (jA ds))(hT:au w)
 (hg:Fit 300 (gs,gl,ge)) (hm:Fit 300 (ms,ml,me)) (hc:iZ (bx.map bu)=0) (hok:yP ds L (ar (gs,gl,ge)) (ar (ms,ml,me))) (hd:∀d∈ds,d<18446744073709551616/4):
 Calls Tryz.prog 17 #[.slice a L cap,.slice da L dc,.agg #[.bool gs,.string (bs gl),.int .i64 ge],.agg #[.bool ms,.string (bs ml),.int .i64 me]] w λe w'=>e=.returned (.tuple #[.int .i64 (((gT (ar (gs,gl,ge)) (ar (ms,ml,me)) (pn ds) (bx.map bu)).getD 0:Nat):Int),.int .i64 (if gT (ar (gs,gl,ge)) (ar (ms,ml,me)) (pn ds) (bx.map bu)=none then 3 else 0)])/\Bw w w':=by
 obtain⟨Et,pX,hg0,hm0⟩:=hok;have h1:1<=L:=by
  have:=(QY hc).1;rw[<-hL];cases bx with
  |nil=>exact absurd rfl this
  |cons x xs=>simp
 have TK:∀b o,da=some ⟨b,o,none⟩->b<w.heap.size:=λb o e=>by obtain⟨b',o',e',hc⟩:=mo.ig 0 zo;rw[e]at e';simp only[Option.some.injEq,Addr.mk.injEq,and_true]at e';rw[e'.1];exact World.block_lt_of_cell? w _ hc
 obtain⟨mn,vR⟩:=az (lK ds L);have anW:¬mn<0:=by rw[<-vR,<-Et,MJ ds zo];rintro⟨d,h2,h3⟩;have:=pX d h2;omega
 have di:=λW (hW:Bw w W)=>JF a L cap B bx W hL zo hf (ha.below hW) (hT.below hW);rw[hc]at di;have jz:=λW (hW:Bw w W)=>XK da L dc ds W Et h1 zo (mo.below hW);rw[vR]at jz;have oZ:=λW=>JE gs gl ge ms ml me W hg.1 hm.1;rw[decide_eq_true (show 0<=aL (ar (gs,gl,ge))/\0<aL (ar (ms,ml,me))from⟨hg0,hm0⟩)]at oZ;obtain⟨c,hcc⟩:=az (aL (ar (gs,gl,ge)-ar (ms,ml,me)));have hcm:=λW (hW:Bw w W)=>oC gs gl ge ms ml me c hcc W hg.1 hm.1 (hT.below hW);have hbg:=λW (hW:Bw w W)=>QJ a L cap bx W hL h1 hl (ha.below hW);obtain⟨R,hR⟩:=az (gT (ar (gs,gl,ge)) (ar (ms,ml,me)) (pn ds) (bx.map bu));have tM:c<0->R=some 0:=λh=>by rw[<-hR];unfold gT;rw[if_pos (by rw[hcc];exact h)]
 have AJ:0<=c->wj (λk=>decide (aL (jk (ar (gs,gl,ge)) (pn ds) (kK (bx.map bu) k) L-ar (ms,ml,me))<0)) 1=R:=λh=>by rw[<-hR];unfold gT;rw[if_neg (by rw[hcc];omega),List.length_map,hL]
 have vK:∀d∈ds,0<=d/\d<18446744073709551616/4:=λd h=>⟨pX d h,hd d h⟩;have SC:=λtop db gb mb pb xb ib k W (hk:k<=2000) (hT:au W) (hJ:pE W top db gb mb pb xb ib L da dc ds gs gl ge ms ml me bx k)=>aeQ top db gb mb pb xb ib L da dc ds gs gl ge ms ml me bx k W Et hl hg hm vK hk hT hJ;have hJ2:=λtop db gb mb pb xb ib k W (hk:k<=2000) (hT:au W) h2 h3 h4 h5 h6 (hJ:pE W top db gb mb pb xb ib L da dc ds gs gl ge ms ml me bx k)=>afF top db gb mb pb xb ib L da dc ds gs gl ge ms ml me bx k B W hL h1 hl hf zo hk hT h2 h3 h4 h5 h6 hJ;rw[hR];obtain⟨nv,kF⟩:∃nv:Int,((R.getD 0:Nat):Int)=nv:=⟨_,rfl⟩;obtain⟨er,her⟩:∃er:Int,(if R=none then 3 else 0)=er:=⟨_,rfl⟩;rw[kF,her];obtain⟨uU,zw⟩:=aJ kF her;clear kF her;obtain⟨iI,ID,zJ,rf,GM,yX,Gw,Zb,Zc,HT,rp,ZW⟩:=iR di jz oZ hcm hbg tM AJ SC hJ2 hT mo TK;have hLL:((L:Int) !=(L:Int))=false:=by simp
 clear di jz oZ hcm hbg tM AJ SC hJ2 hT mo TK vK hR hcc vR hc hg hm hg0 hm0 pX hd Et hf ha hL;obtain⟨W,cL,Hb,Hd,Hg,Hm⟩:=MR w 26 [.slice da L dc] 39 [.bool gs,.string (bs gl),.int .i64 ge] 39 [.bool ms,.string (bs ml),.int .i64 me];have d0:=Hd.out.c1;obtain⟨g0,g1,g2⟩:=Hg.out.c3;obtain⟨m0,m1,m2⟩:=Hm.out.c3;go_enter Tryz.func17,Tryz.ntmps17;go_wp2_with fail;refine(iI.out _ Hb.out).mono ?_;rintro e w1 ⟨rfl,ae⟩;clear d0 g0 g1 g2 m0 m1 m2;replace Hd:=kB Hd ae;replace Hg:=kB Hg ae;replace Hm:=kB Hm ae;have d0:=Hd.out.c1;obtain⟨g0,g1,g2⟩:=Hg.out.c3;obtain⟨m0,m1,m2⟩:=Hm.out.c3;replace Hb:=ak Hb ae;clear ae;go_wp2_with fail;refine(ID.out _ Hb.out).mono ?_;rintro e w2 ⟨rfl,ae⟩;clear d0 g0 g1 g2 m0 m1 m2;replace Hd:=kB Hd ae;replace Hg:=kB Hg ae;replace Hm:=kB Hm ae;have d0:=Hd.out.c1;obtain⟨g0,g1,g2⟩:=Hg.out.c3;obtain⟨m0,m1,m2⟩:=Hm.out.c3;replace Hb:=ak Hb ae;clear ae;go_wp2_with fail;refine(zJ.out _).mono ?_;rintro e w3 ⟨rfl,ae⟩;clear d0 g0 g1 g2 m0 m1 m2;replace Hd:=kB Hd ae;replace Hg:=kB Hg ae;replace Hm:=kB Hm ae;have d0:=Hd.out.c1;obtain⟨g0,g1,g2⟩:=Hg.out.c3;obtain⟨m0,m1,m2⟩:=Hm.out.c3;replace Hb:=ak Hb ae;clear ae;go_wp2_with fail;refine(rf.out _ Hb.out).mono ?_;rintro e w4 ⟨rfl,ae⟩;clear d0 g0 g1 g2 m0 m1 m2;replace Hd:=kB Hd ae;replace Hg:=kB Hg ae;replace Hm:=kB Hm ae;have d0:=Hd.out.c1;obtain⟨g0,g1,g2⟩:=Hg.out.c3;obtain⟨m0,m1,m2⟩:=Hm.out.c3;replace Hb:=ak Hb ae;clear ae;by_cases hc0:c<0
 . have hR:=yX.out hc0;subst hR;go_wp2;exact bodyPost_ret (v:=.tuple #[.int .i64 0,.int .i64 0]) (by simp[results,Tryz.results17,go_sem]) rfl ⟨by rw[<-uU.out,<-zw.out];rfl,Hb.out⟩
 . have hR:=Gw.out zo;have uQ:=af hR;clear hR;have Mv:=Hb.out.size;have ld:=Hd.out.lt;have lg:=Hg.out.lt;have lm:=Hm.out.lt;go_wp2_with fail;refine(GM.out _ Hb.out).mono ?_;rintro e w5 ⟨xb,ib,rfl,hx1,hi1,hx2,hi2,hS,ae⟩;clear d0 g0 g1 g2 m0 m1 m2;replace Hd:=kB Hd ae;replace Hg:=kB Hg ae;replace Hm:=kB Hm ae;have d0:=Hd.out.c1;obtain⟨g0,g1,g2⟩:=Hg.out.c3;obtain⟨m0,m1,m2⟩:=Hm.out.c3;replace Hb:=ak Hb ae;clear ae;have hz5:=Hb.out.size;have HS:Hid (kv w5 w4.heap.size xb ib L bx (fun _=>0)):=hS;clear hS;have aoK:=Hd.out.lt;have Wp:=Hg.out.lt;have aic:=Hm.out.lt;obtain⟨W6,pV,ae,Hp⟩:=bH w5 64 [.pointer (some ⟨xb,0,none⟩)];clear d0;replace Hd:=kB Hd ae;clear g0 g1 g2;replace Hg:=kB Hg ae;clear m0 m1 m2;replace Hm:=kB Hm ae;replace HS:=af (HS.out.below ae);have d0:=Hd.out.c1;obtain⟨g0,g1,g2⟩:=Hg.out.c3;obtain⟨m0,m1,m2⟩:=Hm.out.c3;have p0:=Hp.out.c1;replace Hb:=ak Hb ae;clear ae;have AA:pE W6 w4.heap.size w.heap.size (w.heap.size+1) (w.heap.size+1+1) w5.heap.size xb ib L da dc ds gs gl ge ms ml me bx 0:=⟨Hd.out,Hg.out,Hm.out,Hp.out,rp.out.below Hb.out,HS.out⟩;have vO:=VU 1 45 47 #[.pointer (some ⟨w.heap.size,0,none⟩),.pointer (some ⟨w.heap.size+1,0,none⟩),.pointer (some ⟨w5.heap.size,0,none⟩),.pointer (some ⟨w.heap.size+1+1,0,none⟩)] #[.pointer (some ⟨w5.heap.size,0,none⟩)] (fun k=>decide (aL (jk (ar (gs,gl,ge)) (pn ds) (kK (bx.map bu) k) L-ar (ms,ml,me))<0)) (fun k W=>pE W w4.heap.size w.heap.size (w.heap.size+1) (w.heap.size+1+1) w5.heap.size xb ib L da dc ds gs gl ge ms ml me bx k/\Bw w W) W6 zd zd
    (enters_of Tryz.func45 zk rfl) (enters_of Tryz.func47 zk rfl) ⟨AA,Hb.out⟩
    (λk V hk hJ=>((Zb.out _ _ _ _ _ _ _ k V zo (HT.out.below hJ.2) hJ.1).mono (λe V' h=>⟨h.1,hJ.1.below h.2,aG hJ.2 h.2⟩)))
    (λk V hk hJ=>((Zc.out _ _ _ _ _ _ _ k V zo (HT.out.below hJ.2) zo zo zo zo (λb o e=>by have:=ZW.out b o e;omega) hJ.1).mono (λe V' h=>⟨h.1,h.2.1,hJ.2.trans (h.2.2.below hJ.2.size (λb h=>by omega))⟩)))
   rw[uQ.out,uU.out,zw.out]at vO;have xj:=af vO;clear vO AA;go_wp2_with fail;refine xj.out.mono ?_;rintro e w7 ⟨rfl,_,_,ae⟩;replace Hb:=af ae;clear ae;go_wp2;exact bodyPost_ret (v:=.tuple #[.int .i64 nv,.int .i64 er]) (by simp[results,Tryz.results17,go_sem]) rfl ⟨rfl,Hb.out⟩
def mY (c:Int)(ds:List Int)(L:Nat)(G M:Dyadic):Int:=if c=1\/¬yP ds L G M then 1 else c
theorem JG (a:Option Addr)(L cap B:Nat)(bx:List (Raw×Raw))(da:Option Addr)(n dc:Nat)(ds:List Int)(gs:Bool)(gl:List UInt8)(ge:Int)(ms:Bool)(ml:List UInt8)(me:Int)(w:World)(hL:bx.length=L)(hl:L<=1000)(hf:gG B bx)(ha:At w a (bx.flatMap bX))(hn:ds.length=n)(mo:At w da (jA ds))(hT:au w)
 (hg:Ok (gs,gl,ge)) (hm:Ok (ms,ml,me)) (he:mY (iZ (bx.map bu)) ds L (ar (gs,gl,ge)) (ar (ms,ml,me))≠0):
 Calls Tryz.prog 17 #[.slice a L cap,.slice da n dc,.agg #[.bool gs,.string (bs gl),.int .i64 ge],.agg #[.bool ms,.string (bs ml),.int .i64 me]] w λe w'=>e=.returned (.tuple #[.int .i64 0,.int .i64 (mY (iZ (bx.map bu)) ds L (ar (gs,gl,ge)) (ar (ms,ml,me)))])/\Bw w w':=by
 obtain⟨c,hc⟩:=az (iZ (bx.map bu));have di:=λW (hW:Bw w W)=>JF a L cap B bx W hL zo hf (ha.below hW) (hT.below hW);simp only[hc]at di;have h1:c≠1->1<=L:=λh=>by
  rw[<-hL];cases bx with
  |nil=>exact absurd hc.symm h
  |cons x xs=>simp
 rw[hc]at he⊢;have oZ:=λW=>JE gs gl ge ms ml me W hg hm;obtain⟨u,hu⟩:=az (decide (0<=aL (ar (gs,gl,ge))/\0<aL (ar (ms,ml,me))));simp only[hu]at oZ;obtain⟨E,hE⟩:=az (mY c ds L (ar (gs,gl,ge)) (ar (ms,ml,me)));rw[hE]at he⊢;have e1:c=1->E=1:=λh=>by rw[<-hE];unfold mY;rw[if_pos (.inl h)]
 have e2:n≠L->E=1:=λh=>by rw[<-hE];unfold mY;rw[if_pos (.inr (λh2=>h (by rw[<-hn];exact h2.1)))]
 have e3:1<=n->lK ds n<0->E=1:=λh0 h=>by rw[<-hn]at h h0;obtain⟨d,h2,h3⟩:=(MJ ds h0).1 h;rw[<-hE];unfold mY;rw[if_pos (.inr (λh4=>by have:=h4.2.1 d h2;omega))]
 have e4:u=false->E=1:=λh=>by rw[<-hE];unfold mY;rw[if_pos (.inr (λh4=>by rw[decide_eq_true h4.2.2]at hu;rw[<-hu]at h;cases h))]
 have e5:c≠1->n=L->1<=n->¬lK ds n<0->u=true->E=c:=λh1 h2 h3 h4 h5=>by
  rw[<-hE];unfold mY;rw[if_neg];rintro(h|h)
  . exact h1 h
  . refine h ⟨by omega,λd hd=>?_,?_⟩
    . rw[<-hn]at h3 h4;by_cases h6:d<0
      . exact absurd ((MJ ds h3).2 ⟨d,hd,h6⟩) h4
      . omega
    . rw[h5]at hu;exact of_decide_eq_true hu
 have jz:=λW (hW:Bw w W) (h:1<=n) (hl:n<=1048576)=>XK da n dc ds W hn h hl (mo.below hW);obtain⟨mn,vR⟩:=az (lK ds n);rw[vR]at e3 e5;simp only[vR]at jz;obtain⟨iI,zJ,ID,E1,E2,E3,E4,E5,Iz,He⟩:=uk di oZ jz e1 e2 e3 e4 e5 h1 he;clear di oZ jz e1 e2 e3 e4 e5 h1 he hE hu vR hc mo ha hT hg hm hf hL hn;obtain⟨W,cL,Hb,Hd,Hg,Hm⟩:=MR w 26 [.slice da n dc] 39 [.bool gs,.string (bs gl),.int .i64 ge] 39 [.bool ms,.string (bs ml),.int .i64 me];have d0:=Hd.out.c1;obtain⟨g0,g1,g2⟩:=Hg.out.c3;obtain⟨m0,m1,m2⟩:=Hm.out.c3;go_enter Tryz.func17,Tryz.ntmps17;go_wp2_with fail;refine(iI.out _ Hb.out).mono ?_;rintro e w1 ⟨rfl,ae⟩;clear d0 g0 g1 g2 m0 m1 m2;replace Hd:=kB Hd ae;replace Hg:=kB Hg ae;replace Hm:=kB Hm ae;have d0:=Hd.out.c1;obtain⟨g0,g1,g2⟩:=Hg.out.c3;obtain⟨m0,m1,m2⟩:=Hm.out.c3;replace Hb:=ak Hb ae;clear ae;by_cases h1:c=1
 . obtain rfl:=E1.out h1;subst h1;go_wp2;exact bodyPost_ret (v:=.tuple #[.int .i64 0,.int .i64 1]) (by simp[results,Tryz.results17,go_sem]) rfl ⟨rfl,Hb.out⟩
 . have h1':(c==1)=false:=by simpa using h1
   have vC:=Iz.out h1;by_cases h2:n=L
   . subst h2;have hnn:((n:Int) !=(n:Int))=false:=by simp
     have h1l:=af h1;clear h1;go_wp2_with fail;refine(ID.out _ Hb.out vC zo).mono ?_;rintro e w2 ⟨rfl,ae⟩;clear d0 g0 g1 g2 m0 m1 m2;replace Hd:=kB Hd ae;replace Hg:=kB Hg ae;replace Hm:=kB Hm ae;have d0:=Hd.out.c1;obtain⟨g0,g1,g2⟩:=Hg.out.c3;obtain⟨m0,m1,m2⟩:=Hm.out.c3;replace Hb:=ak Hb ae;clear ae;by_cases h3:mn<0
     . obtain rfl:=E3.out vC h3;go_wp2;exact bodyPost_ret (v:=.tuple #[.int .i64 0,.int .i64 1]) (by simp[results,Tryz.results17,go_sem]) rfl ⟨rfl,Hb.out⟩
     . go_wp2_with fail;refine(zJ.out _).mono ?_;rintro e w3 ⟨rfl,ae⟩;clear d0 g0 g1 g2 m0 m1 m2;replace Hd:=kB Hd ae;replace Hg:=kB Hg ae;replace Hm:=kB Hm ae;have d0:=Hd.out.c1;obtain⟨g0,g1,g2⟩:=Hg.out.c3;obtain⟨m0,m1,m2⟩:=Hm.out.c3;replace Hb:=ak Hb ae;clear ae;cases u with
       |false=>obtain rfl:=E4.out rfl;go_wp2;exact bodyPost_ret (v:=.tuple #[.int .i64 0,.int .i64 1]) (by simp[results,Tryz.results17,go_sem]) rfl ⟨rfl,Hb.out⟩
       | true=>
         obtain rfl:=E5.out h1l.out (by trivial) vC zo (by trivial);have h0:(E !=0)=true:=by simpa using He.out
         go_wp2;exact bodyPost_ret (v:=.tuple #[.int .i64 0,.int .i64 E]) (by simp[results,Tryz.results17,go_sem]) rfl ⟨rfl,Hb.out⟩
   . obtain rfl:=E2.out h2;have hnn:((n:Int) !=(L:Int))=true:=by simp;omega
     clear h1 h2;go_wp2;exact bodyPost_ret (v:=.tuple #[.int .i64 0,.int .i64 1]) (by simp[results,Tryz.results17,go_sem]) rfl ⟨rfl,Hb.out⟩
end Go.Proofs.YtoopepmmepmfnaaGreatDoor
