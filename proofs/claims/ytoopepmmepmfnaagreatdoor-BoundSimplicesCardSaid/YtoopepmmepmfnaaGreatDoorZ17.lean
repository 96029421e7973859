/- Package bound: may,Order,least. -/
import Derived.Test.YtoopepmmepmfnaaGreatDoorZ14
import Derived.Test.YtoopepmmepmfnaaGreatDoorZ11
import Derived.WalkMore
import Derived.Test.YtoopepmmepmfnaaGreatDoorZ7
set_option linter.unusedVariables false
set_option linter.unusedSimpArgs false
set_option maxRecDepth 100000
set_option maxHeartbeats 16000000
namespace Go.Proofs.YtoopepmmepmfnaaGreatDoor
open Go.RowKit
attribute [local go_sem ↓] Go.wp_at_zero Go.wp_at_succ
theorem JR (s:Bool)(l:List UInt8)(e:Int)(t:Bool)(m:List UInt8)(f:Int)(w:World)(hx:Ok (s,l,e))(hy:Ok (t,m,f)):
 Calls Tryz.prog 43 #[.agg #[ag s,ah l,af e],.agg #[ag t,ah m,af f]] w λe' w'=>e'=.returned (ag (decide (0<=bA (az (s,l,e))/\0<bA (az (t,m,f)))))/\Bw w w':=by
 obtain⟨c,hc⟩:=aG (bA (az (s,l,e)));obtain⟨d,hd⟩:=aG (bA (az (t,m,f)));obtain⟨Gx,Gy,Hc,Hd⟩:=dx hx hy hc hd;rw[hc,hd];clear hx hy hc hd;obtain⟨W,cg,Hb,Hx,Hy⟩:=iq w 39 [ag s,ah l,af e] 39 [ag t,ah m,af f];obtain⟨x0,x1,x2⟩:=Hx.out.c3;obtain⟨y0,y1,y2⟩:=Hy.out.c3;go_enter Tryz.func43,Tryz.ntmps43;go_wp2_with fail;refine(oV s l e c Hc.out _ Gx.out).mono ?_;rintro e w1 ⟨rfl,ae⟩;clear x0 x1 x2 y0 y1 y2;obtain⟨Hx,x0,x1,x2⟩:=aQ Hx ae;obtain⟨Hy,y0,y1,y2⟩:=aQ Hy ae;replace Hb:=aB Hb ae;clear ae;by_cases hc0:0<=c
 . go_wp2_with fail;refine(oV t m f d Hd.out _ Gy.out).mono ?_;rintro e w2 ⟨rfl,ae⟩;clear x0 x1 x2 y0 y1 y2;obtain⟨Hx,x0,x1,x2⟩:=aQ Hx ae;obtain⟨Hy,y0,y1,y2⟩:=aQ Hy ae;replace Hb:=aB Hb ae;clear ae;go_wp2;refine bodyPost_ret (results_tmp rfl _ _ _) rfl ⟨?_,Hb.out⟩;by_cases hd0:0<d
   . simp[hc0,hd0]
   . simp[hc0,hd0]
 . go_wp2;refine bodyPost_ret (results_tmp rfl _ _ _) rfl ⟨?_,Hb.out⟩;rw[decide_eq_false (λh:0<=c=>by omega)];rfl
def uT (bx:List (Raw×Raw)):Nat->List (Raw×Raw)
 |0=>bx
 |k+1=>(yt (bx.map cN) (k+1)).map fw
theorem acX (bx:List (Raw×Raw))(k:Nat):(uT bx k).map cN=yt (bx.map cN) k:=by
 cases k with
 |zero=>rfl
 | succ k=>
   show((yt (bx.map cN) (k+1)).map fw).map cN=_
   rw[List.map_map,show cN∘fw=id from funext acQ,List.map_id]
theorem aqQ (bx:List (Raw×Raw))(k:Nat):(uT bx k).length=bx.length:=by have h:=congrArg List.length (acX bx k);rw[List.length_map,aqN,List.length_map]at h;exact h
theorem aqP {B:Nat}{bx:List (Raw×Raw)}(h:jK B bx)(k:Nat)(hB:B+3*k<=268435456):jK (B+3*k) (uT bx k):=by
 cases k with
 |zero=>exact h
 |succ k=>exact jK.of (aqO h.smP (k+1)) hB
def vz (bx:List Pr)(k:Nat):List Value:=(List.range k).map λi=>af (xe bx i:Int)
theorem ahT (bx:List Pr)(k:Nat):vz bx (k+1)=vz bx k++[af (xe bx k:Int)]:=by unfold vz;rw[List.range_succ,List.map_append];rfl
theorem acI (top xb ib L B k:Nat)(bx:List (Raw×Raw))(w:World)(hL:bx.length=L)(h1:1<=L)(hl:L<=1000)(hf:jK B bx)(hB:B+3*k<=1000000)(hk:k<=100000)(hS:nJ w top xb ib L (uT bx k) (ow (bx.map cN) k))(hT:aH w):
 Calls Tryz.prog 34 #[.pointer (some ⟨xb,0,none⟩)] w λe w'=>e=.returned (af (xe (bx.map cN) k:Int))/\nJ w' top xb ib L (uT bx (k+1)) (ow (bx.map cN) (k+1))/\Chg (λb=>b=xb\/b=ib) w w':=by
 have h:=aqp top xb ib L (B+3*k) (uT bx k) (ow (bx.map cN) k) w (by rw[aqQ];exact hL) h1 hl (aqP hf k zo) hB (λi=>by have:=adg (bx.map cN) k i;omega) hS hT;rw[acX]at h;exact h
theorem aoC (a:Option Addr)(L cap B N:Nat)(bx:List (Raw×Raw))(w:World)(hL:bx.length=L)(hl:L<=1000)(hf:jK B bx)(hB:B<=100000)(ha:At w a (bx.flatMap dP))(hT:aH w)(hc:lR (bx.map cN)=0)(hN:N<=1024):
 Calls Tryz.prog 9 #[.slice a L cap,af (N:Int)] w λe w'=>∃a' c',e=.returned (.tuple #[.slice a' N c',af 0])/\At w' a' (vz (bx.map cN) N)/\Bw w w':=by
 obtain⟨i0,hi,hz0,hz1,hz2⟩:=info_parts Tryz.axe;have h1:1<=L:=by
  have:=(Wt hc).1;rw[<-hL];cases bx with
  |nil=>exact absurd rfl this
  |cons x xs=>simp
 have dZ:=λW (hW:Bw w W)=>OG a L cap B bx W hL zo hf (ha.below hW) (hT.below hW);rw[hc]at dZ;have hbg:=λW (hW:Bw w W)=>Wc a L cap bx W hL h1 hl (ha.below hW);have xE:=λk top xb ib W (hk:k<=1024) (hS:nJ W top xb ib L (uT bx k) (ow (bx.map cN) k)) (hT:aH W)=>acI top xb ib L B k bx W hL h1 hl hf zo zo hS hT;have hnx:=ahT (bx.map cN);have uz:vz (bx.map cN) 0=[]:=rfl;have hs0:uT bx 0=bx:=rfl;have ht0:ow (bx.map cN) 0=λ_=>0:=rfl;obtain⟨AC,Px⟩:∃f,vz (bx.map cN)=f:=⟨_,rfl⟩;obtain⟨AX,Xu⟩:∃f,xe (bx.map cN)=f:=⟨_,rfl⟩;obtain⟨SR,Qb⟩:∃f,uT bx=f:=⟨_,rfl⟩;obtain⟨TM,Qf⟩:∃f,ow (bx.map cN)=f:=⟨_,rfl⟩;rw[Px]at hnx uz⊢;simp only[Xu]at hnx xE;simp only[Qb,Qf]at xE;rw[Qb]at hs0;rw[Qf]at ht0;simp only[<-hs0,<-ht0]at hbg;have alh:∀k,(AC k).length=k:=λk=>by rw[<-Px];simp[vz]
 obtain⟨Hi,dF,dG,dm,jd,MN,Jq,nE,MJ,HT⟩:=tM hi hz0 hz1 hz2 dZ hbg xE hnx uz hT;clear hi hz0 hz1 hz2 dZ hbg xE hnx uz hT alh hs0 ht0 Qb Qf Xu Px hc ha hf hL;have XW:¬(1024:Int)<(N:Int):=by omega
 have hN0:¬(N:Int)<0:=by omega
 have Hb:Hid (Bw w w):=Below.refl _ _;go_enter Tryz.func9,Tryz.ntmps9;go_wp2_with fail;refine(jd.out _ Hb.out).mono ?_;rintro e w1 ⟨rfl,ae⟩;replace Hb:=aB Hb ae;clear ae;go_wp2_with fail;refine(MN.out _ Hb.out).mono ?_;rintro e w2 ⟨xb,ib,rfl,hx1,hi1,hx2,hi2,hS,ae⟩;have hw1:=Hb.out.size;replace Hb:=ai (aJ Hb.out ae);have HS:=ai hS;have hsz:=ae.size;clear hS ae;go_wp2_with fail;go_loopw[7,28] (λs7 x wr=>∃(k:Nat) (v:Value),k<=N/\x=af (k:Int)/\v=s7/\wr.ownsRow w2.heap.size 3 1 v k (AC k)/\nJ wr w1.heap.size xb ib L (SR k) (TM k)/\w2.heap.size<=wr.heap.size/\Bw w wr) (λ_ x _=>N-(intOf x).toNat);case atStart=>exact⟨0,_,Nat.zero_le _,rfl,rfl,by rw[MJ.out];exact World.ownsRow_nil _ _ _ _,HS.out,Nat.le_refl _,Hb.out⟩
 case round=>
  clear Hb HS;obtain⟨k,v,hk,rfl,rfl,pv,ps,pz,pb⟩:=hrel;by_cases hlt:k<N
  . have hlt':(k:Int)<(N:Int):=by omega
    obtain⟨dS,sJ,Hb⟩:=cL pv ps pb;clear pv ps pb;go_wp2_with fail;refine(Jq.out k w1.heap.size xb ib _ zo sJ.out (HT.out.below Hb.out)).mono ?_;rintro e w4 ⟨rfl,Yn,KL⟩;have hv4:=ab6 dS.out KL (λb e h=>by have:=dz dS.out b e;omega);have hb4:=Hb.out.trans (KL.below Hb.out.size (λb h=>by omega));have hz4:=KL.size;obtain⟨HS4,Hv4,fP⟩:=cL Yn hv4 hb4;have sz0:=hb4.size;clear Yn KL hv4 hb4 sJ dS Hb;have Hb:Hid (Bw w4 w4):=Below.refl _ _;obtain⟨W6,nO,ae,Hd⟩:=cd w4 3 [af (AX k:Int)];have d0:=Hd.out.c1;replace Hb:=aB Hb ae;clear ae;have di:=ownsRow_below Hv4.out Hb.out;have Yo:=HS4.out.below Hb.out;have jR:=Hb.out.size;have hnews:∀i u,([af (AX k:Int)]:List Value)[i]?=some u->W6.cell? ((⟨w4.heap.size,0,none⟩:Addr).add i)=some u:=ic Hd.out;have HS6:=ai Yo;clear d0 Yo;go_wp2_with (at_builtin;refine wpList_append_own_at _ rfl _ _ 26 rfl w2.heap.size 3 i0 _ 1 8 Tryz.underlying26 Hi.out dF.out dG.out dm.out rfl zd v k (AC k) rfl di ⟨w4.heap.size,0,none⟩ 1 1 [af (AX k:Int)] rfl rfl hnews zy zx zo zo ?_;intro v' w7 eW fO _ _;obtain⟨g',oQ,rfl⟩:=ownsRow_succ eW);go_roundw;case rel=>
     refine⟨k+1,_,by omega,by go_num,rfl,?_,?_,?_,?_⟩
     . rw[nE.out];exact eW
     . exact HS6.out.row di zo zo zo fO
     . have:=fO.size;omega
     . exact(aJ fP.out Hb.out).grown fO zo (λj e=>by have:=dz di j e;omega)
    case measure=>simp[intOf];omega
  . obtain rfl:k=N:=by omega
    obtain⟨a2,c2,rfl,hat,_⟩:=eo pv;obtain⟨eH,Hb⟩:=aO hat pb;clear pv ps pb hat;go_wp2;refine bodyPost_ret (v:=.tuple #[.slice a2 k c2,af 0]) (by simp[results,Tryz.results9,go_sem]) rfl ⟨a2,c2,rfl,eH.out,Hb.out⟩
theorem aa3 (d gf gg:Nat)(la lb:Array Value)(c:Nat->Bool)(J:Nat->World->Prop)(w:World)(hd:1<=d)(hd2:d<=1000)
 (eg:∀args w,(callFunc gf args).run Tryz.prog w=.ok (.enter gf args) w) (eh:∀args w,(callFunc gg args).run Tryz.prog w=.ok (.enter gg args) w)
 (h0:J 0 w) (h1:∀k W,k<=1024->J k W->Calls Tryz.prog gf la W λe w'=>e=.returned (ag (c k))/\J k w')
 (h2:∀k W,k<=1024->J k W->Calls Tryz.prog gg lb W λe w'=>e=.returned (.tuple #[])/\J (k+1) w'):
 Calls Tryz.prog 44 #[af (d:Int),.func (.func gf) #[] la,.func (.func gg) #[] lb] w λe w'=>e=.returned (.tuple #[af (((xZ c d).getD 0:Nat):Int),af (if xZ c d=none then 3 else 0)])/\∃k,J k w':=by
 obtain⟨R,hR⟩:=aG (xZ c d);have td:tN c d (1026-0) 0=R:=hR;have hst:∀k,k<=1025->tN c d (1026-k) k=if 1024<d*k then none else if c k then some (d*k)else tN c d (1026-(k+1)) (k+1):=λk hk=>by rw[show 1026-k=(1026-(k+1))+1 by omega];rfl
 rw[hR];obtain⟨H0,H1,H2,yD,bX,ny,Heh⟩:=jT h0 h1 h2 td hst eg eh;clear h0 h1 h2 hR td hst eg eh;go_enter Tryz.func44,Tryz.ntmps44;go_wp2;go_step3
 go_wp2;go_step3
 go_wp2;go_loopw[8] (λx wr=>∃k:Nat,k<=1025/\d*k<=1024+d/\x=af ((d*k:Nat):Int)/\tN c d (1026-k) k=R/\J k wr) (λx _=>3000-(intOf x).toNat);case atStart=>exact⟨0,by omega,by omega,rfl,yD.out,H0.out⟩
 case round=>
  obtain⟨k,hk,hdk,rfl,hF,hJ⟩:=hrel;have hs:=bX.out k hk;rw[hF]at hs;have hmk:d* (k+1)=d*k+d:=Nat.mul_succ d k;have qo:k<=d*k:=Nat.le_mul_of_pos_left k hd;obtain⟨m,hm⟩:=aG (d*k);rw[hm]at hs hdk hmk qo⊢;obtain⟨HJ,lJ⟩:=aO hJ hmk;have oG:=ny.out;have Nf:=Heh.out;clear hJ hF hm hmk;by_cases h1:1024<m
  . rw[if_pos h1]at hs;have h1':(1024:Int)<(m:Int):=by omega
    have Hs:=ai hs;clear hs oG Nf;go_wp2;try rw[Exit.noGoto_ret]
    exact bodyPost_ret (v:=.tuple #[af 0,af 3]) (by simp[results,Tryz.results44,go_sem]) rfl ⟨by rw[Hs.out];rfl,k,HJ.out⟩
  . rw[if_neg h1]at hs;have h1':¬(1024:Int)<(m:Int):=by omega
    have hk2:k<=1024:=by omega
    obtain⟨t,ht⟩:=aG (c k);have hc1:=H1.out k wr hk2 HJ.out;rw[ht]at hs hc1;obtain⟨Hs,BF⟩:=aO hs hc1;clear hs hc1 ht;go_wp2_with fail;refine BF.out.mono ?_;rintro e w2 ⟨rfl,hJ2⟩;replace HJ:=ai hJ2;clear hJ2;cases t with
    | true=>
      have hs:=Hs.out;rw[if_pos rfl]at hs;replace Hs:=ai hs;clear hs oG Nf;go_wp2;try rw[Exit.noGoto_ret]
      exact bodyPost_ret (v:=.tuple #[af (m:Int),af 0]) (by simp[results,Tryz.results44,go_sem]) rfl ⟨by rw[Hs.out];rfl,k,HJ.out⟩
    | false=>
      have hs:=Hs.out;rw[if_neg zd]at hs;have hc2:=H2.out k w2 hk2 HJ.out;have BG:=ai hc2;replace Hs:=ai hs;have hwr:IntKind.i64.wrap ((m:Int)+(d:Int))=((m+d:Nat):Int):=by rw[IntKind.wrap_i64];omega
      clear hs hc2 oG;go_wp2_with fail;refine BG.out.mono ?_;rintro e w3 ⟨rfl,hJ3⟩;have HJ3:=ai hJ3;clear hJ3 Nf;go_wp2;go_roundw;case rel=>exact⟨k+1,by omega,by rw[lJ.out];omega,by rw[lJ.out];simp,Hs.out.symm,HJ3.out⟩
      case measure=>simp[intOf];omega
def yj (n:Int):Int:=if n<0\/1024<n then 0 else LU n.toNat
theorem Sq (n:Int)(w:World):Calls Tryz.prog 11 #[af n] w λe w'=>e=.returned (cX (yj n))/\Bw w w':=by
 by_cases h:n<0\/1024<n
 . have e0:cX (yj n)=.agg #[ag false,.string ⟨#[]⟩]:=by unfold yj;rw[if_pos h];rfl
   rw[e0];by_cases h1:n<0
   . clear e0 h;obtain⟨W,cg,Hb,Hr⟩:=fJ w 32 [ag false,.string ⟨#[]⟩];obtain⟨r0,aj,r1,ak⟩:=Hr.out.g2;go_enter Tryz.func11,Tryz.ntmps11;go_wp2;clear r0 aj r1 ak;refine dW (bC W (w.heap.size) 0 [ag false,.string ⟨#[]⟩]) bJ ?_;intro w9 hs;replace Hr:=bP Hr hs;obtain⟨r0,aj,r1,ak⟩:=Hr.out.g2;replace Hb:=bS Hb hs ZS;clear hs;refine bodyPost_ret (v:=.agg #[ag false,.string ⟨#[]⟩]) (by simp[results,Tryz.results11,go_sem,r0,r1]) rfl ⟨rfl,Hb.out⟩
   . have h2:1024<n:=by omega
     clear e0 h;obtain⟨W,cg,Hb,Hr⟩:=fJ w 32 [ag false,.string ⟨#[]⟩];obtain⟨r0,aj,r1,ak⟩:=Hr.out.g2;go_enter Tryz.func11,Tryz.ntmps11;go_wp2;clear r0 aj r1 ak;refine dW (bC W (w.heap.size) 0 [ag false,.string ⟨#[]⟩]) bJ ?_;intro w9 hs;replace Hr:=bP Hr hs;obtain⟨r0,aj,r1,ak⟩:=Hr.out.g2;replace Hb:=bS Hb hs ZS;clear hs;refine bodyPost_ret (v:=.agg #[ag false,.string ⟨#[]⟩]) (by simp[results,Tryz.results11,go_sem,r0,r1]) rfl ⟨rfl,Hb.out⟩
 . obtain⟨N,rfl⟩:∃N:Nat,n=N:=⟨n.toNat,by omega⟩;have hN:N<=1024:=by omega
   have hv:yj (N:Int)=LU N:=by unfold yj;rw[if_neg h];rfl
   rw[hv];obtain⟨P,hP⟩:∃P:Int,(2:Int)^(N+1)=P:=⟨_,rfl⟩;have hV:LU N=P-1:=by unfold LU;rw[hP]
   have hlen:(nt P.natAbs).length<=34359738368:=by
    have h1:P.natAbs<2^(N+2):=by rw[<-hP,Int.natAbs_pow];exact Nat.pow_lt_pow_right zd zo
    exact Nat.le_trans (jS (N:=200) h1 zo) zd
   have hsh:∀W,Calls Tryz.prog 38 #[.agg #[ag (au 1),ah (nt 1)],af ((N:Int)+1)] W λe w'=>e=.returned (cX P)/\Bw W w':=λW=>by have h:=Mu (au 1) (nt 1) (N+1) W zd zo;rw[show iv (au 1) (nt 1)=1 from eX 1,Int.one_mul,hP]at h;exact h
   have hsu:∀W,Calls Tryz.prog 37 #[.agg #[ag (au P),ah (nt P.natAbs)],.agg #[ag (au 1),ah (nt 1)]] W λe w'=>e=.returned (cX (P-1))/\Bw W w':=λW=>by have h:=Mv (au P) (nt P.natAbs) (au 1) (nt 1) W hlen zd;rw[eX,show iv (au 1) (nt 1)=1 from eX 1]at h;exact h
   rw[hV];obtain⟨Q,hQ⟩:=aG (P-1);rw[hQ]at hsu⊢;obtain⟨NR,BV⟩:=aO hsh hsu;have h1:¬(N:Int)<0:=by omega
   have h2:¬(1024:Int)<(N:Int):=by omega
   have hwr:IntKind.i64.wrap ((N:Int)+1)=(N:Int)+1:=by rw[IntKind.wrap_i64];omega
   clear hsh hsu hP hV hlen hv h hQ;obtain⟨W,cg,Hb,Hr⟩:=fJ w 32 [ag false,.string ⟨#[]⟩];obtain⟨r0,aj,r1,ak⟩:=Hr.out.g2;go_enter Tryz.func11,Tryz.ntmps11;go_wp2_with fail;refine(Mt 1 1 rfl _ zd zd).mono ?_;rintro e w1 ⟨rfl,ae⟩;clear r0 aj r1 ak;obtain⟨Hr,r0,aj,r1,ak⟩:=bE Hr ae;replace Hb:=aB Hb ae;clear ae;have qK:=Hr.out.lt;obtain⟨W2,mM,ae,Ho⟩:=cd w1 32 [ag (au 1),ah (nt 1)];clear r0 aj r1 ak;obtain⟨Hr,r0,aj,r1,ak⟩:=bE Hr ae;obtain⟨o0,o1⟩:=Ho.out.c2;replace Hb:=aB Hb ae;clear ae;go_wp2_with fail;refine bR (λw'=>aC w' (w1.heap.size) 0 (ag (au 1))/\aC w' (w1.heap.size) 1 (ah (nt 1))) (λi=>Nat.blt i 6) [(0,true),(1,true),(2,true),(4,true),(3,false),(5,false),(6,false)] zk zk rfl zk zc ⟨o0,o1⟩ ?_;iterate 4 (refine pT rfl rfl ?_ (by intro w' ⟨q0,q1⟩;go_simp;try with_reducible rfl);try simp only[UU])
   refine aI rfl rfl (λK hK=>?_);go_simp;with_reducible refine(NR.out _).mono ?_
   rintro e w3 ⟨rfl,hq⟩;have ae:Bw W2 w3:=by first|exact hq|exact aW hq
   clear r0 aj r1 ak o0 o1;obtain⟨Hr,r0,aj,r1,ak⟩:=bE Hr ae;obtain⟨Ho,o0,o1⟩:=aR Ho ae;replace Hb:=aB Hb ae;clear ae;refine hK _ _ (λ_=>⟨o0,o1⟩) ?_;clear hK K;try simp only[UU]
   refine aI rfl rfl (λK hK=>?_);go_simp;with_reducible refine(BV.out _).mono ?_
   rintro e w4 ⟨rfl,hq⟩;have ae:Bw w3 w4:=by first|exact hq|exact aW hq
   clear r0 aj r1 ak o0 o1;obtain⟨Hr,r0,aj,r1,ak⟩:=bE Hr ae;obtain⟨Ho,o0,o1⟩:=aR Ho ae;replace Hb:=aB Hb ae;clear ae;refine hK _ _ (λ_=>⟨o0,o1⟩) ?_;clear hK K;try simp only[UU]
   refine aI rfl rfl (λK hK=>?_);go_simp;refine hK _ _ (λh=>absurd h zd) ?_;clear hK K;try simp only[UU]
   clear r0 aj r1 ak o0 o1;refine bV (bC w4 (w.heap.size) 0 [ag (au Q),ah (nt Q.natAbs)]) bJ ?_;intro w9 hs;replace Hr:=bP Hr hs;replace Ho:=kS Ho hs zo;obtain⟨r0,aj,r1,ak⟩:=Hr.out.g2;obtain⟨o0,o1⟩:=Ho.out.c2;replace Hb:=bS Hb hs ZS;clear hs;simp only[bi];go_wp2;exact bodyPost_ret (v:=cX Q) (by simp[results,Tryz.results11,go_sem,r0,r1]) rfl ⟨rfl,df⟩
def mS (ds:List Int):List Value:=ds.map λd=>af d
def pC (ds:List Int):Nat->Int
 |0=>ds.getD 0 0
 |k+1=>min (pC ds k) (ds.getD k 0)
theorem anP (ds:List Int)(k:Nat):pC ds k<0↔ds.getD 0 0<0\/∃i,i<k/\ds.getD i 0<0:=by
 induction k with
 | zero => unfold pC;constructor
           . exact .inl
           . rintro(h|⟨i,hi,_⟩)
             . exact h
             . omega
 | succ k ih=>
   unfold pC;rw[show ∀a b:Int,min a b<0↔a<0\/b<0 from λa b=>by omega,ih];constructor
   . rintro((h|⟨i,hi,h⟩) |h)
     . exact .inl h
     . exact .inr ⟨i,by omega,h⟩
     . exact .inr ⟨k,by omega,h⟩
   . rintro(h|⟨i,hi,h⟩)
     . exact .inl (.inl h)
     . by_cases e:i=k
       . subst e;exact .inr h
       . exact .inl (.inr ⟨i,by omega,h⟩)
theorem Si (ds:List Int)(hk:1<=ds.length):(pC ds ds.length<0)↔∃d∈ds,d<0:=by
 rw[anP ds _];constructor
 . rintro(h|⟨i,hi,h⟩)
   . refine⟨ds[0],List.getElem_mem _,?_⟩;simpa[show 0<ds.length by omega]using h
   . exact⟨ds[i],List.getElem_mem _,by simpa[hi]using h⟩
 . rintro⟨d,hd,h⟩;obtain⟨i,hi,rfl⟩:=List.mem_iff_getElem.1 hd;exact .inr ⟨i,hi,by simpa[hi]using h⟩
theorem At.ig {w:World}{a:Option Addr}{ds:List Int}(h:At w a (mS ds))(k:Nat)(hk:k<ds.length):∃b o,a=some ⟨b,o,none⟩/\w.cell? ⟨b,o+k,none⟩=some (af (ds.getD k 0)):=by
 have hk2:k<(mS ds).length:=by simpa[mS]using hk
 obtain⟨b,o,hab,hcs⟩:=h.get (by intro h0;rw[h0]at hk2;simp at hk2);exact⟨b,o,hab,by rw[hcs k hk2];simp[mS,hk]⟩
theorem acP (a:Option Addr)(n cap:Nat)(ds:List Int)(w:World)(hn:ds.length=n)(h1:1<=n)(hl:n<=1048576)(ha:At w a (mS ds)):
 Calls Tryz.prog 42 #[.slice a n cap] w λe w'=>e=.returned (af (pC ds n))/\Bw w w':=by
 obtain⟨b,o,hab,hc0⟩:=ha.ig 0 zo;have hcs:∀W,Bw w W->∀k,k<n->W.cell? ⟨b,o+k,none⟩=some (af (ds.getD k 0)):=λW hW k hk=>by obtain⟨b',o',jk,h⟩:=(ha.below hW).ig k zo;rw[hab]at jk;simp only[Option.some.injEq,Addr.mk.injEq,and_true]at jk;obtain⟨rfl,rfl⟩:=jk;exact h
 subst hab;have hst:∀k,pC ds (k+1)=min (pC ds k) (ds.getD k 0):=λk=>rfl;have Kp:pC ds 1=ds.getD 0 0:=by show min (ds.getD 0 0) (ds.getD 0 0)=_;omega
 obtain⟨M,hM⟩:=aG (pC ds);obtain⟨D,hD⟩:∃D:Nat->Int,(λk=>ds.getD k 0)=D:=⟨_,rfl⟩;have uw:∀k,ds.getD k 0=D k:=λk=>by rw[<-hD]
 simp only[uw,hM]at hcs hst Kp hc0;rw[hM];rw[Nat.add_zero]at hc0;obtain⟨Jj,bX,H01⟩:=cL hcs hst Kp;have mf:=xU n cap 0 0 (rfl:(some ⟨b,o,none⟩:Option Addr)=_) h1 rfl;rw[Nat.mul_one,Nat.add_zero]at mf;have gj:¬(n:Int)<1:=by omega
 clear hcs hst Kp uw hD hM ha hn;have Hb:Hid (Bw w w):=Below.refl _ _;go_enter Tryz.func42,Tryz.ntmps42;go_wp2_with fail;clear mf hc0;go_loopw[3,4] (λs3 x wr=>∃k:Nat,1<=k/\k<=n/\x=af (k:Int)/\s3=af (M k)/\Bw w wr) (λ_ x _=>n-(intOf x).toNat);case atStart=>exact⟨1,Nat.le_refl _,h1,rfl,by rw[H01.out],Hb.out⟩
 case round=>
  clear Hb;obtain⟨k,hk1,hk,rfl,rfl,pb⟩:=hrel;by_cases hlt:k<n
  . have hc:=Jj.out wr pb k hlt;have bK:=xU n cap k (k:Int) (rfl:(some ⟨b,o,none⟩:Option Addr)=_) hlt rfl;rw[Nat.mul_one]at bK;have Hb:=ai pb;clear pb;go_wp2;go_roundw;case rel=>exact⟨k+1,by omega,by omega,by go_num,by rw[bX.out],Hb.out⟩
    case measure=>simp[intOf];omega
  . obtain rfl:k=n:=by omega
    have Hb:=ai pb;clear pb;go_wp2;refine bodyPost_ret (results_tmp rfl _ _ _) rfl ⟨rfl,Hb.out⟩
theorem wm (d:Int)(h:d.natAbs<2^64):Sm 128 (Dyadic.ofIntWithPrec d 0):=by have h1:=Sm.raw (x:=(au d,nt d.natAbs,0)) (B:=64) (by have:=jS (k:=64) (N:=8) h zd;show 8* (nt d.natAbs).length<=64;omega) (by show-((64:Nat):Int)<=0;omega) (by show(0:Int)<=((64:Nat):Int);omega);rwa [vF]at h1
theorem aqF {A B:Nat}{g:Dyadic}{ds:Nat->Dyadic}{t:Nat->Nat}{T:Nat}(hg:Sm A g)(hd:∀i,Sm B (ds i))(ht:∀i,t i<=T)(k:Nat):Sm (A+B+T+1+k) (tV g ds t k):=by
 induction k with
 |zero=>exact Sm.zero _
 |succ k ih=>have h:=Sm.mul (Sm.mul hg (hd k)) ((Lr (t k)).mono (show t k+1<=T+1 by have:=ht k;omega));exact Sm.add ih (h.mono (show A+B+(T+1)<=A+B+T+1+k by omega))
def tZ (w:World)(top db gb mb pb xb ib L:Nat)(da:Option Addr)(dc:Nat)(ds:List Int)(gs:Bool)(gl:List UInt8)(ge:Int)(ms:Bool)(ml:List UInt8)(me:Int)(bx:List (Raw×Raw))(k:Nat):Prop:=
 ar w db 26 [.slice da L dc]/\ar w gb 39 [ag gs,ah gl,af ge]/\ar w mb 39 [ag ms,ah ml,af me]/\ar w pb 64 [.pointer (some ⟨xb,0,none⟩)]/\At w da (mS ds)/\nJ w top xb ib L (uT bx k) (ow (bx.map cN) k)
theorem tZ.below {w w':World}{top db gb mb pb xb ib L dc k:Nat}{da:Option Addr}{ds:List Int}{gs:Bool}{gl:List UInt8}{ge:Int}{ms:Bool}{ml:List UInt8}{me:Int}{bx:List (Raw×Raw)}(h:tZ w top db gb mb pb xb ib L da dc ds gs gl ge ms ml me bx k)(hb:Bw w w'):tZ w' top db gb mb pb xb ib L da dc ds gs gl ge ms ml me bx k:=
 ⟨h.1.below hb,h.2.1.below hb,h.2.2.1.below hb,h.2.2.2.1.below hb,h.2.2.2.2.1.below hb,h.2.2.2.2.2.below hb⟩
theorem akL (top db gb mb pb xb ib L:Nat)(da:Option Addr)(dc:Nat)(ds:List Int)(gs:Bool)(gl:List UInt8)(ge:Int)(ms:Bool)(ml:List UInt8)(me:Int)(bx:List (Raw×Raw))(k B:Nat)(w:World)(hL:bx.length=L)(h1:1<=L)(hl:L<=1000)(hf:jK B bx)(hB:B<=100000)(hk:k<=2000)(hT:aH w)
 (hdx:db≠xb/\db≠ib) (hgx:gb≠xb/\gb≠ib) (hmx:mb≠xb/\mb≠ib) (hpx:pb≠xb/\pb≠ib) (uz:∀b o,da=some ⟨b,o,none⟩->b≠xb/\b≠ib) (hJ:tZ w top db gb mb pb xb ib L da dc ds gs gl ge ms ml me bx k):
 Calls Tryz.prog 47 #[.pointer (some ⟨pb,0,none⟩)] w λe w'=>e=.returned (.tuple #[])/\tZ w' top db gb mb pb xb ib L da dc ds gs gl ge ms ml me bx (k+1)/\Chg (λb=>b=xb\/b=ib) w w':=by
 obtain⟨q1,q2,q3,q4,q5,q6⟩:=hJ;have hs:=acI top xb ib L B k bx w hL h1 hl hf zo zo q6 hT;have hp0:w.cell? ⟨pb,0,none⟩=some (.pointer (some ⟨xb,0,none⟩)):=q4.cell 0;obtain⟨Hs,Q1,Q2,Q3,Q4,Q5,MJ⟩:=jT hs q1 q2 q3 q4 q5 uz;clear hs q1 q2 q3 q4 q5 q6 uz hf hL hT;go_enter Tryz.func47,Tryz.ntmps47;go_wp2_with fail;refine Hs.out.mono ?_;rintro e w1 ⟨rfl,hS,hc⟩;obtain⟨HS,Hc⟩:=aO hS hc;clear hS hc hp0;go_wp2;refine bodyPost_end (v:=.tuple #[]) (by simp[results,Tryz.results47,go_sem]) rfl ⟨rfl,⟨Hc.out.blk Q1.out zo,Hc.out.blk Q2.out zo,Hc.out.blk Q3.out zo,Hc.out.blk Q4.out zo,At.chgS Q5.out Hc.out (λb o e h=>by have:=MJ.out b o e;omega),HS.out⟩,Hc.out⟩
theorem ajR (top db gb mb pb xb ib L:Nat)(da:Option Addr)(dc:Nat)(ds:List Int)(gs:Bool)(gl:List UInt8)(ge:Int)(ms:Bool)(ml:List UInt8)(me:Int)(bx:List (Raw×Raw))(k:Nat)(w:World)(hL:ds.length=L)(hl:L<=1000)(hg:Fit 300 (gs,gl,ge))(hm:Fit 300 (ms,ml,me))(hd:∀d∈ds,0<=d/\d<18446744073709551616/4)(hk:k<=2000)(hT:aH w)
 (hJ:tZ w top db gb mb pb xb ib L da dc ds gs gl ge ms ml me bx k):
 Calls Tryz.prog 45 #[.pointer (some ⟨db,0,none⟩),.pointer (some ⟨gb,0,none⟩),.pointer (some ⟨pb,0,none⟩),.pointer (some ⟨mb,0,none⟩)] w λe w'=>e=.returned (ag (decide (bA (tV (az (gs,gl,ge)) (λi=>Dyadic.ofIntWithPrec (ds.getD i 0) 0) (ow (bx.map cN) k) L-az (ms,ml,me))<0)))/\Bw w w':=by
 obtain⟨q1,q2,q3,q4,q5,q6⟩:=hJ;obtain⟨sa,sc,s1,s2,s3,s4,s5⟩:=q6;obtain⟨T,KF⟩:=aG (ow (bx.map cN) k);obtain⟨D,hD⟩:∃D:Nat->Dyadic,(λi=>Dyadic.ofIntWithPrec (ds.getD i 0) 0)=D:=⟨_,rfl⟩;obtain⟨G,hG⟩:=aG (az (gs,gl,ge));obtain⟨M,hM⟩:=aG (az (ms,ml,me));have tu:∀i,T i<=2000:=λi=>by rw[<-KF];exact Nat.le_trans (adg _ _ _) hk
 have hdr:∀i,0<=ds.getD i 0/\ds.getD i 0<18446744073709551616/4:=λi=>by
  by_cases h:i<ds.length
  . have e:ds.getD i 0=ds[i]:=by simp[h]
    rw[e];exact hd _ (List.getElem_mem h)
  . have e:ds.getD i 0=0:=by simp[List.getD_eq_getElem?_getD,List.getElem?_eq_none (by omega:ds.length<=i)]
    rw[e];decide
 have PF:∀i,Dyadic.ofIntWithPrec (ds.getD i 0) 0=D i:=λi=>by rw[<-hD]
 have eV:∀i,Sm 128 (D i):=λi=>by rw[<-PF];exact wm _ (by have:=hdr i;omega)
 rw[hD,KF,hM];rw[KF]at s3;have vN:Sm 300 G:=by rw[<-hG];exact hg.2
 have QR:=hm.2;rw[hM]at QR;have hS:∀i,Sm (300+128+2000+1+i) (tV G D T i):=λi=>aqF vN eV tu i;have Qd:∀i,tV G D T (i+1)=tV G D T i+G*D i*hp (T i):=λi=>rfl;have pU:tV G D T 0=0:=rfl;have hai:=λW (hW:Bw w W) i (hi:i<L)=>(q5.below hW).ig i zo;rw[hG];obtain⟨S,FH⟩:=aG (tV G D T);rw[FH]at hS Qd pU⊢;obtain⟨c,hc⟩:=aG (bA (S L-M));rw[hc];have HC:=ai hc;clear hc;have l1:=q1.lt;have l2:=q2.lt;have l3:=q3.lt;have l4:=q4.lt;have l5:=s1.lt;have l6:=s3.lt;have uA:∀b o,da=some ⟨b,o,none⟩->0<L->b<w.heap.size:=λb o e h0=>by obtain⟨b',o',e',hc⟩:=q5.ig 0 zo;rw[e]at e';simp only[Option.some.injEq,Addr.mk.injEq,and_true]at e';rw[e'.1];exact World.block_lt_of_cell? w _ hc
 obtain⟨Hd,Hg,Hm,Hp,Hx,Hi,HT,HG,HM,HTb,sF,HDi⟩:=gB q1 q2 q3 q4 s1 s3 hT hG hM tu hdr PF;obtain⟨DT,Fg,Fm,HgS,HmS,HS,HSt,MD,Hai,MW⟩:=tM eV hg hm vN QR hS Qd pU hai uA;clear q1 q2 q3 q4 q5 s1 s2 s3 s4 hT hG hM tu hdr PF eV hg hm vN QR hS Qd pU hai uA FH hD KF hd;have Bg:=Hg;have Bm:=Hm;have Bp:=Hp;have Bx:=Hx;have Bi:=Hi;have Hb:Hid (Bw w w):=Below.refl _ _;go_enter Tryz.func45,Tryz.ntmps45;have d0:=Hd.out.c1;obtain⟨g0,g1,g2⟩:=Hg.out.c3;obtain⟨m0,m1,m2⟩:=Hm.out.c3;have p0:=Hp.out.c1;obtain⟨x0,x1⟩:=Hx.out.c2;have au3:=Hd.out.lt;have avh:=Hg.out.lt;have avs:=Hm.out.lt;have avC:=Hp.out.lt;have avZ:=Hx.out.lt;have avm:=Hi.out.lt;obtain⟨W,cg,ae,Hs⟩:=cd w 39 [ag false,.string ⟨#[]⟩,af 0];clear d0;replace Hd:=kB Hd ae;clear g0 g1 g2;replace Hg:=kB Hg ae;clear m0 m1 m2;replace Hm:=kB Hm ae;clear p0;replace Hp:=kB Hp ae;clear x0 x1;replace Hx:=kB Hx ae;replace Hi:=kB Hi ae;have d0:=Hd.out.c1;obtain⟨g0,g1,g2⟩:=Hg.out.c3;obtain⟨m0,m1,m2⟩:=Hm.out.c3;have p0:=Hp.out.c1;obtain⟨x0,x1⟩:=Hx.out.c2;obtain⟨s0,bf,s1,bg,s2,bB⟩:=Hs.out.g3;replace Hb:=aB Hb ae;clear ae;go_wp2_with fail;clear d0 g0 g1 g2 m0 m1 m2 p0 x0 x1 s0 bf s1 bg s2 bB;first|refine cf (bC W (w.heap.size) 0 [ag false,.string ⟨#[]⟩,af 0]) bJ ?_|refine bZ (bC W (w.heap.size) 0 [ag false,.string ⟨#[]⟩,af 0]) bJ ?_
 intro W1 hs;replace Hd:=kS Hd hs zo;replace Hg:=kS Hg hs zo;replace Hm:=kS Hm hs zo;replace Hp:=kS Hp hs zo;replace Hx:=kS Hx hs zo;replace Hi:=kS Hi hs zo;replace Hs:=bP Hs hs;have d0:=Hd.out.c1;obtain⟨g0,g1,g2⟩:=Hg.out.c3;obtain⟨m0,m1,m2⟩:=Hm.out.c3;have p0:=Hp.out.c1;obtain⟨x0,x1⟩:=Hx.out.c2;obtain⟨s0,bf,s1,bg,s2,bB⟩:=Hs.out.g3;replace Hb:=bS Hb hs ZS;clear hs;go_wp2_with fail;clear d0 g0 g1 g2 m0 m1 m2 p0 x0 x1 s0 s1 s2 bf bg bB;go_loopw[11] (λx wr=>∃j:Nat,j<=L/\x=af (j:Int)/\ar wr w.heap.size 39 (bI (canon (S j)))/\Bw w wr) (λx _=>L-(intOf x).toNat);case atStart=>exact⟨0,Nat.zero_le _,rfl,by rw[MD.out];exact Hs.out,Hb.out⟩
 case round=>
  clear Hs Hb Hd Hg Hm Hp Hx Hi;obtain⟨j,hj,rfl,ps,pb⟩:=hrel;by_cases hlt:j<L
  . obtain⟨b,o,hab,hc0⟩:=Hai.out wr pb j hlt;have lb:=MW.out b o hab zo;subst hab;have bK:=xU L dc j (j:Int) (rfl:(some ⟨b,o,none⟩:Option Addr)=_) hlt rfl;have kJ:=xU L L j (j:Int) (rfl:(some ⟨ib,0,none⟩:Option Addr)=_) hlt rfl;rw[Nat.mul_one]at bK kJ;rw[Nat.zero_add]at kJ;obtain⟨d,hd⟩:=aG (ds.getD j 0);obtain⟨E,hE⟩:=aG (D j);obtain⟨Y,hY⟩:=aG (S j);obtain⟨Z,hZ⟩:=aG (S (j+1));obtain⟨q,hq⟩:=aG (T j);obtain⟨P,hP⟩:=aG (G*E);obtain⟨X,hX⟩:=aG (P*hp q);have hdr:=sF.out j;have KP:=HDi.out j;have fN:=DT.out j;have fT:=HS.out j;have hst:=HSt.out j;have Rm:=HTb.out j;rw[hd]at hdr KP hc0;rw[hE]at KP fN hst;rw[hY]at fT hst ps;rw[hZ]at hst;rw[hq]at Rm hst;rw[hP,hX]at hst;have xo:Sm 428 P:=by rw[<-hP];exact Sm.mul HgS.out fN
    have dM:Sm 4000 X:=by rw[<-hX];exact(Sm.mul xo (Lr q)).mono zo
    have HX:Hid (az (au (dN P),nt (dN P).natAbs,dE P+ -(q:Int))=X):=by show _=_;rw[<-hX];exact acJ P q
    have HP:Hid (az (gs,gl,ge) *az (au (dN E),nt (dN E).natAbs,dE E)=P):=by show _*az (canon E)=P;rw[bD,HG.out];exact hP
    have HZ:Hid (az (au (dN Y),nt (dN Y).natAbs,dE Y)+az (au (dN X),nt (dN X).natAbs,dE X)=Z):=by show az (canon Y)+az (canon X)=Z;rw[bD,bD];exact hst.symm
    have FE:Hid (Fit 300 (au (dN E),nt (dN E).natAbs,dE E)):=(fN.mono zo).fit zo;have FP:Hid (Ok (au (dN P),nt (dN P).natAbs,dE P)):=(xo.fit zo).1;have FY:Hid (Fit 4000 (au (dN Y),nt (dN Y).natAbs,dE Y)):=(fT.mono zo).fit zo;have FX:Hid (Fit 4000 (au (dN X),nt (dN X).natAbs,dE X)):=dM.fit zo;have ht0:wr.cell? ⟨ib,j,none⟩=some (af (q:Int)):=by rw[(Bi.out.below pb).cell,List.getElem?_eq_getElem (by rw[Tx];exact hlt),adf,hq]
    have hwr:IntKind.i64.wrap (-(q:Int))= -(q:Int):=by rw[IntKind.wrap_i64];omega
    have Hs:Hid (ar wr w.heap.size 39 [ag (au (dN Y)),ah (nt (dN Y).natAbs),af (dE Y)]):=ps;obtain⟨Hg,Hp,Hx⟩:=cL (Bg.out.below pb) (Bp.out.below pb) (Bx.out.below pb);have Ht:Hid (bH wr ib j [af (q:Int)]):=λi hi=>by
     obtain rfl:i=0:=by simp at hi;omega
     exact ht0
    obtain⟨HdE,jN,Hb,afb⟩:=dx KP hZ pb hdr;have iy:=pb.size;clear ps pb KP fN fT hst xo dM hX hP hZ hY hE hq hd ht0 hdr;obtain⟨s0,bf,s1,bg,s2,bB⟩:=Hs.out.g3;obtain⟨g0,g1,g2⟩:=Hg.out.c3;have p0:=Hp.out.c1;obtain⟨x0,x1⟩:=Hx.out.c2;have t0:=Ht.out.w1;go_wp2_with fail;clear hc0;refine bR (λw'=>aC w' (w.heap.size) 0 (ag (au (dN Y)))/\aC w' (w.heap.size) 1 (ah (nt (dN Y).natAbs))/\aC w' (w.heap.size) 2 (af (dE Y))/\aC w' gb 0 (ag gs)/\aC w' gb 1 (ah gl)/\aC w' gb 2 (af ge)/\aC w' pb 0 (.pointer (some ⟨xb,0,none⟩))/\aC w' xb 0 (.slice sa L sc)/\aC w' xb 1 (.slice (some ⟨ib,0,none⟩) L L)/\aC w' ib j (af (q:Int))) (λi=>Nat.blt i 17) [(0,true),(1,true),(2,true),(6,true),(7,true),(8,true),(9,true),(10,true),(11,true),(12,true),(13,true),(3,false),(4,false),(5,false),(14,false),(15,false),(16,false),(17,false)] zk zk rfl zk zc ⟨s0,s1,s2,g0,g1,g2,p0,x0,x1,t0⟩ ?_;iterate 11 (refine pT rfl rfl ?_ (by intro w' ⟨q0,q1,q2,q3,q4,q5,q6,q7,q8,q9⟩;go_simp;try with_reducible rfl);try simp only[UU])
    refine aI rfl rfl (λK hK=>?_);go_simp;with_reducible refine(xj d E HdE.out _ (by have:=afb.out;omega) (by first|exact(HT.out.below Hb.out) |exact aH.drew (HT.out.below Hb.out) |exact aH.alloc (HT.out.below Hb.out) _|exact aH.drew (aH.alloc (HT.out.below Hb.out) _) |exact aH.alloc (aH.drew (HT.out.below Hb.out)) _)).mono ?_
    rintro e w5 ⟨rfl,hq⟩;have ae:Bw wr w5:=by first|exact hq|exact aW hq
    clear s0 bf s1 bg s2 bB g0 g1 g2 p0 x0 x1 t0;obtain⟨Hs,s0,bf,s1,bg,s2,bB⟩:=aN Hs ae;obtain⟨Hg,g0,g1,g2⟩:=aQ Hg ae;replace Hp:=kB Hp ae;replace Hx:=kB Hx ae;replace Ht:=kW Ht ae;have p0:=Hp.out.c1;obtain⟨x0,x1⟩:=Hx.out.c2;have t0:=Ht.out.w1;replace Hb:=aB Hb ae;clear ae;refine hK _ _ (λ_=>⟨s0,s1,s2,g0,g1,g2,p0,x0,x1,t0⟩) ?_;clear hK K;try simp only[UU]
    refine aI rfl rfl (λK hK=>?_);go_simp;refine hK _ _ (λ_=>⟨aL s0,aL s1,aL s2,aL g0,aL g1,aL g2,aL p0,aL x0,aL x1,aL t0⟩) ?_;clear hK K;try simp only[UU]
    refine bV (λW6=>ar W6 (w5.heap.size) 39 [ag gs,ah gl,af ge,ag (au (dN E)),ah (nt (dN E).natAbs),af (dE E)]/\Bw w5 W6) (by first|exact fe|exact fg) ?_;rintro W6 ⟨qv,ae⟩;clear s0 bf s1 bg s2 bB g0 g1 g2 p0 x0 x1 t0;have abr:=Hs.out.lt;have Sa:=Hg.out.lt;have anq:=Hp.out.lt;have abv:=Hx.out.lt;replace Hs:=kB Hs ae;replace Hg:=kB Hg ae;replace Hp:=kB Hp ae;replace Hx:=kB Hx ae;replace Ht:=kW Ht ae;have Hv:=ai qv;clear qv;obtain⟨s0,bf,s1,bg,s2,bB⟩:=Hs.out.g3;obtain⟨g0,g1,g2⟩:=Hg.out.c3;have p0:=Hp.out.c1;obtain⟨x0,x1⟩:=Hx.out.c2;have t0:=Ht.out.w1;obtain⟨v0,v1,v2,v3,v4,v5⟩:=Hv.out.c6;replace Hb:=aB Hb ae;clear ae;refine aI rfl rfl (λK hK=>?_);go_simp;with_reducible refine(xh gs gl ge _ _ _ P 300 HP.out w5.heap.size 2 39 _ Fg.out FE.out zo Hv.out (by first|exact(HT.out.below Hb.out) |exact aH.drew (HT.out.below Hb.out) |exact aH.alloc (HT.out.below Hb.out) _|exact aH.drew (aH.alloc (HT.out.below Hb.out) _) |exact aH.alloc (aH.drew (HT.out.below Hb.out)) _)).mono ?_
    rintro e w7 ⟨rfl,hq⟩;have ae:Bw W6 w7:=by first|exact hq|exact aW hq
    clear s0 bf s1 bg s2 bB g0 g1 g2 p0 x0 x1 t0 v0 v1 v2 v3 v4 v5;obtain⟨Hs,s0,bf,s1,bg,s2,bB⟩:=aN Hs ae;obtain⟨Hg,g0,g1,g2⟩:=aQ Hg ae;replace Hp:=kB Hp ae;replace Hx:=kB Hx ae;replace Ht:=kW Ht ae;replace Hv:=kB Hv ae;have p0:=Hp.out.c1;obtain⟨x0,x1⟩:=Hx.out.c2;have t0:=Ht.out.w1;obtain⟨v0,v1,v2,v3,v4,v5⟩:=Hv.out.c6;replace Hb:=aB Hb ae;clear ae;refine hK _ _ (λ_=>⟨s0,s1,s2,g0,g1,g2,p0,x0,x1,t0⟩) ?_;clear hK K;try simp only[UU]
    refine aI rfl rfl (λK hK=>?_);go_simp;with_reducible refine(Mh _ _ _ (-(q:Int)) X HX.out _ FP.out zo (by first|exact(HT.out.below Hb.out) |exact aH.drew (HT.out.below Hb.out) |exact aH.alloc (HT.out.below Hb.out) _|exact aH.drew (aH.alloc (HT.out.below Hb.out) _) |exact aH.alloc (aH.drew (HT.out.below Hb.out)) _)).mono ?_
    rintro e w8 ⟨rfl,hq⟩;have ae:Bw w7 w8:=by first|exact hq|exact aW hq
    clear s0 bf s1 bg s2 bB g0 g1 g2 p0 x0 x1 t0 v0 v1 v2 v3 v4 v5;obtain⟨Hs,s0,bf,s1,bg,s2,bB⟩:=aN Hs ae;obtain⟨Hg,g0,g1,g2⟩:=aQ Hg ae;replace Hp:=kB Hp ae;replace Hx:=kB Hx ae;replace Ht:=kW Ht ae;replace Hv:=kB Hv ae;have p0:=Hp.out.c1;obtain⟨x0,x1⟩:=Hx.out.c2;have t0:=Ht.out.w1;obtain⟨v0,v1,v2,v3,v4,v5⟩:=Hv.out.c6;replace Hb:=aB Hb ae;clear ae;refine hK _ _ (λ_=>⟨s0,s1,s2,g0,g1,g2,p0,x0,x1,t0⟩) ?_;clear hK K;try simp only[UU]
    refine aI rfl rfl (λK hK=>?_);go_simp;refine hK _ _ (λ_=>⟨aL s0,aL s1,aL s2,aL g0,aL g1,aL g2,aL p0,aL x0,aL x1,aL t0⟩) ?_;clear hK K;try simp only[UU]
    refine bV (λW9=>ar W9 (w8.heap.size) 39 [ag (au (dN Y)),ah (nt (dN Y).natAbs),af (dE Y),ag (au (dN X)),ah (nt (dN X).natAbs),af (dE X)]/\Bw w8 W9) (by first|exact fe|exact fg) ?_;rintro W9 ⟨qu,ae⟩;clear s0 bf s1 bg s2 bB g0 g1 g2 p0 x0 x1 t0 v0 v1 v2 v3 v4 v5;have anw:=Hs.out.lt;have avl:=Hg.out.lt;have avH:=Hp.out.lt;have anB:=Hx.out.lt;have avY:=Hv.out.lt;replace Hs:=kB Hs ae;replace Hg:=kB Hg ae;replace Hp:=kB Hp ae;replace Hx:=kB Hx ae;replace Ht:=kW Ht ae;replace Hv:=kB Hv ae;have Hu:=ai qu;clear qu;obtain⟨s0,bf,s1,bg,s2,bB⟩:=Hs.out.g3;obtain⟨g0,g1,g2⟩:=Hg.out.c3;have p0:=Hp.out.c1;obtain⟨x0,x1⟩:=Hx.out.c2;have t0:=Ht.out.w1;obtain⟨v0,v1,v2,v3,v4,v5⟩:=Hv.out.c6;obtain⟨u0,u1,u2,u3,u4,u5⟩:=Hu.out.c6;replace Hb:=aB Hb ae;clear ae;refine aI rfl rfl (λK hK=>?_);go_simp;with_reducible refine(Cq _ _ _ _ _ _ Z 4000 HZ.out w8.heap.size 2 39 _ FY.out FX.out zo Hu.out (by first|exact(HT.out.below Hb.out) |exact aH.drew (HT.out.below Hb.out) |exact aH.alloc (HT.out.below Hb.out) _|exact aH.drew (aH.alloc (HT.out.below Hb.out) _) |exact aH.alloc (aH.drew (HT.out.below Hb.out)) _)).mono ?_
    rintro e dQ ⟨rfl,hq⟩;have ae:Bw W9 dQ:=by first|exact hq|exact aW hq
    clear s0 bf s1 bg s2 bB g0 g1 g2 p0 x0 x1 t0 v0 v1 v2 v3 v4 v5 u0 u1 u2 u3 u4 u5;obtain⟨Hs,s0,bf,s1,bg,s2,bB⟩:=aN Hs ae;obtain⟨Hg,g0,g1,g2⟩:=aQ Hg ae;replace Hp:=kB Hp ae;replace Hx:=kB Hx ae;replace Ht:=kW Ht ae;replace Hv:=kB Hv ae;replace Hu:=kB Hu ae;have p0:=Hp.out.c1;obtain⟨x0,x1⟩:=Hx.out.c2;have t0:=Ht.out.w1;obtain⟨v0,v1,v2,v3,v4,v5⟩:=Hv.out.c6;obtain⟨u0,u1,u2,u3,u4,u5⟩:=Hu.out.c6;replace Hb:=aB Hb ae;clear ae;refine hK _ _ (λ_=>⟨s0,s1,s2,g0,g1,g2,p0,x0,x1,t0⟩) ?_;clear hK K;try simp only[UU]
    refine aI rfl rfl (λK hK=>?_);go_simp;refine hK _ _ (λh=>absurd h zd) ?_;clear hK K;try simp only[UU]
    clear s0 bf s1 bg s2 bB g0 g1 g2 p0 x0 x1 t0 v0 v1 v2 v3 v4 v5 u0 u1 u2 u3 u4 u5;refine bV (bC dQ (w.heap.size) 0 [ag (au (dN Z)),ah (nt (dN Z).natAbs),af (dE Z)]) bJ ?_;intro VN hs;replace Hs:=bP Hs hs;replace Hg:=kS Hg hs zo;replace Hp:=kS Hp hs zo;replace Hx:=kS Hx hs zo;replace Ht:=LH Ht hs zo;replace Hv:=kS Hv hs zo;replace Hu:=kS Hu hs zo;obtain⟨s0,bf,s1,bg,s2,bB⟩:=Hs.out.g3;obtain⟨g0,g1,g2⟩:=Hg.out.c3;have p0:=Hp.out.c1;obtain⟨x0,x1⟩:=Hx.out.c2;have t0:=Ht.out.w1;obtain⟨v0,v1,v2,v3,v4,v5⟩:=Hv.out.c6;obtain⟨u0,u1,u2,u3,u4,u5⟩:=Hu.out.c6;replace Hb:=bS Hb hs ZS;clear hs;simp only[bi];go_wp2;go_roundw;case rel=>exact⟨j+1,by omega,by go_num,by rw[jN.out];exact Hs.out,Hb.out⟩
    case measure=>simp[intOf];omega
  . obtain rfl:j=L:=by omega
    obtain⟨Y,hY⟩:=aG (S j);have fT:=HS.out j;have hc:=HC.out;rw[hY]at fT ps hc;have Hc:Hid (bA (az (au (dN Y),nt (dN Y).natAbs,dE Y)-az (ms,ml,me))=c):=by show bA (az (canon Y)-_)=c;rw[bD,HM.out];exact hc
    have FY:Hid (Ok (au (dN Y),nt (dN Y).natAbs,dE Y)):=(fT.fit zo).1;have Hs:Hid (ar wr w.heap.size 39 [ag (au (dN Y)),ah (nt (dN Y).natAbs),af (dE Y)]):=ps;obtain⟨Hm,Hb⟩:=aO (Bm.out.below pb) pb;clear ps pb fT hc hY;obtain⟨s0,s1,s2⟩:=Hs.out.c3;obtain⟨m0,m1,m2⟩:=Hm.out.c3;go_wp2_with fail;refine(vD _ _ _ _ _ _ c Hc.out _ FY.out Fm.out.1 (HT.out.below Hb.out)).mono ?_;rintro e w5 ⟨rfl,ae⟩;clear s0 s1 s2 m0 m1 m2;obtain⟨Hs,s0,s1,s2⟩:=aQ Hs ae;obtain⟨Hm,m0,m1,m2⟩:=aQ Hm ae;replace Hb:=aB Hb ae;clear ae;go_wp2;refine bodyPost_ret (results_tmp rfl _ _ _) rfl ⟨rfl,Hb.out⟩
def xW (ds:List Int):Nat->Dyadic:=λi=>Dyadic.ofIntWithPrec (ds.getD i 0) 0
def IQ (ds:List Int)(L:Nat)(G M:Dyadic):Prop:=ds.length=L/\(∀d∈ds,0<=d)/\0<=bA G/\0<bA M
instance (ds :List Int) (L:Nat) (G M:Dyadic):Decidable (IQ ds L G M):=by unfold IQ;infer_instance
theorem ait (a:Option Addr)(L cap B:Nat)(bx:List (Raw×Raw))(da:Option Addr)(dc:Nat)(ds:List Int)(gs:Bool)(gl:List UInt8)(ge:Int)(ms:Bool)(ml:List UInt8)(me:Int)(w:World)(hL:bx.length=L)(hl:L<=1000)(hf:jK B bx)(hB:B<=90000)(ha:At w a (bx.flatMap dP))(uA:At w da (mS ds))(hT:aH w)
 (hg:Fit 300 (gs,gl,ge)) (hm:Fit 300 (ms,ml,me)) (hc:lR (bx.map cN)=0) (hok:IQ ds L (az (gs,gl,ge)) (az (ms,ml,me))) (hd:∀d∈ds,d<18446744073709551616/4):
 Calls Tryz.prog 17 #[.slice a L cap,.slice da L dc,.agg #[ag gs,ah gl,af ge],.agg #[ag ms,ah ml,af me]] w λe w'=>e=.returned (.tuple #[af (((xf (az (gs,gl,ge)) (az (ms,ml,me)) (xW ds) (bx.map cN)).getD 0:Nat):Int),af (if xf (az (gs,gl,ge)) (az (ms,ml,me)) (xW ds) (bx.map cN)=none then 3 else 0)])/\Bw w w':=by
 obtain⟨mP,uB,hg0,hm0⟩:=hok;have h1:1<=L:=by
  have:=(Wt hc).1;rw[<-hL];cases bx with
  |nil=>exact absurd rfl this
  |cons x xs=>simp
 have YX:∀b o,da=some ⟨b,o,none⟩->b<w.heap.size:=λb o e=>by obtain⟨b',o',e',hc⟩:=uA.ig 0 zo;rw[e]at e';simp only[Option.some.injEq,Addr.mk.injEq,and_true]at e';rw[e'.1];exact World.block_lt_of_cell? w _ hc
 obtain⟨mn,vQ⟩:=aG (pC ds L);have aud:¬mn<0:=by rw[<-vQ,<-mP,Si ds zo];rintro⟨d,h2,h3⟩;have:=uB d h2;omega
 have dZ:=λW (hW:Bw w W)=>OG a L cap B bx W hL zo hf (ha.below hW) (hT.below hW);rw[hc]at dZ;have mg:=λW (hW:Bw w W)=>acP da L dc ds W mP h1 zo (uA.below hW);rw[vQ]at mg;have nV:=λW=>JR gs gl ge ms ml me W hg.1 hm.1;rw[decide_eq_true (show 0<=bA (az (gs,gl,ge))/\0<bA (az (ms,ml,me))from⟨hg0,hm0⟩)]at nV;obtain⟨c,hcc⟩:=aG (bA (az (gs,gl,ge)-az (ms,ml,me)));have hcm:=λW (hW:Bw w W)=>vD gs gl ge ms ml me c hcc W hg.1 hm.1 (hT.below hW);have hbg:=λW (hW:Bw w W)=>Wc a L cap bx W hL h1 hl (ha.below hW);obtain⟨R,hR⟩:=aG (xf (az (gs,gl,ge)) (az (ms,ml,me)) (xW ds) (bx.map cN));have td:c<0->R=some 0:=λh=>by rw[<-hR];unfold xf;rw[if_pos (by rw[hcc];exact h)]
 have xp:0<=c->xZ (λk=>decide (bA (tV (az (gs,gl,ge)) (xW ds) (ow (bx.map cN) k) L-az (ms,ml,me))<0)) 1=R:=λh=>by rw[<-hR];unfold xf;rw[if_neg (by rw[hcc];omega),List.length_map,hL]
 have zZ:∀d∈ds,0<=d/\d<18446744073709551616/4:=λd h=>⟨uB d h,hd d h⟩;have XP:=λtop db gb mb pb xb ib k W (hk:k<=2000) (hT:aH W) (hJ:tZ W top db gb mb pb xb ib L da dc ds gs gl ge ms ml me bx k)=>ajR top db gb mb pb xb ib L da dc ds gs gl ge ms ml me bx k W mP hl hg hm zZ hk hT hJ;have hJ2:=λtop db gb mb pb xb ib k W (hk:k<=2000) (hT:aH W) h2 h3 h4 h5 h6 (hJ:tZ W top db gb mb pb xb ib L da dc ds gs gl ge ms ml me bx k)=>akL top db gb mb pb xb ib L da dc ds gs gl ge ms ml me bx k B W hL h1 hl hf zo hk hT h2 h3 h4 h5 h6 hJ;rw[hR];obtain⟨nv,tG⟩:∃nv:Int,((R.getD 0:Nat):Int)=nv:=⟨_,rfl⟩;obtain⟨er,her⟩:∃er:Int,(if R=none then 3 else 0)=er:=⟨_,rfl⟩;rw[tG,her];obtain⟨Ez,Ei⟩:=aO tG her;clear tG her;obtain⟨jd,Nz,yR,yJ,MN,yD,DZ,HJ1,HJ2,HT,MW,Hdb⟩:=gB dZ mg nV hcm hbg td xp XP hJ2 hT uA YX;have PN:((L:Int) !=(L:Int))=false:=by simp
 clear dZ mg nV hcm hbg td xp XP hJ2 hT uA YX zZ hR hcc vQ hc hg hm hg0 hm0 uB hd mP hf ha hL;obtain⟨W,cg,Hb,Hd,Hg,Hm⟩:=qO w 26 [.slice da L dc] 39 [ag gs,ah gl,af ge] 39 [ag ms,ah ml,af me];have d0:=Hd.out.c1;obtain⟨g0,g1,g2⟩:=Hg.out.c3;obtain⟨m0,m1,m2⟩:=Hm.out.c3;go_enter Tryz.func17,Tryz.ntmps17;go_wp2_with fail;refine(jd.out _ Hb.out).mono ?_;rintro e w1 ⟨rfl,ae⟩;clear d0 g0 g1 g2 m0 m1 m2;replace Hd:=kB Hd ae;replace Hg:=kB Hg ae;replace Hm:=kB Hm ae;have d0:=Hd.out.c1;obtain⟨g0,g1,g2⟩:=Hg.out.c3;obtain⟨m0,m1,m2⟩:=Hm.out.c3;replace Hb:=aB Hb ae;clear ae;go_wp2_with fail;refine(Nz.out _ Hb.out).mono ?_;rintro e w2 ⟨rfl,ae⟩;clear d0 g0 g1 g2 m0 m1 m2;replace Hd:=kB Hd ae;replace Hg:=kB Hg ae;replace Hm:=kB Hm ae;have d0:=Hd.out.c1;obtain⟨g0,g1,g2⟩:=Hg.out.c3;obtain⟨m0,m1,m2⟩:=Hm.out.c3;replace Hb:=aB Hb ae;clear ae;go_wp2_with fail;refine(yR.out _).mono ?_;rintro e w3 ⟨rfl,ae⟩;clear d0 g0 g1 g2 m0 m1 m2;replace Hd:=kB Hd ae;replace Hg:=kB Hg ae;replace Hm:=kB Hm ae;have d0:=Hd.out.c1;obtain⟨g0,g1,g2⟩:=Hg.out.c3;obtain⟨m0,m1,m2⟩:=Hm.out.c3;replace Hb:=aB Hb ae;clear ae;go_wp2_with fail;refine(yJ.out _ Hb.out).mono ?_;rintro e w4 ⟨rfl,ae⟩;clear d0 g0 g1 g2 m0 m1 m2;replace Hd:=kB Hd ae;replace Hg:=kB Hg ae;replace Hm:=kB Hm ae;have d0:=Hd.out.c1;obtain⟨g0,g1,g2⟩:=Hg.out.c3;obtain⟨m0,m1,m2⟩:=Hm.out.c3;replace Hb:=aB Hb ae;clear ae;by_cases hc0:c<0
 . have hR:=yD.out hc0;subst hR;go_wp2;exact bodyPost_ret (v:=.tuple #[af 0,af 0]) (by simp[results,Tryz.results17,go_sem]) rfl ⟨by rw[<-Ez.out,<-Ei.out];rfl,Hb.out⟩
 . have hR:=DZ.out zo;have pK:=ai hR;clear hR;have hz4:=Hb.out.size;have ld:=Hd.out.lt;have lg:=Hg.out.lt;have lm:=Hm.out.lt;go_wp2_with fail;refine(MN.out _ Hb.out).mono ?_;rintro e w5 ⟨xb,ib,rfl,hx1,hi1,hx2,hi2,hS,ae⟩;clear d0 g0 g1 g2 m0 m1 m2;replace Hd:=kB Hd ae;replace Hg:=kB Hg ae;replace Hm:=kB Hm ae;have d0:=Hd.out.c1;obtain⟨g0,g1,g2⟩:=Hg.out.c3;obtain⟨m0,m1,m2⟩:=Hm.out.c3;replace Hb:=aB Hb ae;clear ae;have hz5:=Hb.out.size;have HS:Hid (nJ w5 w4.heap.size xb ib L bx (fun _=>0)):=hS;clear hS;have au6:=Hd.out.lt;have Sa:=Hg.out.lt;have abq:=Hm.out.lt;obtain⟨W6,nO,ae,Hp⟩:=cd w5 64 [.pointer (some ⟨xb,0,none⟩)];clear d0;replace Hd:=kB Hd ae;clear g0 g1 g2;replace Hg:=kB Hg ae;clear m0 m1 m2;replace Hm:=kB Hm ae;replace HS:=ai (HS.out.below ae);have d0:=Hd.out.c1;obtain⟨g0,g1,g2⟩:=Hg.out.c3;obtain⟨m0,m1,m2⟩:=Hm.out.c3;have p0:=Hp.out.c1;replace Hb:=aB Hb ae;clear ae;have Fu:tZ W6 w4.heap.size w.heap.size (w.heap.size+1) (w.heap.size+1+1) w5.heap.size xb ib L da dc ds gs gl ge ms ml me bx 0:=⟨Hd.out,Hg.out,Hm.out,Hp.out,MW.out.below Hb.out,HS.out⟩;have Ad:=aa3 1 45 47 #[.pointer (some ⟨w.heap.size,0,none⟩),.pointer (some ⟨w.heap.size+1,0,none⟩),.pointer (some ⟨w5.heap.size,0,none⟩),.pointer (some ⟨w.heap.size+1+1,0,none⟩)] #[.pointer (some ⟨w5.heap.size,0,none⟩)] (fun k=>decide (bA (tV (az (gs,gl,ge)) (xW ds) (ow (bx.map cN) k) L-az (ms,ml,me))<0)) (fun k W=>tZ W w4.heap.size w.heap.size (w.heap.size+1) (w.heap.size+1+1) w5.heap.size xb ib L da dc ds gs gl ge ms ml me bx k/\Bw w W) W6 zd zd
    (enters_of Tryz.func45 zk rfl) (enters_of Tryz.func47 zk rfl) ⟨Fu,Hb.out⟩
    (λk V hk hJ=>((HJ1.out _ _ _ _ _ _ _ k V zo (HT.out.below hJ.2) hJ.1).mono (λe V' h=>⟨h.1,hJ.1.below h.2,aJ hJ.2 h.2⟩)))
    (λk V hk hJ=>((HJ2.out _ _ _ _ _ _ _ k V zo (HT.out.below hJ.2) zo zo zo zo (λb o e=>by have:=Hdb.out b o e;omega) hJ.1).mono (λe V' h=>⟨h.1,h.2.1,hJ.2.trans (h.2.2.below hJ.2.size (λb h=>by omega))⟩)))
   rw[pK.out,Ez.out,Ei.out]at Ad;have BK:=ai Ad;clear Ad Fu;go_wp2_with fail;refine BK.out.mono ?_;rintro e w7 ⟨rfl,_,_,ae⟩;replace Hb:=ai ae;clear ae;go_wp2;exact bodyPost_ret (v:=.tuple #[af nv,af er]) (by simp[results,Tryz.results17,go_sem]) rfl ⟨rfl,Hb.out⟩
def ul (c:Int)(ds:List Int)(L:Nat)(G M:Dyadic):Int:=if c=1\/¬IQ ds L G M then 1 else c
theorem Wl (a:Option Addr)(L cap B:Nat)(bx:List (Raw×Raw))(da:Option Addr)(n dc:Nat)(ds:List Int)(gs:Bool)(gl:List UInt8)(ge:Int)(ms:Bool)(ml:List UInt8)(me:Int)(w:World)(hL:bx.length=L)(hl:L<=1000)(hf:jK B bx)(ha:At w a (bx.flatMap dP))(hn:ds.length=n)(uA:At w da (mS ds))(hT:aH w)
 (hg:Ok (gs,gl,ge)) (hm:Ok (ms,ml,me)) (he:ul (lR (bx.map cN)) ds L (az (gs,gl,ge)) (az (ms,ml,me))≠0):
 Calls Tryz.prog 17 #[.slice a L cap,.slice da n dc,.agg #[ag gs,ah gl,af ge],.agg #[ag ms,ah ml,af me]] w λe w'=>e=.returned (.tuple #[af 0,af (ul (lR (bx.map cN)) ds L (az (gs,gl,ge)) (az (ms,ml,me)))])/\Bw w w':=by
 obtain⟨c,hc⟩:=aG (lR (bx.map cN));have dZ:=λW (hW:Bw w W)=>OG a L cap B bx W hL zo hf (ha.below hW) (hT.below hW);simp only[hc]at dZ;have h1:c≠1->1<=L:=λh=>by
  rw[<-hL];cases bx with
  |nil=>exact absurd hc.symm h
  |cons x xs=>simp
 rw[hc]at he⊢;have nV:=λW=>JR gs gl ge ms ml me W hg hm;obtain⟨u,hu⟩:=aG (decide (0<=bA (az (gs,gl,ge))/\0<bA (az (ms,ml,me))));simp only[hu]at nV;obtain⟨E,hE⟩:=aG (ul c ds L (az (gs,gl,ge)) (az (ms,ml,me)));rw[hE]at he⊢;have e1:c=1->E=1:=λh=>by rw[<-hE];unfold ul;rw[if_pos (.inl h)]
 have e2:n≠L->E=1:=λh=>by rw[<-hE];unfold ul;rw[if_pos (.inr (λh2=>h (by rw[<-hn];exact h2.1)))]
 have e3:1<=n->pC ds n<0->E=1:=λh0 h=>by rw[<-hn]at h h0;obtain⟨d,h2,h3⟩:=(Si ds h0).1 h;rw[<-hE];unfold ul;rw[if_pos (.inr (λh4=>by have:=h4.2.1 d h2;omega))]
 have e4:u=false->E=1:=λh=>by rw[<-hE];unfold ul;rw[if_pos (.inr (λh4=>by rw[decide_eq_true h4.2.2]at hu;rw[<-hu]at h;cases h))]
 have e5:c≠1->n=L->1<=n->¬pC ds n<0->u=true->E=c:=λh1 h2 h3 h4 h5=>by
  rw[<-hE];unfold ul;rw[if_neg];rintro(h|h)
  . exact h1 h
  . refine h ⟨by omega,λd hd=>?_,?_⟩
    . rw[<-hn]at h3 h4;by_cases h6:d<0
      . exact absurd ((Si ds h3).2 ⟨d,hd,h6⟩) h4
      . omega
    . rw[h5]at hu;exact of_decide_eq_true hu
 have mg:=λW (hW:Bw w W) (h:1<=n) (hl:n<=1048576)=>acP da n dc ds W hn h hl (uA.below hW);obtain⟨mn,vQ⟩:=aG (pC ds n);rw[vQ]at e3 e5;simp only[vQ]at mg;obtain⟨jd,yR,Nz,E1,E2,E3,E4,E5,Eu,He⟩:=tM dZ nV mg e1 e2 e3 e4 e5 h1 he;clear dZ nV mg e1 e2 e3 e4 e5 h1 he hE hu vQ hc uA ha hT hg hm hf hL hn;obtain⟨W,cg,Hb,Hd,Hg,Hm⟩:=qO w 26 [.slice da n dc] 39 [ag gs,ah gl,af ge] 39 [ag ms,ah ml,af me];have d0:=Hd.out.c1;obtain⟨g0,g1,g2⟩:=Hg.out.c3;obtain⟨m0,m1,m2⟩:=Hm.out.c3;go_enter Tryz.func17,Tryz.ntmps17;go_wp2_with fail;refine(jd.out _ Hb.out).mono ?_;rintro e w1 ⟨rfl,ae⟩;clear d0 g0 g1 g2 m0 m1 m2;replace Hd:=kB Hd ae;replace Hg:=kB Hg ae;replace Hm:=kB Hm ae;have d0:=Hd.out.c1;obtain⟨g0,g1,g2⟩:=Hg.out.c3;obtain⟨m0,m1,m2⟩:=Hm.out.c3;replace Hb:=aB Hb ae;clear ae;by_cases h1:c=1
 . obtain rfl:=E1.out h1;subst h1;go_wp2;exact bodyPost_ret (v:=.tuple #[af 0,af 1]) (by simp[results,Tryz.results17,go_sem]) rfl ⟨rfl,Hb.out⟩
 . have h1':(c==1)=false:=by simpa using h1
   have zO:=Eu.out h1;by_cases h2:n=L
   . subst h2;have hnn:((n:Int) !=(n:Int))=false:=by simp
     have Ps:=ai h1;clear h1;go_wp2_with fail;refine(Nz.out _ Hb.out zO zo).mono ?_;rintro e w2 ⟨rfl,ae⟩;clear d0 g0 g1 g2 m0 m1 m2;replace Hd:=kB Hd ae;replace Hg:=kB Hg ae;replace Hm:=kB Hm ae;have d0:=Hd.out.c1;obtain⟨g0,g1,g2⟩:=Hg.out.c3;obtain⟨m0,m1,m2⟩:=Hm.out.c3;replace Hb:=aB Hb ae;clear ae;by_cases h3:mn<0
     . obtain rfl:=E3.out zO h3;go_wp2;exact bodyPost_ret (v:=.tuple #[af 0,af 1]) (by simp[results,Tryz.results17,go_sem]) rfl ⟨rfl,Hb.out⟩
     . go_wp2_with fail;refine(yR.out _).mono ?_;rintro e w3 ⟨rfl,ae⟩;clear d0 g0 g1 g2 m0 m1 m2;replace Hd:=kB Hd ae;replace Hg:=kB Hg ae;replace Hm:=kB Hm ae;have d0:=Hd.out.c1;obtain⟨g0,g1,g2⟩:=Hg.out.c3;obtain⟨m0,m1,m2⟩:=Hm.out.c3;replace Hb:=aB Hb ae;clear ae;cases u with
       |false=>obtain rfl:=E4.out rfl;go_wp2;exact bodyPost_ret (v:=.tuple #[af 0,af 1]) (by simp[results,Tryz.results17,go_sem]) rfl ⟨rfl,Hb.out⟩
       | true=>
         obtain rfl:=E5.out Ps.out (by trivial) zO zo (by trivial);have h0:(E !=0)=true:=by simpa using He.out
         go_wp2;exact bodyPost_ret (v:=.tuple #[af 0,af E]) (by simp[results,Tryz.results17,go_sem]) rfl ⟨rfl,Hb.out⟩
   . obtain rfl:=E2.out h2;have hnn:((n:Int) !=(L:Int))=true:=by simp;omega
     clear h1 h2;go_wp2;exact bodyPost_ret (v:=.tuple #[af 0,af 1]) (by simp[results,Tryz.results17,go_sem]) rfl ⟨rfl,Hb.out⟩
end Go.Proofs.YtoopepmmepmfnaaGreatDoor
