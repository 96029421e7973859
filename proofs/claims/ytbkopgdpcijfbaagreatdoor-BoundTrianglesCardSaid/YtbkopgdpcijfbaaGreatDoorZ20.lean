/- Package bound: may,Order,least. -/
import Derived.Test.YtbkopgdpcijfbaaGreatDoorZ7
import Derived.Test.YtbkopgdpcijfbaaGreatDoorZ15
import Derived.Test.YtbkopgdpcijfbaaGreatDoorZ12
import Derived.WalkMore
set_option linter.all false
set_option maxRecDepth 100000
set_option maxHeartbeats 16000000
namespace Go.Proofs.YtbkopgdpcijfbaaGreatDoor
open Go.RowKit
attribute [local go_sem ↓] Go.wp_at_zero Go.wp_at_succ
def SL (s:Bool)(l:List UInt8)(e:Int)(t:Bool)(m:List UInt8)(f:Int)(w:World)(hx:Ok (s,l,e))(hy:Ok (t,m,f)):
 Cl 57 #[.agg #[ag s,ah l,af e],.agg #[ag t,ah m,af f]] w λe' w'=>e'=.returned (ag (decide (0<=bg (au (s,l,e))/\0<bg (au (t,m,f)))))/\Bw w w':=by
 obtain⟨c,hc⟩:=aB (bg (au (s,l,e)));obtain⟨d,hd⟩:=aB (bg (au (t,m,f)));obtain⟨Gx,Gy,Hc,Hd⟩:=dv hx hy hc hd;rw[hc,hd];clear hx hy hc hd;obtain⟨W,cE,ae,ak⟩:=lA w 30 [ag s,ah l,af e] 30 [ag t,ah m,af f];go_enter Tryz.func57,Tryz.ntmps57;go_wp2_with fail;refine aJ ae (nR s l e c Hc.out _ Gx.out) λw1 ae ak=>?_;by_cases hc0:0<=c
 . go_wp2_with fail;refine aJ ae (nR t m f d Hd.out _ Gy.out) λw2 ae ak=>?_;go_wp2;refine bodyPost_ret (results_tmp rfl _ _ _) rfl ⟨?_,ae.1.out⟩;by_cases hd0:0<d
   . simp[hc0,hd0]
   . simp[hc0,hd0]
 . go_wp2;refine bodyPost_ret (results_tmp rfl _ _ _) rfl ⟨?_,ae.1.out⟩;rw[decide_eq_false (λh:0<=c=>by omega)];rfl
def xf (bx:List (Raw×Raw)):Nat->List (Raw×Raw)
 |0=>bx
 |k+1=>(AY (bx.map cn) (k+1)).map fg
def ajc (bx:List (Raw×Raw))(k:Nat):(xf bx k).map cn=AY (bx.map cn) k:=by
 cases k with
 |zero=>rfl
 | succ k=>
   show((AY (bx.map cn) (k+1)).map fg).map cn=_
   rw[List.map_map,show cn∘fg=id from funext ai1,List.map_id]
def azZ (bx:List (Raw×Raw))(k:Nat):(xf bx k).length=bx.length:=by have h:=congrArg List.length (ajc bx k);rw[List.length_map,azW,List.length_map]at h;exact h
def azY {B:Nat}{bx:List (Raw×Raw)}(h:jR B bx)(k:Nat)(hB:B+3*k<=268435456):jR (B+3*k) (xf bx k):=by
 cases k with
 |zero=>exact h
 |succ k=>exact jR.of (azX h.smP (k+1)) hB
def xP (bx:List Pr)(k:Nat):List Value:=(List.range k).map λi=>af (zH bx i:Int)
def aoP (bx:List Pr)(k:Nat):xP bx (k+1)=xP bx k++[af (zH bx k:Int)]:=by unfold xP;rw[List.range_succ,List.map_append];rfl
def aiT (top xb ib L B k:Nat)(bx:List (Raw×Raw))(w:World)(hL:bx.length=L)(h1:1<=L)(hl:L<=1000)(hf:jR B bx)(hB:B+3*k<=1000000)(hk:k<=100000)(hS:lL w top xb ib L (xf bx k) (pW (bx.map cn) k))(hT:aC w):
 Cl 92 #[.pointer (some ⟨xb,0,none⟩)] w λe w'=>e=.returned (af (zH (bx.map cn) k:Int))/\lL w' top xb ib L (xf bx (k+1)) (pW (bx.map cn) (k+1))/\Chg (λb=>b=xb\/b=ib) w w':=by
 have h:=azn top xb ib L (B+3*k) (xf bx k) (pW (bx.map cn) k) w (by rw[azZ];exact hL) h1 hl (azY hf k zo) hB (λi=>by have:=ajt (bx.map cn) k i;omega) hS hT;rw[ajc]at h;exact h
def axu (a:Option Addr)(L cap B N:Nat)(bx:List (Raw×Raw))(w:World)(hL:bx.length=L)(hl:L<=1000)(hf:jR B bx)(hB:B<=100000)(ha:At w a (bx.flatMap cK))(hT:aC w)(hc:mM (bx.map cn)=0)(hN:N<=1024):
 Cl 26 #[.slice a L cap,af (N:Int)] w λe w'=>∃a' c',e=.returned (.tuple #[.slice a' N c',af 0])/\At w' a' (xP (bx.map cn) N)/\Bw w w':=by
 obtain⟨i0,hi,hz0,hz1,hz2⟩:=info_parts Tryz.aGB;have h1:1<=L:=by
  have:=(abR hc).1;rw[<-hL];cases bx with
  |nil=>exact absurd rfl this
  |cons x xs=>simp
 have dm:=λW (hW:Bw w W)=>SN a L cap B bx W hL zo hf (ha.below hW) (hT.below hW);rw[hc]at dm;have hbg:=λW (hW:Bw w W)=>abq a L cap bx W hL h1 hl (ha.below hW);have tP:=λk top xb ib W (hk:k<=1024) (hS:lL W top xb ib L (xf bx k) (pW (bx.map cn) k)) (hT:aC W)=>aiT top xb ib L B k bx W hL h1 hl hf zo zo hS hT;have hnx:=aoP (bx.map cn);have wG:xP (bx.map cn) 0=[]:=rfl;have hs0:xf bx 0=bx:=rfl;have ht0:pW (bx.map cn) 0=λ_=>0:=rfl;obtain⟨AC,TL⟩:∃f,xP (bx.map cn)=f:=⟨_,rfl⟩;obtain⟨AX,hAX⟩:∃f,zH (bx.map cn)=f:=⟨_,rfl⟩;obtain⟨SR,Um⟩:∃f,xf bx=f:=⟨_,rfl⟩;obtain⟨TM,Us⟩:∃f,pW (bx.map cn)=f:=⟨_,rfl⟩;rw[TL]at hnx wG⊢;simp only[hAX]at hnx tP;simp only[Um,Us]at tP;rw[Um]at hs0;rw[Us]at ht0;simp only[<-hs0,<-ht0]at hbg;have ath:∀k,(AC k).length=k:=λk=>by rw[<-TL];simp[xP]
 obtain⟨Hi,eu,ey,dM,kH,Qw,Dx,uy,Qs,HT⟩:=yC hi hz0 hz1 hz2 dm hbg tP hnx wG hT;clear hi hz0 hz1 hz2 dm hbg tP hnx wG hT ath hs0 ht0 Um Us hAX TL hc ha hf hL;have Nv:¬(1024:Int)<(N:Int):=by omega
 have Nu:¬(N:Int)<0:=by omega
 have Hb:=hbz w;go_enter Tryz.func26,Tryz.ntmps26;go_wp2_with fail;refine aJ (Hb.an trivial) (kH.out _ Hb.out) λw1 ae ak=>?_;go_wp2_with fail;refine(Qw.out _ ae.1.out).mono ?_;rintro e w2 ⟨xb,ib,rfl,hx1,hi1,hx2,hi2,hS,ai⟩;have hw1:=ae.1.out.size;obtain⟨Hb,HS⟩:=aK (aI ae.1.out ai) hS;have hsz:=ai.size;clear hS ai;go_wp2_with fail;go_loopw[7,28] (λs7 x wr=>∃(k:Nat) (v:Value),k<=N/\x=af (k:Int)/\v=s7/\wr.ownsRow w2.heap.size 3 1 v k (AC k)/\lL wr w1.heap.size xb ib L (SR k) (TM k)/\w2.heap.size<=wr.heap.size/\Bw w wr) (λ_ x _=>N-(intOf x).toNat);case atStart=>exact⟨0,_,Nat.zero_le _,rfl,rfl,by rw[Qs.out];exact World.ownsRow_nil _ _ _ _,HS.out,Nat.le_refl _,Hb.out⟩
 case round=>
  clear Hb HS;obtain⟨k,v,hk,rfl,rfl,pv,ps,pz,pb⟩:=hrel;by_cases hlt:k<N
  . have hlt':(k:Int)<(N:Int):=by omega
    obtain⟨gX,RG,Hb⟩:=cw pv ps pb;clear pv ps pb;go_wp2_with fail;refine(Dx.out k w1.heap.size xb ib _ zo RG.out (HT.out.below Hb.out)).mono ?_;rintro e w4 ⟨rfl,hS4,NM⟩;have hv4:=Pn gX.out NM (λb e h=>by have:=eo gX.out b e;omega);have hb4:=Hb.out.trans (NM.below Hb.out.size (λb h=>by omega));have Wj:=NM.size;obtain⟨HS4,Hv4,ft⟩:=cw hS4 hv4 hb4;have sz0:=hb4.size;clear hS4 NM hv4 hb4 RG gX Hb;have Hb:=hbz w4;obtain⟨W6,pu,aR,ae,ak⟩:=bX w4 (Hb.an trivial) 3 [af (AX k:Int)];have bW:=ownsRow_below Hv4.out ae.2.1.out;have hS6:=HS4.out.below ae.2.1.out;have jq:=ae.2.1.out.size;have hnews:∀i u,([af (AX k:Int)]:List Value)[i]?=some u->W6.cell? ((⟨w4.heap.size,0,none⟩:Addr).add i)=some u:=ji ae.1.out;have HS6:=aj hS6;clear hS6;go_wp2_with (at_builtin;refine wpList_append_own_at _ rfl _ _ 60 rfl w2.heap.size 3 i0 _ 1 8 Tryz.underlying60 Hi.out eu.out ey.out dM.out rfl zd v k (AC k) rfl bW ⟨w4.heap.size,0,none⟩ 1 1 [af (AX k:Int)] rfl rfl hnews zy zx zo zo ?_;intro v' w7 eQ fL _ _;obtain⟨g',rp,rfl⟩:=ownsRow_succ eQ);go_roundw;case rel=>
     refine⟨k+1,_,by omega,by go_num,rfl,?_,?_,?_,?_⟩
     . rw[uy.out];exact eQ
     . exact HS6.out.row bW zo zo zo fL
     . have:=fL.size;omega
     . exact(aI ft.out ae.2.1.out).grown fL zo (λj e=>by have:=eo bW j e;omega)
    case measure=>exact bC
  . obtain rfl:k=N:=by omega
    obtain⟨a2,c2,rfl,hat,_⟩:=dZ pv;obtain⟨dL,Hb⟩:=aK hat pb;clear pv ps pb hat;go_wp2;refine bodyPost_ret (v:=.tuple #[.slice a2 k c2,af 0]) (by simp[results,Tryz.results26,go_sem]) rfl ⟨a2,c2,rfl,dL.out,Hb.out⟩
def ahc (d gf gg:Nat)(la lb:Array Value)(c:Nat->Bool)(J:Nat->World->Prop)(w:World)(hd:1<=d)(hd2:d<=1000)
 (eg:∀args w,(callFunc gf args).run Tryz.prog w=.ok (.enter gf args) w) (eh:∀args w,(callFunc gg args).run Tryz.prog w=.ok (.enter gg args) w)
 (h0:J 0 w) (h1:∀k W,k<=1024->J k W->Cl gf la W λe w'=>e=.returned (ag (c k))/\J k w')
 (h2:∀k W,k<=1024->J k W->Cl gg lb W λe w'=>e=.returned (.tuple #[])/\J (k+1) w'):
 Cl 64 #[af (d:Int),.func (.func gf) #[] la,.func (.func gg) #[] lb] w λe w'=>e=.returned (.tuple #[af (((CH c d).getD 0:Nat):Int),af (if CH c d=none then 3 else 0)])/\∃k,J k w':=by
 obtain⟨R,hR⟩:=aB (CH c d);have zY:AE c d (1026-0) 0=R:=hR;have hst:∀k,k<=1025->AE c d (1026-k) k=if 1024<d*k then none else if c k then some (d*k)else AE c d (1026-(k+1)) (k+1):=λk hk=>by rw[show 1026-k=(1026-(k+1))+1 by omega];rfl
 rw[hR];obtain⟨H0,H1,H2,Gh,bR,mF,Heh⟩:=jL h0 h1 h2 zY hst eg eh;clear h0 h1 h2 hR zY hst eg eh;go_enter Tryz.func64,Tryz.ntmps64;go_wp2;go_step3
 go_wp2;go_step3
 go_wp2;go_loopw[8] (λx wr=>∃k:Nat,k<=1025/\d*k<=1024+d/\x=af ((d*k:Nat):Int)/\AE c d (1026-k) k=R/\J k wr) (λx _=>3000-(intOf x).toNat);case atStart=>exact⟨0,by omega,by omega,rfl,Gh.out,H0.out⟩
 case round=>
  obtain⟨k,hk,hdk,rfl,hF,hJ⟩:=hrel;have hs:=bR.out k hk;rw[hF]at hs;have hmk:d* (k+1)=d*k+d:=Nat.mul_succ d k;have vp:k<=d*k:=Nat.le_mul_of_pos_left k hd;obtain⟨m,hm⟩:=aB (d*k);rw[hm]at hs hdk hmk vp⊢;obtain⟨HJ,mG⟩:=aK hJ hmk;have oP:=mF.out;have QR:=Heh.out;clear hJ hF hm hmk;by_cases h1:1024<m
  . rw[if_pos h1]at hs;have h1':(1024:Int)<(m:Int):=by omega
    have Hs:=aj hs;clear hs oP QR;go_wp2;try rw[Exit.noGoto_ret]
    exact bodyPost_ret (v:=.tuple #[af 0,af 3]) (by simp[results,Tryz.results64,go_sem]) rfl ⟨by rw[Hs.out];rfl,k,HJ.out⟩
  . rw[if_neg h1]at hs;have h1':¬(1024:Int)<(m:Int):=by omega
    have hk2:k<=1024:=by omega
    obtain⟨t,ht⟩:=aB (c k);have hc1:=H1.out k wr hk2 HJ.out;rw[ht]at hs hc1;obtain⟨Hs,Dp⟩:=aK hs hc1;clear hs hc1 ht;go_wp2_with fail;refine Dp.out.mono ?_;rintro e w2 ⟨rfl,hJ2⟩;replace HJ:=aj hJ2;clear hJ2;cases t with
    | true=>
      have hs:=Hs.out;rw[if_pos rfl]at hs;replace Hs:=aj hs;clear hs oP QR;go_wp2;try rw[Exit.noGoto_ret]
      exact bodyPost_ret (v:=.tuple #[af (m:Int),af 0]) (by simp[results,Tryz.results64,go_sem]) rfl ⟨by rw[Hs.out];rfl,k,HJ.out⟩
    | false=>
      have hs:=Hs.out;rw[if_neg zd]at hs;have hc2:=H2.out k w2 hk2 HJ.out;have Dq:=aj hc2;replace Hs:=aj hs;have hwr:IntKind.i64.wrap ((m:Int)+(d:Int))=((m+d:Nat):Int):=by rw[IntKind.wrap_i64];omega
      clear hs hc2 oP;go_wp2_with fail;refine Dq.out.mono ?_;rintro e w3 ⟨rfl,hJ3⟩;have HJ3:=aj hJ3;clear hJ3 QR;go_wp2;go_roundw;case rel=>exact⟨k+1,by omega,by rw[mG.out];omega,by rw[mG.out];simp,Hs.out.symm,HJ3.out⟩
      case measure=>exact bC
def AL (n:Int):Int:=if n<0\/1024<n then 0 else OZ n.toNat
def WQ (n:Int)(w:World):Cv 46 #[af n] w (cd (AL n)):=by
 by_cases h:n<0\/1024<n
 . have e0:cd (AL n)=.agg #[ag false,.string ⟨#[]⟩]:=by unfold AL;rw[if_pos h];rfl
   rw[e0];by_cases h1:n<0
   . clear e0 h;obtain⟨W,cE,ae,ak⟩:=il w 28 [ag false,.string ⟨#[]⟩];go_enter Tryz.func46,Tryz.ntmps46;go_wp2;refine dX (aV W (w.heap.size) 0 [ag false,.string ⟨#[]⟩]) aX ?_;intro w9 hs0;have ae:=bU hs0 ae;simp only[bV,List.set]at ae;have ak:=qC ae;refine bodyPost_ret (v:=.agg #[ag false,.string ⟨#[]⟩]) (by simp[results,Tryz.results46,go_sem,ak]) rfl ⟨rfl,ae.1.out⟩
   . have h2:1024<n:=by omega
     clear e0 h;obtain⟨W,cE,ae,ak⟩:=il w 28 [ag false,.string ⟨#[]⟩];go_enter Tryz.func46,Tryz.ntmps46;go_wp2;refine dX (aV W (w.heap.size) 0 [ag false,.string ⟨#[]⟩]) aX ?_;intro w9 hs0;have ae:=bU hs0 ae;simp only[bV,List.set]at ae;have ak:=qC ae;refine bodyPost_ret (v:=.agg #[ag false,.string ⟨#[]⟩]) (by simp[results,Tryz.results46,go_sem,ak]) rfl ⟨rfl,ae.1.out⟩
 . obtain⟨N,rfl⟩:∃N:Nat,n=N:=⟨n.toNat,by omega⟩;have hN:N<=1024:=by omega
   have hv:AL (N:Int)=OZ N:=by unfold AL;rw[if_neg h];rfl
   rw[hv];obtain⟨P,hP⟩:∃P:Int,(2:Int)^(N+1)=P:=⟨_,rfl⟩;have hV:OZ N=P-1:=by unfold OZ;rw[hP]
   have hlen:(nt P.natAbs).length<=34359738368:=by
    have h1:P.natAbs<2^(N+2):=by rw[<-hP,Int.natAbs_pow];exact Nat.pow_lt_pow_right zd zo
    exact Nat.le_trans (jK (N:=200) h1 zo) zd
   have hsh:∀W,Cv 135 #[.agg #[ag (az 1),ah (nt 1)],af ((N:Int)+1)] W (cd P):=λW=>by have h:=FK (az 1) (nt 1) (N+1) W zd zo;rw[show iv (az 1) (nt 1)=1 from dH 1,Int.one_mul,hP]at h;exact h
   have hsu:∀W,Cv 134 #[.agg #[ag (az P),ah (nt P.natAbs)],.agg #[ag (az 1),ah (nt 1)]] W (cd (P-1)):=λW=>by have h:=KY (az P) (nt P.natAbs) (az 1) (nt 1) W hlen zd;rw[dH,show iv (az 1) (nt 1)=1 from dH 1]at h;exact h
   rw[hV];obtain⟨Q,hQ⟩:=aB (P-1);rw[hQ]at hsu⊢;obtain⟨tu,Hsu⟩:=aK hsh hsu;have h1:¬(N:Int)<0:=by omega
   have h2:¬(1024:Int)<(N:Int):=by omega
   have hwr:IntKind.i64.wrap ((N:Int)+1)=(N:Int)+1:=by rw[IntKind.wrap_i64];omega
   clear hsh hsu hP hV hlen hv h hQ;obtain⟨W,cE,ae,ak⟩:=il w 28 [ag false,.string ⟨#[]⟩];go_enter Tryz.func46,Tryz.ntmps46;go_wp2_with fail;refine aJ ae (KW 1 1 rfl _ zd zd) λw1 ae ak=>?_;obtain⟨W2,nV,aR,ae,ak⟩:=bX w1 ae 28 [ag (az 1),ah (nt 1)];go_wp2_with fail;refine fT 6 ae (fH 7 0xc0a0609050301) ?_;refine cG ?_;refine cV ae (tu.out _) λw3 ae=>?_;refine cV ae (Hsu.out _) λw4 ae=>?_;have ak:=qC ae;refine qOp λK hK=>?_;go_simp;refine hK _ _ (λh=>absurd h zd) ?_;try simp only[UU]
   refine cB (aV w4 (w.heap.size) 0 [ag (az Q),ah (nt Q.natAbs)]) aX ?_;intro w9 hs0;have ae:=bU hs0 ae;simp only[bV,List.set]at ae;have ak:=qC ae;refine fR ae λak=>?_;have Hb:=ae.2.1;have r0:w9.cell? ⟨w.heap.size,0,none⟩=some (ag (az Q)):=ae.2.2.1.out.cell 0;have r1:w9.cell? ⟨w.heap.size,1,none⟩=some (ah (nt Q.natAbs)):=ae.2.2.1.out.cell 1;go_wp2;exact bodyPost_ret (v:=cd Q) (by simp[results,Tryz.results46,go_sem,r0,r1,ak]) rfl ⟨rfl,df⟩
def om (ds:List Int):List Value:=ds.map λd=>af d
def rJ (ds:List Int):Nat->Int
 |0=>ds.getD 0 0
 |k+1=>min (rJ ds k) (ds.getD k 0)
def awi (ds:List Int)(k:Nat):rJ ds k<0↔ds.getD 0 0<0\/∃i,i<k/\ds.getD i 0<0:=by
 induction k with
 | zero => unfold rJ;constructor
           . exact .inl
           . rintro(h|⟨i,hi,_⟩)
             . exact h
             . omega
 | succ k ih=>
   unfold rJ;rw[show ∀a b:Int,min a b<0↔a<0\/b<0 from λa b=>by omega,ih];constructor
   . rintro((h|⟨i,hi,h⟩) |h)
     . exact .inl h
     . exact .inr ⟨i,by omega,h⟩
     . exact .inr ⟨k,by omega,h⟩
   . rintro(h|⟨i,hi,h⟩)
     . exact .inl (.inl h)
     . by_cases e:i=k
       . subst e;exact .inr h
       . exact .inl (.inr ⟨i,by omega,h⟩)
def WH (ds:List Int)(hk:1<=ds.length):(rJ ds ds.length<0)↔∃d∈ds,d<0:=by
 rw[awi ds _];constructor
 . rintro(h|⟨i,hi,h⟩)
   . refine⟨ds[0],List.getElem_mem _,?_⟩;simpa[show 0<ds.length by omega]using h
   . exact⟨ds[i],List.getElem_mem _,by simpa[hi]using h⟩
 . rintro⟨d,hd,h⟩;obtain⟨i,hi,rfl⟩:=List.mem_iff_getElem.1 hd;exact .inr ⟨i,hi,by simpa[hi]using h⟩
def At.ig {w:World}{a:Option Addr}{ds:List Int}(h:At w a (om ds))(k:Nat)(hk:k<ds.length):∃b o,a=some ⟨b,o,none⟩/\w.cell? ⟨b,o+k,none⟩=some (af (ds.getD k 0)):=by
 have hk2:k<(om ds).length:=by simpa[om]using hk
 obtain⟨b,o,hab,hcs⟩:=h.get (by intro h0;rw[h0]at hk2;simp at hk2);exact⟨b,o,hab,by rw[hcs k hk2];simp[om,hk]⟩
def ai0 (a:Option Addr)(n cap:Nat)(ds:List Int)(w:World)(hn:ds.length=n)(h1:1<=n)(hl:n<=1048576)(ha:At w a (om ds)):
 Cv 88 #[.slice a n cap] w (af (rJ ds n)):=by
 obtain⟨b,o,hab,hc0⟩:=ha.ig 0 zo;have hcs:∀W,Bw w W->∀k,k<n->W.cell? ⟨b,o+k,none⟩=some (af (ds.getD k 0)):=λW hW k hk=>by obtain⟨b',o',nY,h⟩:=(ha.below hW).ig k zo;rw[hab]at nY;simp only[Option.some.injEq,Addr.mk.injEq,and_true]at nY;obtain⟨rfl,rfl⟩:=nY;exact h
 subst hab;have hst:∀k,rJ ds (k+1)=min (rJ ds k) (ds.getD k 0):=λk=>rfl;have Nj:rJ ds 1=ds.getD 0 0:=by show min (ds.getD 0 0) (ds.getD 0 0)=_;omega
 obtain⟨M,hM⟩:=aB (rJ ds);obtain⟨D,hD⟩:∃D:Nat->Int,(λk=>ds.getD k 0)=D:=⟨_,rfl⟩;have IQ:∀k,ds.getD k 0=D k:=λk=>by rw[<-hD]
 simp only[IQ,hM]at hcs hst Nj hc0;rw[hM];rw[Nat.add_zero]at hc0;obtain⟨Bq,bR,H01⟩:=cw hcs hst Nj;have tQ:=Av n cap 0 0 (rfl:(some ⟨b,o,none⟩:Option Addr)=_) h1 rfl;rw[Nat.mul_one,Nat.add_zero]at tQ;have gA:¬(n:Int)<1:=by omega
 clear hcs hst Nj IQ hD hM ha hn;have Hb:=hbz w;go_enter Tryz.func88,Tryz.ntmps88;go_wp2_with fail;clear tQ hc0;go_loopw[3,4] (λs3 x wr=>∃k:Nat,1<=k/\k<=n/\x=af (k:Int)/\s3=af (M k)/\Bw w wr) (λ_ x _=>n-(intOf x).toNat);case atStart=>exact⟨1,Nat.le_refl _,h1,rfl,by rw[H01.out],Hb.out⟩
 case round=>
  clear Hb;obtain⟨k,hk1,hk,rfl,rfl,pb⟩:=hrel;by_cases hlt:k<n
  . have hc:=Bq.out wr pb k hlt;have bD:=Av n cap k (k:Int) (rfl:(some ⟨b,o,none⟩:Option Addr)=_) hlt rfl;rw[Nat.mul_one]at bD;have Hb:=aj pb;clear pb;go_wp2;go_roundw;case rel=>exact⟨k+1,by omega,by omega,by go_num,by rw[bR.out],Hb.out⟩
    case measure=>exact bC
  . obtain rfl:k=n:=by omega
    have Hb:=aj pb;clear pb;go_wp2;refine bodyPost_ret (results_tmp rfl _ _ _) rfl ⟨rfl,Hb.out⟩
def Po (d:Int)(h:d.natAbs<2^64):Sm 128 (Dyadic.ofIntWithPrec d 0):=by have h1:=Sm.raw (x:=(az d,nt d.natAbs,0)) (B:=64) (by have:=jK (k:=64) (N:=8) h zd;show 8* (nt d.natAbs).length<=64;omega) (by show-((64:Nat):Int)<=0;omega) (by show(0:Int)<=((64:Nat):Int);omega);rwa [Ek]at h1
def azE {A B:Nat}{g:Dyadic}{ds:Nat->Dyadic}{t:Nat->Nat}{T:Nat}(hg:Sm A g)(hd:∀i,Sm B (ds i))(ht:∀i,t i<=T)(k:Nat):Sm (A+B+T+1+k) (vI g ds t k):=by
 induction k with
 |zero=>exact Sm.zero _
 |succ k ih=>have h:=Sm.mul (Sm.mul hg (hd k)) ((EI (t k)).mono (show t k+1<=T+1 by have:=ht k;omega));exact Sm.add ih (h.mono (show A+B+(T+1)<=A+B+T+1+k by omega))
def vN (w:World)(top db gb mb pb xb ib L:Nat)(da:Option Addr)(dc:Nat)(ds:List Int)(gs:Bool)(gl:List UInt8)(ge:Int)(ms:Bool)(ml:List UInt8)(me:Int)(bx:List (Raw×Raw))(k:Nat):Prop:=
 ar w db 60 [.slice da L dc]/\ar w gb 30 [ag gs,ah gl,af ge]/\ar w mb 30 [ag ms,ah ml,af me]/\ar w pb 147 [.pointer (some ⟨xb,0,none⟩)]/\At w da (om ds)/\lL w top xb ib L (xf bx k) (pW (bx.map cn) k)
def vN.below {w w':World}{top db gb mb pb xb ib L dc k:Nat}{da:Option Addr}{ds:List Int}{gs:Bool}{gl:List UInt8}{ge:Int}{ms:Bool}{ml:List UInt8}{me:Int}{bx:List (Raw×Raw)}(h:vN w top db gb mb pb xb ib L da dc ds gs gl ge ms ml me bx k)(hb:Bw w w'):vN w' top db gb mb pb xb ib L da dc ds gs gl ge ms ml me bx k:=
 ⟨h.1.below hb,h.2.1.below hb,h.2.2.1.below hb,h.2.2.2.1.below hb,h.2.2.2.2.1.below hb,h.2.2.2.2.2.below hb⟩
def asG (top db gb mb pb xb ib L:Nat)(da:Option Addr)(dc:Nat)(ds:List Int)(gs:Bool)(gl:List UInt8)(ge:Int)(ms:Bool)(ml:List UInt8)(me:Int)(bx:List (Raw×Raw))(k B:Nat)(w:World)(hL:bx.length=L)(h1:1<=L)(hl:L<=1000)(hf:jR B bx)(hB:B<=100000)(hk:k<=2000)(hT:aC w)
 (hdx:db≠xb/\db≠ib) (hgx:gb≠xb/\gb≠ib) (hmx:mb≠xb/\mb≠ib) (hpx:pb≠xb/\pb≠ib) (wG:∀b o,da=some ⟨b,o,none⟩->b≠xb/\b≠ib) (hJ:vN w top db gb mb pb xb ib L da dc ds gs gl ge ms ml me bx k):
 Cl 91 #[.pointer (some ⟨pb,0,none⟩)] w λe w'=>e=.returned (.tuple #[])/\vN w' top db gb mb pb xb ib L da dc ds gs gl ge ms ml me bx (k+1)/\Chg (λb=>b=xb\/b=ib) w w':=by
 obtain⟨q1,q2,q3,q4,q5,q6⟩:=hJ;have hs:=aiT top xb ib L B k bx w hL h1 hl hf zo zo q6 hT;have hp0:w.cell? ⟨pb,0,none⟩=some (.pointer (some ⟨xb,0,none⟩)):=q4.cell 0;obtain⟨Hs,Q1,Q2,Q3,Q4,Q5,Qs⟩:=jL hs q1 q2 q3 q4 q5 wG;clear hs q1 q2 q3 q4 q5 q6 wG hf hL hT;go_enter Tryz.func91,Tryz.ntmps91;go_wp2_with fail;refine Hs.out.mono ?_;rintro e w1 ⟨rfl,hS,hc⟩;obtain⟨HS,Hc⟩:=aK hS hc;clear hS hc hp0;go_wp2;refine bodyPost_end (v:=.tuple #[]) (by simp[results,Tryz.results91,go_sem]) rfl ⟨rfl,⟨Hc.out.blk Q1.out zo,Hc.out.blk Q2.out zo,Hc.out.blk Q3.out zo,Hc.out.blk Q4.out zo,At.chgS Q5.out Hc.out (λb o e h=>by have:=Qs.out b o e;omega),HS.out⟩,Hc.out⟩
def ard (top db gb mb pb xb ib L:Nat)(da:Option Addr)(dc:Nat)(ds:List Int)(gs:Bool)(gl:List UInt8)(ge:Int)(ms:Bool)(ml:List UInt8)(me:Int)(bx:List (Raw×Raw))(k:Nat)(w:World)(hL:ds.length=L)(hl:L<=1000)(hg:Fit 300 (gs,gl,ge))(hm:Fit 300 (ms,ml,me))(hd:∀d∈ds,0<=d/\d<18446744073709551616/4)(hk:k<=2000)(hT:aC w)
 (hJ:vN w top db gb mb pb xb ib L da dc ds gs gl ge ms ml me bx k):
 Cv 90 #[.pointer (some ⟨db,0,none⟩),.pointer (some ⟨gb,0,none⟩),.pointer (some ⟨pb,0,none⟩),.pointer (some ⟨mb,0,none⟩)] w (ag (decide (bg (vI (au (gs,gl,ge)) (λi=>Dyadic.ofIntWithPrec (ds.getD i 0) 0) (pW (bx.map cn) k) L-au (ms,ml,me))<0))):=by
 obtain⟨q1,q2,q3,q4,q5,q6⟩:=hJ;obtain⟨sa,sc,s1,s2,s3,s4,s5⟩:=q6;obtain⟨T,Nz⟩:=aB (pW (bx.map cn) k);obtain⟨D,hD⟩:∃D:Nat->Dyadic,(λi=>Dyadic.ofIntWithPrec (ds.getD i 0) 0)=D:=⟨_,rfl⟩;obtain⟨G,hG⟩:=aB (au (gs,gl,ge));obtain⟨M,hM⟩:=aB (au (ms,ml,me));have tG:∀i,T i<=2000:=λi=>by rw[<-Nz];exact Nat.le_trans (ajt _ _ _) hk
 have hdr:∀i,0<=ds.getD i 0/\ds.getD i 0<18446744073709551616/4:=λi=>by
  by_cases h:i<ds.length
  . have e:ds.getD i 0=ds[i]:=by simp[h]
    rw[e];exact hd _ (List.getElem_mem h)
  . have e:ds.getD i 0=0:=by simp[List.getD_eq_getElem?_getD,List.getElem?_eq_none (by omega:ds.length<=i)]
    rw[e];decide
 have TX:∀i,Dyadic.ofIntWithPrec (ds.getD i 0) 0=D i:=λi=>by rw[<-hD]
 have iU:∀i,Sm 128 (D i):=λi=>by rw[<-TX];exact Po _ (by have:=hdr i;omega)
 rw[hD,Nz,hM];rw[Nz]at s3;have vk:Sm 300 G:=by rw[<-hG];exact hg.2
 have JH:=hm.2;rw[hM]at JH;have hS:∀i,Sm (300+128+2000+1+i) (vI G D T i):=λi=>azE vk iU tG i;have Uq:∀i,vI G D T (i+1)=vI G D T i+G*D i*hp (T i):=λi=>rfl;have sA:vI G D T 0=0:=rfl;have hai:=λW (hW:Bw w W) i (hi:i<L)=>(q5.below hW).ig i zo;rw[hG];obtain⟨S,Es⟩:=aB (vI G D T);rw[Es]at hS Uq sA⊢;obtain⟨c,hc⟩:=aB (bg (S L-M));rw[hc];have HC:=aj hc;clear hc;have l1:=q1.lt;have l2:=q2.lt;have l3:=q3.lt;have l4:=q4.lt;have l5:=s1.lt;have l6:=s3.lt;have wI:∀b o,da=some ⟨b,o,none⟩->0<L->b<w.heap.size:=λb o e h0=>by obtain⟨b',o',e',hc⟩:=q5.ig 0 zo;rw[e]at e';simp only[Option.some.injEq,Addr.mk.injEq,and_true]at e';rw[e'.1];exact World.block_lt_of_cell? w _ hc
 obtain⟨Hd,Hg,Hm,Hp,Hx,Hi,HT,HG,HM,Qk,QL,HDi⟩:=ie q1 q2 q3 q4 s1 s3 hT hG hM tG hdr TX;obtain⟨PZ,Fg,Fm,HgS,HmS,HS,HSt,Qh,Hai,QJ⟩:=yC iU hg hm vk JH hS Uq sA hai wI;clear q1 q2 q3 q4 q5 s1 s2 s3 s4 hT hG hM tG hdr TX iU hg hm vk JH hS Uq sA hai wI Es hD Nz hd;have Bg:=Hg;have Bm:=Hm;have Bp:=Hp;have Bx:=Hx;have Bi:=Hi;have Hb:=hbz w;go_enter Tryz.func90,Tryz.ntmps90;obtain⟨ae,ak⟩:=qZ (Hd.an<|Hg.an<|Hm.an<|Hp.an<|Hx.an<|Hi.an trivial);obtain⟨W,cE,aR,ae,ak⟩:=bX w (Hb.an ae) 30 [ag false,.string ⟨#[]⟩,af 0];go_wp2_with fail;first|refine dA (aV W (w.heap.size) 0 [ag false,.string ⟨#[]⟩,af 0]) aX ?_|refine dV (aV W (w.heap.size) 0 [ag false,.string ⟨#[]⟩,af 0]) aX ?_
 intro W1 hs0;have ae:=bU hs0 ae;simp only[bV,List.set]at ae;have ak:=qC ae;go_wp2_with fail;skip
 go_loopw[11] (λx wr=>∃j:Nat,j<=L/\x=af (j:Int)/\ar wr w.heap.size 30 (bu (canon (S j)))/\Bw w wr) (λx _=>L-(intOf x).toNat);case atStart=>exact⟨0,Nat.zero_le _,rfl,by rw[Qh.out];exact ae.1.out,ae.2.1.out⟩
 case round=>
  skip
  obtain⟨j,hj,rfl,ps,pb⟩:=hrel;by_cases hlt:j<L
  . obtain⟨b,o,hab,hc0⟩:=Hai.out wr pb j hlt;have lb:=QJ.out b o hab zo;subst hab;have bD:=Av L dc j (j:Int) (rfl:(some ⟨b,o,none⟩:Option Addr)=_) hlt rfl;have kv:=Av L L j (j:Int) (rfl:(some ⟨ib,0,none⟩:Option Addr)=_) hlt rfl;rw[Nat.mul_one]at bD kv;rw[Nat.zero_add]at kv;obtain⟨d,hd⟩:=aB (ds.getD j 0);obtain⟨E,hE⟩:=aB (D j);obtain⟨Y,hY⟩:=aB (S j);obtain⟨Z,hZ⟩:=aB (S (j+1));obtain⟨q,hq⟩:=aB (T j);obtain⟨P,hP⟩:=aB (G*E);obtain⟨X,hX⟩:=aB (P*hp q);have hdr:=QL.out j;have NU:=HDi.out j;have rz:=PZ.out j;have lS:=HS.out j;have hst:=HSt.out j;have VF:=Qk.out j;rw[hd]at hdr NU hc0;rw[hE]at NU rz hst;rw[hY]at lS hst ps;rw[hZ]at hst;rw[hq]at VF hst;rw[hP,hX]at hst;have zW:Sm 428 P:=by rw[<-hP];exact Sm.mul HgS.out rz
    have fK:Sm 4000 X:=by rw[<-hX];exact(Sm.mul zW (EI q)).mono zo
    have HX:Hid (au (az (dN P),nt (dN P).natAbs,dE P+ -(q:Int))=X):=by show _=_;rw[<-hX];exact PF P q
    have HP:Hid (au (gs,gl,ge) *au (bE E)=P):=by show _*au (canon E)=P;rw[bF,HG.out];exact hP
    have HZ:Hid (au (bE Y)+au (bE X)=Z):=by show au (canon Y)+au (canon X)=Z;rw[bF,bF];exact hst.symm
    have FE:Hid (Fit 300 (bE E)):=(rz.mono zo).fit zo;have FP:Hid (Ok (bE P)):=(zW.fit zo).1;have FY:Hid (Fit 4000 (bE Y)):=(lS.mono zo).fit zo;have FX:Hid (Fit 4000 (bE X)):=fK.fit zo;have ht0:wr.cell? ⟨ib,j,none⟩=some (af (q:Int)):=by rw[(Bi.out.below pb).cell,List.getElem?_eq_getElem (by rw[Yb];exact hlt),ajs,hq]
    have hwr:IntKind.i64.wrap (-(q:Int))= -(q:Int):=by rw[IntKind.wrap_i64];omega
    have Hs:Hid (ar wr w.heap.size 30 (bG Y)):=ps;obtain⟨Hg,Hp,Hx⟩:=cw (Bg.out.below pb) (Bp.out.below pb) (Bx.out.below pb);have Ht:Hid (aZ wr ib j [af (q:Int)]):=λi hi=>by
     obtain rfl:i=0:=by simp at hi;omega
     exact ht0
    obtain⟨QI,qR,Hb,alG⟩:=dv NU hZ pb hdr;have kD:=pb.size;clear ps pb NU rz lS hst zW fK hX hP hZ hY hE hq hd ht0 hdr;obtain⟨ae,ak⟩:=qZ (Hs.an<|Hg.an<|Hp.an<|Hx.an<|Ht.an trivial);go_wp2_with fail;clear hc0;have ae:=Hb.an ae;refine fT 17 ae (fH 18 0x22201e1c0a08061b19171513110f0d050301) ?_;refine cG ?_;refine cV ae (uP d E QI.out _ (by have:=alG.out;omega) (qU (HT.out.below ae.1.out))) λw5 ae=>?_;refine vG 30 [ag gs,ah gl,af ge,ag (az (dN E)),ah (nt (dN E).natAbs),af (dE E)] ae λW6 aR ae=>?_;refine cV ae (tB gs gl ge _ _ _ P 300 HP.out w5.heap.size 2 30 _ Fg.out FE.out zo ae.1.out (qU (HT.out.below ae.2.1.out))) λw7 ae=>?_;refine cV ae (Fx _ _ _ (-(q:Int)) X HX.out _ FP.out zo (qU (HT.out.below ae.2.1.out))) λw8 ae=>?_;refine vG 30 [ag (az (dN Y)),ah (nt (dN Y).natAbs),af (dE Y),ag (az (dN X)),ah (nt (dN X).natAbs),af (dE X)] ae λW9 aR ae=>?_;refine cV ae (xU _ _ _ _ _ _ Z 4000 HZ.out w8.heap.size 2 30 _ FY.out FX.out zo ae.1.out (qU (HT.out.below ae.2.2.1.out))) λdw ae=>?_;have ak:=qC ae;refine qOp λK hK=>?_;go_simp;refine hK _ _ (λh=>absurd h zd) ?_;try simp only[UU]
    refine cB (aV dw (w.heap.size) 0 (bG Z)) aX ?_;intro W11 hs0;have ae:=bU hs0 ae;simp only[bV,List.set]at ae;have ak:=qC ae;refine fR ae λak=>?_;go_wp2;go_roundw;case rel=>exact⟨j+1,by omega,by go_num,by rw[qR.out];exact ae.2.2.2.1.out,ae.2.2.1.out⟩
    case measure=>exact bC
  . obtain rfl:j=L:=by omega
    obtain⟨Y,hY⟩:=aB (S j);have lS:=HS.out j;have hc:=HC.out;rw[hY]at lS ps hc;have Hc:Hid (bg (au (bE Y)-au (ms,ml,me))=c):=by show bg (au (canon Y)-_)=c;rw[bF,HM.out];exact hc
    have FY:Hid (Ok (bE Y)):=(lS.fit zo).1;have Hs:Hid (ar wr w.heap.size 30 (bG Y)):=ps;obtain⟨Hm,Hb⟩:=aK (Bm.out.below pb) pb;clear ps pb lS hc hY;obtain⟨ae,ak⟩:=qZ (Hs.an<|Hm.an trivial);go_wp2_with fail;refine aJ (Hb.an ae) (wu _ _ _ _ _ _ c Hc.out _ FY.out Fm.out.1 (HT.out.below Hb.out)) λw5 ae ak=>?_;go_wp2;refine bodyPost_ret (results_tmp rfl _ _ _) rfl ⟨rfl,ae.1.out⟩
def Ax (ds:List Int):Nat->Dyadic:=λi=>Dyadic.ofIntWithPrec (ds.getD i 0) 0
def Lf (ds:List Int)(L:Nat)(G M:Dyadic):Prop:=ds.length=L/\(∀d∈ds,0<=d)/\0<=bg G/\0<bg M
instance (ds :List Int) (L:Nat) (G M:Dyadic):Decidable (Lf ds L G M):=by unfold Lf;infer_instance
def apw (a:Option Addr)(L cap B:Nat)(bx:List (Raw×Raw))(da:Option Addr)(dc:Nat)(ds:List Int)(gs:Bool)(gl:List UInt8)(ge:Int)(ms:Bool)(ml:List UInt8)(me:Int)(w:World)(hL:bx.length=L)(hl:L<=1000)(hf:jR B bx)(hB:B<=90000)(ha:At w a (bx.flatMap cK))(wI:At w da (om ds))(hT:aC w)
 (hg:Fit 300 (gs,gl,ge)) (hm:Fit 300 (ms,ml,me)) (hc:mM (bx.map cn)=0) (hok:Lf ds L (au (gs,gl,ge)) (au (ms,ml,me))) (hd:∀d∈ds,d<18446744073709551616/4):
 Cv 24 #[.slice a L cap,.slice da L dc,.agg #[ag gs,ah gl,af ge],.agg #[ag ms,ah ml,af me]] w (.tuple #[af (((zJ (au (gs,gl,ge)) (au (ms,ml,me)) (Ax ds) (bx.map cn)).getD 0:Nat):Int),af (if zJ (au (gs,gl,ge)) (au (ms,ml,me)) (Ax ds) (bx.map cn)=none then 3 else 0)]):=by
 obtain⟨Ch,wJ,hg0,hm0⟩:=hok;have h1:1<=L:=by
  have:=(abR hc).1;rw[<-hL];cases bx with
  |nil=>exact absurd rfl this
  |cons x xs=>simp
 have hdb:∀b o,da=some ⟨b,o,none⟩->b<w.heap.size:=λb o e=>by obtain⟨b',o',e',hc⟩:=wI.ig 0 zo;rw[e]at e';simp only[Option.some.injEq,Addr.mk.injEq,and_true]at e';rw[e'.1];exact World.block_lt_of_cell? w _ hc
 obtain⟨mn,Cu⟩:=aB (rJ ds L);have aD6:¬mn<0:=by rw[<-Cu,<-Ch,WH ds zo];rintro⟨d,h2,h3⟩;have:=wJ d h2;omega
 have dm:=λW (hW:Bw w W)=>SN a L cap B bx W hL zo hf (ha.below hW) (hT.below hW);rw[hc]at dm;have kw:=λW (hW:Bw w W)=>ai0 da L dc ds W Ch h1 zo (wI.below hW);rw[Cu]at kw;have mZ:=λW=>SL gs gl ge ms ml me W hg.1 hm.1;rw[decide_eq_true (show 0<=bg (au (gs,gl,ge))/\0<bg (au (ms,ml,me))from⟨hg0,hm0⟩)]at mZ;obtain⟨c,hcc⟩:=aB (bg (au (gs,gl,ge)-au (ms,ml,me)));have hcm:=λW (hW:Bw w W)=>wu gs gl ge ms ml me c hcc W hg.1 hm.1 (hT.below hW);have hbg:=λW (hW:Bw w W)=>abq a L cap bx W hL h1 hl (ha.below hW);obtain⟨R,hR⟩:=aB (zJ (au (gs,gl,ge)) (au (ms,ml,me)) (Ax ds) (bx.map cn));have zY:c<0->R=some 0:=λh=>by rw[<-hR];unfold zJ;rw[if_pos (by rw[hcc];exact h)]
 have IZ:0<=c->CH (λk=>decide (bg (vI (au (gs,gl,ge)) (Ax ds) (pW (bx.map cn) k) L-au (ms,ml,me))<0)) 1=R:=λh=>by rw[<-hR];unfold zJ;rw[if_neg (by rw[hcc];omega),List.length_map,hL]
 have Ci:∀d∈ds,0<=d/\d<18446744073709551616/4:=λd h=>⟨wJ d h,hd d h⟩;have IV:=λtop db gb mb pb xb ib k W (hk:k<=2000) (hT:aC W) (hJ:vN W top db gb mb pb xb ib L da dc ds gs gl ge ms ml me bx k)=>ard top db gb mb pb xb ib L da dc ds gs gl ge ms ml me bx k W Ch hl hg hm Ci hk hT hJ;have hJ2:=λtop db gb mb pb xb ib k W (hk:k<=2000) (hT:aC W) h2 h3 h4 h5 h6 (hJ:vN W top db gb mb pb xb ib L da dc ds gs gl ge ms ml me bx k)=>asG top db gb mb pb xb ib L da dc ds gs gl ge ms ml me bx k B W hL h1 hl hf zo hk hT h2 h3 h4 h5 h6 hJ;rw[hR];obtain⟨nv,vv⟩:∃nv:Int,((R.getD 0:Nat):Int)=nv:=⟨_,rfl⟩;obtain⟨er,her⟩:∃er:Int,(if R=none then 3 else 0)=er:=⟨_,rfl⟩;rw[vv,her];obtain⟨GP,GA⟩:=aK vv her;clear vv her;obtain⟨kH,DG,yX,uu,Qw,Gh,Qg,Dg,HJ2,HT,QJ,Hdb⟩:=ie dm kw mZ hcm hbg zY IZ IV hJ2 hT wI hdb;have hLL:((L:Int) !=(L:Int))=false:=by simp
 clear dm kw mZ hcm hbg zY IZ IV hJ2 hT wI hdb Ci hR hcc Cu hc hg hm hg0 hm0 wJ hd Ch hf ha hL;obtain⟨W,cE,ae,ak⟩:=Pz w 60 [.slice da L dc] 30 [ag gs,ah gl,af ge] 30 [ag ms,ah ml,af me];go_enter Tryz.func24,Tryz.ntmps24;go_wp2_with fail;refine aJ ae (kH.out _ ae.1.out) λw1 ae ak=>?_;go_wp2_with fail;refine aJ ae (DG.out _ ae.1.out) λw2 ae ak=>?_;go_wp2_with fail;refine aJ ae (yX.out _) λw3 ae ak=>?_;go_wp2_with fail;refine aJ ae (uu.out _ ae.1.out) λw4 ae ak=>?_;by_cases hc0:c<0
 . have hR:=Gh.out hc0;subst hR;go_wp2;exact bodyPost_ret (v:=.tuple #[af 0,af 0]) (by simp[results,Tryz.results24,go_sem]) rfl ⟨by rw[<-GP.out,<-GA.out];rfl,ae.1.out⟩
 . have hR:=Qg.out zo;have qu:=aj hR;clear hR;have Wj:=ae.1.out.size;have ld:=ae.2.1.out.lt;have lg:=ae.2.2.1.out.lt;have lm:=ae.2.2.2.1.out.lt;go_wp2_with fail;refine(Qw.out _ ae.1.out).mono ?_;rintro e w5 ⟨xb,ib,rfl,hx1,hi1,hx2,hi2,hS,ai⟩;obtain⟨ae,ak⟩:=qX ai ae;have hz5:=ae.1.out.size;have HS:Hid (lL w5 w4.heap.size xb ib L bx (fun _=>0)):=hS;clear hS;obtain⟨W6,pu,aR,ae,ak⟩:=bX w5 (HS.an ae) 147 [.pointer (some ⟨xb,0,none⟩)];have IU:vN W6 w4.heap.size w.heap.size (w.heap.size+1) (w.heap.size+1+1) w5.heap.size xb ib L da dc ds gs gl ge ms ml me bx 0:=⟨ae.2.2.2.1.out,ae.2.2.2.2.1.out,ae.2.2.2.2.2.1.out,ae.1.out,QJ.out.below ae.2.2.1.out,ae.2.1.out⟩;have Cr:=ahc 1 90 91 #[.pointer (some ⟨w.heap.size,0,none⟩),.pointer (some ⟨w.heap.size+1,0,none⟩),.pointer (some ⟨w5.heap.size,0,none⟩),.pointer (some ⟨w.heap.size+1+1,0,none⟩)] #[.pointer (some ⟨w5.heap.size,0,none⟩)] (fun k=>decide (bg (vI (au (gs,gl,ge)) (Ax ds) (pW (bx.map cn) k) L-au (ms,ml,me))<0)) (fun k W=>vN W w4.heap.size w.heap.size (w.heap.size+1) (w.heap.size+1+1) w5.heap.size xb ib L da dc ds gs gl ge ms ml me bx k/\Bw w W) W6 zd zd
    (enters_of Tryz.func90 zk rfl) (enters_of Tryz.func91 zk rfl) ⟨IU,ae.2.2.1.out⟩
    (λk V hk hJ=>((Dg.out _ _ _ _ _ _ _ k V zo (HT.out.below hJ.2) hJ.1).mono (λe V' h=>⟨h.1,hJ.1.below h.2,aI hJ.2 h.2⟩)))
    (λk V hk hJ=>((HJ2.out _ _ _ _ _ _ _ k V zo (HT.out.below hJ.2) zo zo zo zo (λb o e=>by have:=Hdb.out b o e;omega) hJ.1).mono (λe V' h=>⟨h.1,h.2.1,hJ.2.trans (h.2.2.below hJ.2.size (λb h=>by omega))⟩)))
   rw[qu.out,GP.out,GA.out]at Cr;have rR:=aj Cr;clear Cr IU;go_wp2_with fail;refine rR.out.mono ?_;rintro e w7 ⟨rfl,_,_,ai⟩;have Hb:=aj ai;go_wp2;exact bodyPost_ret (v:=.tuple #[af nv,af er]) (by simp[results,Tryz.results24,go_sem]) rfl ⟨rfl,Hb.out⟩
def wh (c:Int)(ds:List Int)(L:Nat)(G M:Dyadic):Int:=if c=1\/¬Lf ds L G M then 1 else c
def abB (a:Option Addr)(L cap B:Nat)(bx:List (Raw×Raw))(da:Option Addr)(n dc:Nat)(ds:List Int)(gs:Bool)(gl:List UInt8)(ge:Int)(ms:Bool)(ml:List UInt8)(me:Int)(w:World)(hL:bx.length=L)(hl:L<=1000)(hf:jR B bx)(ha:At w a (bx.flatMap cK))(hn:ds.length=n)(wI:At w da (om ds))(hT:aC w)
 (hg:Ok (gs,gl,ge)) (hm:Ok (ms,ml,me)) (he:wh (mM (bx.map cn)) ds L (au (gs,gl,ge)) (au (ms,ml,me))≠0):
 Cv 24 #[.slice a L cap,.slice da n dc,.agg #[ag gs,ah gl,af ge],.agg #[ag ms,ah ml,af me]] w (.tuple #[af 0,af (wh (mM (bx.map cn)) ds L (au (gs,gl,ge)) (au (ms,ml,me)))]):=by
 obtain⟨c,hc⟩:=aB (mM (bx.map cn));have dm:=λW (hW:Bw w W)=>SN a L cap B bx W hL zo hf (ha.below hW) (hT.below hW);simp only[hc]at dm;have h1:c≠1->1<=L:=λh=>by
  rw[<-hL];cases bx with
  |nil=>exact absurd hc.symm h
  |cons x xs=>simp
 rw[hc]at he⊢;have mZ:=λW=>SL gs gl ge ms ml me W hg hm;obtain⟨u,hu⟩:=aB (decide (0<=bg (au (gs,gl,ge))/\0<bg (au (ms,ml,me))));simp only[hu]at mZ;obtain⟨E,hE⟩:=aB (wh c ds L (au (gs,gl,ge)) (au (ms,ml,me)));rw[hE]at he⊢;have e1:c=1->E=1:=λh=>by rw[<-hE];unfold wh;rw[if_pos (.inl h)]
 have e2:n≠L->E=1:=λh=>by rw[<-hE];unfold wh;rw[if_pos (.inr (λh2=>h (by rw[<-hn];exact h2.1)))]
 have e3:1<=n->rJ ds n<0->E=1:=λh0 h=>by rw[<-hn]at h h0;obtain⟨d,h2,h3⟩:=(WH ds h0).1 h;rw[<-hE];unfold wh;rw[if_pos (.inr (λh4=>by have:=h4.2.1 d h2;omega))]
 have e4:u=false->E=1:=λh=>by rw[<-hE];unfold wh;rw[if_pos (.inr (λh4=>by rw[decide_eq_true h4.2.2]at hu;rw[<-hu]at h;cases h))]
 have e5:c≠1->n=L->1<=n->¬rJ ds n<0->u=true->E=c:=λh1 h2 h3 h4 h5=>by
  rw[<-hE];unfold wh;rw[if_neg];rintro(h|h)
  . exact h1 h
  . refine h ⟨by omega,λd hd=>?_,?_⟩
    . rw[<-hn]at h3 h4;by_cases h6:d<0
      . exact absurd ((WH ds h3).2 ⟨d,hd,h6⟩) h4
      . omega
    . rw[h5]at hu;exact of_decide_eq_true hu
 have kw:=λW (hW:Bw w W) (h:1<=n) (hl:n<=1048576)=>ai0 da n dc ds W hn h hl (wI.below hW);obtain⟨mn,Cu⟩:=aB (rJ ds n);rw[Cu]at e3 e5;simp only[Cu]at kw;obtain⟨kH,yX,DG,E1,E2,E3,E4,E5,Dy,He⟩:=yC dm mZ kw e1 e2 e3 e4 e5 h1 he;clear dm mZ kw e1 e2 e3 e4 e5 h1 he hE hu Cu hc wI ha hT hg hm hf hL hn;obtain⟨W,cE,ae,ak⟩:=Pz w 60 [.slice da n dc] 30 [ag gs,ah gl,af ge] 30 [ag ms,ah ml,af me];go_enter Tryz.func24,Tryz.ntmps24;go_wp2_with fail;refine aJ ae (kH.out _ ae.1.out) λw1 ae ak=>?_;by_cases h1:c=1
 . obtain rfl:=E1.out h1;subst h1;go_wp2;exact bodyPost_ret (v:=.tuple #[af 0,af 1]) (by simp[results,Tryz.results24,go_sem]) rfl ⟨rfl,ae.1.out⟩
 . have h1':(c==1)=false:=by simpa using h1
   have kR:=Dy.out h1;by_cases h2:n=L
   . subst h2;have hnn:((n:Int) !=(n:Int))=false:=by simp
     have h1l:=aj h1;clear h1;go_wp2_with fail;refine aJ ae (DG.out _ ae.1.out kR zo) λw2 ae ak=>?_;by_cases h3:mn<0
     . obtain rfl:=E3.out kR h3;go_wp2;exact bodyPost_ret (v:=.tuple #[af 0,af 1]) (by simp[results,Tryz.results24,go_sem]) rfl ⟨rfl,ae.1.out⟩
     . go_wp2_with fail;refine aJ ae (yX.out _) λw3 ae ak=>?_;cases u with
       |false=>obtain rfl:=E4.out rfl;go_wp2;exact bodyPost_ret (v:=.tuple #[af 0,af 1]) (by simp[results,Tryz.results24,go_sem]) rfl ⟨rfl,ae.1.out⟩
       | true=>
         obtain rfl:=E5.out h1l.out (by trivial) kR zo (by trivial);have h0:(E !=0)=true:=by simpa using He.out
         go_wp2;exact bodyPost_ret (v:=.tuple #[af 0,af E]) (by simp[results,Tryz.results24,go_sem]) rfl ⟨rfl,ae.1.out⟩
   . obtain rfl:=E2.out h2;have hnn:((n:Int) !=(L:Int))=true:=by simp;omega
     clear h1 h2;go_wp2;exact bodyPost_ret (v:=.tuple #[af 0,af 1]) (by simp[results,Tryz.results24,go_sem]) rfl ⟨rfl,ae.1.out⟩
end Go.Proofs.YtbkopgdpcijfbaaGreatDoor
