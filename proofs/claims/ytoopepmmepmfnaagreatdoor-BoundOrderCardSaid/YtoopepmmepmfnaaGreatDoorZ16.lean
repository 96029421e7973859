/- Package bound: may,Order,least. -/
import Derived.Test.YtoopepmmepmfnaaGreatDoorZ14
import Derived.Test.YtoopepmmepmfnaaGreatDoorZ11
import Derived.WalkMore
import Derived.Test.YtoopepmmepmfnaaGreatDoorZ7
import Derived.Test.YtoopepmmepmfnaaGreatDoorZ15
set_option linter.unusedVariables false
set_option linter.unusedSimpArgs false
set_option maxRecDepth 100000
set_option maxHeartbeats 16000000
namespace Go.Proofs.YtoopepmmepmfnaaGreatDoor
open Go.RowKit
attribute [local go_sem ↓] Go.wp_at_zero Go.wp_at_succ
theorem KE (s:Bool)(l:List UInt8)(e:Int)(t:Bool)(m:List UInt8)(f:Int)(w:World)(hx:Ok (s,l,e))(hy:Ok (t,m,f)):
 Calls Tryz.prog 43 #[.agg #[.bool s,.string (bs l),.int .i64 e],.agg #[.bool t,.string (bs m),.int .i64 f]] w λe' w'=>e'=.returned (.bool (decide (0<=aR (ar (s,l,e))/\0<aR (ar (t,m,f)))))/\Bw w w':=by
 obtain⟨c,hc⟩:=aB (aR (ar (s,l,e)));obtain⟨d,hd⟩:=aB (aR (ar (t,m,f)));obtain⟨Gx,Gy,Hc,Hd⟩:=cX hx hy hc hd;rw[hc,hd];clear hx hy hc hd;obtain⟨W,bY,Hb,Hx,Hy⟩:=gj w 39 [.bool s,.string (bs l),.int .i64 e] 39 [.bool t,.string (bs m),.int .i64 f];obtain⟨x0,x1,x2⟩:=Hx.out.c3;obtain⟨y0,y1,y2⟩:=Hy.out.c3;go_enter Tryz.func43,Tryz.ntmps43;go_wp2_with fail;refine(lL s l e c Hc.out _ Gx.out).mono ?_;rintro e w1 ⟨rfl,ae⟩;clear x0 x1 x2 y0 y1 y2;replace Hx:=kB Hx ae;replace Hy:=kB Hy ae;obtain⟨x0,x1,x2⟩:=Hx.out.c3;obtain⟨y0,y1,y2⟩:=Hy.out.c3;replace Hb:=ak Hb ae;clear ae;by_cases hc0:0<=c
 . go_wp2_with fail;refine(lL t m f d Hd.out _ Gy.out).mono ?_;rintro e w2 ⟨rfl,ae⟩;clear x0 x1 x2 y0 y1 y2;replace Hx:=kB Hx ae;replace Hy:=kB Hy ae;obtain⟨x0,x1,x2⟩:=Hx.out.c3;obtain⟨y0,y1,y2⟩:=Hy.out.c3;replace Hb:=ak Hb ae;clear ae;go_wp2;refine bodyPost_ret (results_tmp rfl _ _ _) rfl ⟨?_,Hb.out⟩;by_cases hd0:0<d
   . simp[hc0,hd0]
   . simp[hc0,hd0]
 . go_wp2;refine bodyPost_ret (results_tmp rfl _ _ _) rfl ⟨?_,Hb.out⟩;rw[decide_eq_false (λh:0<=c=>by omega)];rfl
def jr (bx:List (Raw×Raw)):Nat->List (Raw×Raw)
 |0=>bx
 |k+1=>(rT (bx.map bA) (k+1)).map dK
theorem Ih (bx:List (Raw×Raw))(k:Nat):(jr bx k).map bA=rT (bx.map bA) k:=by
 cases k with
 |zero=>rfl
 | succ k=>
   show((rT (bx.map bA) (k+1)).map dK).map bA=_
   rw[List.map_map,show bA∘dK=id from funext YV,List.map_id]
theorem OM (bx:List (Raw×Raw))(k:Nat):(jr bx k).length=bx.length:=by have h:=congrArg List.length (Ih bx k);rw[List.length_map,Ig,List.length_map]at h;exact h
theorem amc {B:Nat}{bx:List (Raw×Raw)}(h:gN B bx)(k:Nat)(hB:B+3*k<=268435456):gN (B+3*k) (jr bx k):=by
 cases k with
 |zero=>exact h
 |succ k=>exact gN.of (Zd h.smP (k+1)) hB
def lK (bx:List Pr)(k:Nat):List Value:=(List.range k).map λi=>.int .i64 (kH bx i:Int)
theorem RI (bx:List Pr)(k:Nat):lK bx (k+1)=lK bx k++[.int .i64 (kH bx k:Int)]:=by unfold lK;rw[List.range_succ,List.map_append];rfl
theorem YK (top xb ib L B k:Nat)(bx:List (Raw×Raw))(w:World)(hL:bx.length=L)(h1:1<=L)(hl:L<=1000)(hf:gN B bx)(hB:B+3*k<=1000000)(hk:k<=100000)(hS:kG w top xb ib L (jr bx k) (lj (bx.map bA) k))(hT:az w):
 Calls Tryz.prog 34 #[.pointer (some ⟨xb,0,none⟩)] w λe w'=>e=.returned (.int .i64 (kH (bx.map bA) k:Int))/\kG w' top xb ib L (jr bx (k+1)) (lj (bx.map bA) (k+1))/\Chg (λb=>b=xb\/b=ib) w w':=by
 have h:=alT top xb ib L (B+3*k) (jr bx k) (lj (bx.map bA) k) w (by rw[OM];exact hL) h1 hl (amc hf k zo) hB (λi=>by have:=Zt (bx.map bA) k i;omega) hS hT;rw[Ih]at h;exact h
theorem XV (a:Option Addr)(L cap B N:Nat)(bx:List (Raw×Raw))(w:World)(hL:bx.length=L)(hl:L<=1000)(hf:gN B bx)(hB:B<=100000)(ha:At w a (bx.flatMap bg))(hT:az w)(hc:gH (bx.map bA)=0)(hN:N<=1024):
 Calls Tryz.prog 9 #[.slice a L cap,.int .i64 (N:Int)] w λe w'=>∃a' c',e=.returned (.tuple #[.slice a' N c',.int .i64 0])/\At w' a' (lK (bx.map bA) N)/\Bw w w':=by
 obtain⟨i0,hi,hz0,hz1,hz2⟩:=info_parts Tryz.arn;have h1:1<=L:=by
  have:=(KI hc).1;rw[<-hL];cases bx with
  |nil=>exact absurd rfl this
  |cons x xs=>simp
 have cW:=λW (hW:Bw w W)=>Ez a L cap B bx W hL zo hf (ha.below hW) (hT.below hW);rw[hc]at cW;have hbg:=λW (hW:Bw w W)=>RO a L cap bx W hL h1 hl (ha.below hW);have uC:=λk top xb ib W (hk:k<=1024) (hS:kG W top xb ib L (jr bx k) (lj (bx.map bA) k)) (hT:az W)=>YK top xb ib L B k bx W hL h1 hl hf zo zo hS hT;have hnx:=RI (bx.map bA);have lT:lK (bx.map bA) 0=[]:=rfl;have hs0:jr bx 0=bx:=rfl;have ht0:lj (bx.map bA) 0=λ_=>0:=rfl;obtain⟨AC,yD⟩:∃f,lK (bx.map bA)=f:=⟨_,rfl⟩;obtain⟨AX,BK⟩:∃f,kH (bx.map bA)=f:=⟨_,rfl⟩;obtain⟨SR,wu⟩:∃f,jr bx=f:=⟨_,rfl⟩;obtain⟨TM,Ma⟩:∃f,lj (bx.map bA)=f:=⟨_,rfl⟩;rw[yD]at hnx lT⊢;simp only[BK]at hnx uC;simp only[wu,Ma]at uC;rw[wu]at hs0;rw[Ma]at ht0;simp only[<-hs0,<-ht0]at hbg;have ahn:∀k,(AC k).length=k:=λk=>by rw[<-yD];simp[lK]
 obtain⟨Hi,eF,eG,dL,fH,Ja,Ea,mH,Ak,HT⟩:=uT hi hz0 hz1 hz2 cW hbg uC hnx lT hT;clear hi hz0 hz1 hz2 cW hbg uC hnx lT hT ahn hs0 ht0 wu Ma BK yD hc ha hf hL;have hN1:¬(1024:Int)<(N:Int):=by omega
 have hN0:¬(N:Int)<0:=by omega
 have Hb:Hid (Bw w w):=Below.refl _ _;go_enter Tryz.func9,Tryz.ntmps9;go_wp2_with fail;refine(fH.out _ Hb.out).mono ?_;rintro e w1 ⟨rfl,ae⟩;replace Hb:=ak Hb ae;clear ae;go_wp2_with fail;refine(Ja.out _ Hb.out).mono ?_;rintro e w2 ⟨xb,ib,rfl,hx1,hi1,hx2,hi2,hS,ae⟩;have hw1:=Hb.out.size;replace Hb:=af (aH Hb.out ae);have HS:=af hS;have hsz:=ae.size;clear hS ae;go_wp2_with fail;go_loopw[7,28] (λs7 x wr=>∃(k:Nat) (v:Value),k<=N/\x=.int .i64 (k:Int)/\v=s7/\wr.ownsRow w2.heap.size 3 1 v k (AC k)/\kG wr w1.heap.size xb ib L (SR k) (TM k)/\w2.heap.size<=wr.heap.size/\Bw w wr) (λ_ x _=>N-(intOf x).toNat);case atStart=>exact⟨0,_,Nat.zero_le _,rfl,rfl,by rw[Ak.out];exact World.ownsRow_nil _ _ _ _,HS.out,Nat.le_refl _,Hb.out⟩
 case round=>
  clear Hb HS;obtain⟨k,v,hk,rfl,rfl,pv,ps,pz,pb⟩:=hrel;by_cases hlt:k<N
  . have hlt':(k:Int)<(N:Int):=by omega
    obtain⟨cQ,JY,Hb⟩:=cC pv ps pb;clear pv ps pb;go_wp2_with fail;refine(Ea.out k w1.heap.size xb ib _ zo JY.out (HT.out.below Hb.out)).mono ?_;rintro e w4 ⟨rfl,TS,FB⟩;have hv4:=XZ cQ.out FB (λb e h=>by have:=eI cQ.out b e;omega);have hb4:=Hb.out.trans (FB.below Hb.out.size (λb h=>by omega));have hz4:=FB.size;obtain⟨HS4,Hv4,gU⟩:=cC TS hv4 hb4;have OQ:=hb4.size;clear TS FB hv4 hb4 JY cQ Hb;have Hb:Hid (Bw w4 w4):=Below.refl _ _;obtain⟨W6,nX,ae,Hd⟩:=cf w4 3 [.int .i64 (AX k:Int)];have d0:=Hd.out.c1;replace Hb:=ak Hb ae;clear ae;have cV:=ownsRow_below Hv4.out Hb.out;have TT:=HS4.out.below Hb.out;have kj:=Hb.out.size;have hnews:∀i u,([.int .i64 (AX k:Int)]:List Value)[i]?=some u->W6.cell? ((⟨w4.heap.size,0,none⟩:Addr).add i)=some u:=jh Hd.out;have HS6:=af TT;clear d0 TT;go_wp2_with (at_builtin;refine wpList_append_own_at _ rfl _ _ 26 rfl w2.heap.size 3 i0 _ 1 8 Tryz.underlying26 Hi.out eF.out eG.out dL.out rfl zd v k (AC k) rfl cV ⟨w4.heap.size,0,none⟩ 1 1 [.int .i64 (AX k:Int)] rfl rfl hnews zy zx zo zo ?_;intro v' w7 eU fu _ _;obtain⟨g',nM,rfl⟩:=ownsRow_succ eU);go_roundw;case rel=>
     refine⟨k+1,_,by omega,by go_num,rfl,?_,?_,?_,?_⟩
     . rw[mH.out];exact eU
     . exact HS6.out.row cV zo zo zo fu
     . have:=fu.size;omega
     . exact(aH gU.out Hb.out).grown fu zo (λj e=>by have:=eI cV j e;omega)
    case measure=>simp[intOf];omega
  . obtain rfl:k=N:=by omega
    obtain⟨a2,c2,rfl,hat,_⟩:=ej pv;obtain⟨eD,Hb⟩:=aI hat pb;clear pv ps pb hat;go_wp2;refine bodyPost_ret (v:=.tuple #[.slice a2 k c2,.int .i64 0]) (by simp[results,Tryz.results9,go_sem]) rfl ⟨a2,c2,rfl,eD.out,Hb.out⟩
def xm (c n:Int):Int:=if c=1\/n<0 then 1 else if c≠0 then c else if 1024<n then 3 else 0
theorem XU (a:Option Addr)(L cap B:Nat)(n:Int)(bx:List (Raw×Raw))(w:World)(hL:bx.length=L)(hl:L<=1000)(hf:gN B bx)(ha:At w a (bx.flatMap bg))(hT:az w)(he:xm (gH (bx.map bA)) n≠0):
 Calls Tryz.prog 9 #[.slice a L cap,.int .i64 n] w λe w'=>e=.returned (.tuple #[.slice none 0 0,.int .i64 (xm (gH (bx.map bA)) n)])/\Bw w w':=by
 have cW:=λW (hW:Bw w W)=>Ez a L cap B bx W hL zo hf (ha.below hW) (hT.below hW);obtain⟨c,hc⟩:=aB (gH (bx.map bA));rw[hc]at he⊢;simp only[hc]at cW;have fH:=af cW;clear cW ha hT hf hL hc;unfold xm at he⊢;by_cases h1:c=1
 . subst h1;rw[if_pos (.inl rfl)];clear he;have Hb:Hid (Bw w w):=Below.refl _ _;go_enter Tryz.func9,Tryz.ntmps9;go_wp2_with fail;refine(fH.out _ Hb.out).mono ?_;rintro e w1 ⟨rfl,ae⟩;replace Hb:=ak Hb ae;clear ae;go_wp2;exact bodyPost_ret (v:=.tuple #[.slice none 0 0,.int .i64 1]) (by simp[results,Tryz.results9,go_sem]) rfl ⟨rfl,Hb.out⟩
 . have h1':(c==1)=false:=by simpa using h1
   by_cases h2:n<0
   . rw[if_pos (.inr h2)];clear he h1;have Hb:Hid (Bw w w):=Below.refl _ _;go_enter Tryz.func9,Tryz.ntmps9;go_wp2_with fail;refine(fH.out _ Hb.out).mono ?_;rintro e w1 ⟨rfl,ae⟩;replace Hb:=ak Hb ae;clear ae;go_wp2;exact bodyPost_ret (v:=.tuple #[.slice none 0 0,.int .i64 1]) (by simp[results,Tryz.results9,go_sem]) rfl ⟨rfl,Hb.out⟩
   . rw[if_neg (by rintro(h|h);exact h1 h;exact h2 h)]at he⊢;by_cases h3:c=0
     . subst h3;rw[if_neg zm]at he⊢;by_cases h4:1024<n
       . rw[if_pos h4];clear he h1 h1';have Hb:Hid (Bw w w):=Below.refl _ _;go_enter Tryz.func9,Tryz.ntmps9;go_wp2_with fail;refine(fH.out _ Hb.out).mono ?_;rintro e w1 ⟨rfl,ae⟩;replace Hb:=ak Hb ae;clear ae;go_wp2;exact bodyPost_ret (v:=.tuple #[.slice none 0 0,.int .i64 3]) (by simp[results,Tryz.results9,go_sem]) rfl ⟨rfl,Hb.out⟩
       . rw[if_neg h4]at he;exact absurd rfl he
     . rw[if_pos h3];have h3':(c !=0)=true:=by simpa using h3
       clear he h1 h3;have Hb:Hid (Bw w w):=Below.refl _ _;go_enter Tryz.func9,Tryz.ntmps9;go_wp2_with fail;refine(fH.out _ Hb.out).mono ?_;rintro e w1 ⟨rfl,ae⟩;replace Hb:=ak Hb ae;clear ae;go_wp2;exact bodyPost_ret (v:=.tuple #[.slice none 0 0,.int .i64 c]) (by simp[results,Tryz.results9,go_sem]) rfl ⟨rfl,Hb.out⟩
theorem WO (d gf gg:Nat)(la lb:Array Value)(c:Nat->Bool)(J:Nat->World->Prop)(w:World)(hd:1<=d)(hd2:d<=1000)
 (eg:∀args w,(callFunc gf args).run Tryz.prog w=.ok (.enter gf args) w) (eh:∀args w,(callFunc gg args).run Tryz.prog w=.ok (.enter gg args) w)
 (h0:J 0 w) (h1:∀k W,k<=1024->J k W->Calls Tryz.prog gf la W λe w'=>e=.returned (.bool (c k))/\J k w')
 (h2:∀k W,k<=1024->J k W->Calls Tryz.prog gg lb W λe w'=>e=.returned (.tuple #[])/\J (k+1) w'):
 Calls Tryz.prog 44 #[.int .i64 (d:Int),.func (.func gf) #[] la,.func (.func gg) #[] lb] w λe w'=>e=.returned (.tuple #[.int .i64 (((xc c d).getD 0:Nat):Int),.int .i64 (if xc c d=none then 3 else 0)])/\∃k,J k w':=by
 obtain⟨R,hR⟩:=aB (xc c d);have uv:zD c d (1026-0) 0=R:=hR;have hst:∀k,k<=1025->zD c d (1026-k) k=if 1024<d*k then none else if c k then some (d*k)else zD c d (1026-(k+1)) (k+1):=λk hk=>by rw[show 1026-k=(1026-(k+1))+1 by omega];rfl
 rw[hR];obtain⟨H0,H1,H2,Ag,cn,kD,Heh⟩:=iL h0 h1 h2 uv hst eg eh;clear h0 h1 h2 hR uv hst eg eh;go_enter Tryz.func44,Tryz.ntmps44;go_wp2;go_step3
 go_wp2;go_step3
 go_wp2;go_loopw[8] (λx wr=>∃k:Nat,k<=1025/\d*k<=1024+d/\x=.int .i64 ((d*k:Nat):Int)/\zD c d (1026-k) k=R/\J k wr) (λx _=>3000-(intOf x).toNat);case atStart=>exact⟨0,by omega,by omega,rfl,Ag.out,H0.out⟩
 case round=>
  obtain⟨k,hk,hdk,rfl,hF,hJ⟩:=hrel;have hs:=cn.out k hk;rw[hF]at hs;have hmk:d* (k+1)=d*k+d:=Nat.mul_succ d k;have pN:k<=d*k:=Nat.le_mul_of_pos_left k hd;obtain⟨m,hm⟩:=aB (d*k);rw[hm]at hs hdk hmk pN⊢;obtain⟨HJ,qT⟩:=aI hJ hmk;have lA:=kD.out;have Jt:=Heh.out;clear hJ hF hm hmk;by_cases h1:1024<m
  . rw[if_pos h1]at hs;have h1':(1024:Int)<(m:Int):=by omega
    have Hs:=af hs;clear hs lA Jt;go_wp2;try rw[Exit.noGoto_ret]
    exact bodyPost_ret (v:=.tuple #[.int .i64 0,.int .i64 3]) (by simp[results,Tryz.results44,go_sem]) rfl ⟨by rw[Hs.out];rfl,k,HJ.out⟩
  . rw[if_neg h1]at hs;have h1':¬(1024:Int)<(m:Int):=by omega
    have hk2:k<=1024:=by omega
    obtain⟨t,ht⟩:=aB (c k);have hc1:=H1.out k wr hk2 HJ.out;rw[ht]at hs hc1;obtain⟨Hs,Hc1⟩:=aI hs hc1;clear hs hc1 ht;go_wp2_with fail;refine Hc1.out.mono ?_;rintro e w2 ⟨rfl,hJ2⟩;replace HJ:=af hJ2;clear hJ2;cases t with
    | true=>
      have hs:=Hs.out;rw[if_pos rfl]at hs;replace Hs:=af hs;clear hs lA Jt;go_wp2;try rw[Exit.noGoto_ret]
      exact bodyPost_ret (v:=.tuple #[.int .i64 (m:Int),.int .i64 0]) (by simp[results,Tryz.results44,go_sem]) rfl ⟨by rw[Hs.out];rfl,k,HJ.out⟩
    | false=>
      have hs:=Hs.out;rw[if_neg zd]at hs;have hc2:=H2.out k w2 hk2 HJ.out;have tV:=af hc2;replace Hs:=af hs;have hwr:IntKind.i64.wrap ((m:Int)+(d:Int))=((m+d:Nat):Int):=by rw[IntKind.wrap_i64];omega
      clear hs hc2 lA;go_wp2_with fail;refine tV.out.mono ?_;rintro e w3 ⟨rfl,hJ3⟩;have HJ3:=af hJ3;clear hJ3 Jt;go_wp2;go_roundw;case rel=>exact⟨k+1,by omega,by rw[qT.out];omega,by rw[qT.out];simp,Hs.out.symm,HJ3.out⟩
      case measure=>simp[intOf];omega
def kX (n:Int):Int:=if n<0\/1024<n then 0 else rN n.toNat
theorem CV (n:Int)(w:World):Calls Tryz.prog 11 #[.int .i64 n] w λe w'=>e=.returned (bZ (kX n))/\Bw w w':=by
 by_cases h:n<0\/1024<n
 . have e0:bZ (kX n)=.agg #[.bool false,.string ⟨#[]⟩]:=by unfold kX;rw[if_pos h];rfl
   rw[e0];by_cases h1:n<0
   . clear e0 h;obtain⟨W,bY,Hb,Hr⟩:=gh w 32 [.bool false,.string ⟨#[]⟩];obtain⟨r0,ag,r1,ah⟩:=Hr.out.g2;go_enter Tryz.func11,Tryz.ntmps11;go_wp2;clear r0 ag r1 ah;refine dw (aW W (w.heap.size) 0 [.bool false,.string ⟨#[]⟩]) bi ?_;intro w9 hs;replace Hr:=bF Hr hs;obtain⟨r0,ag,r1,ah⟩:=Hr.out.g2;replace Hb:=bS Hb hs ZS;clear hs;refine bodyPost_ret (v:=.agg #[.bool false,.string ⟨#[]⟩]) (by simp[results,Tryz.results11,go_sem,r0,r1]) rfl ⟨rfl,Hb.out⟩
   . have h2:1024<n:=by omega
     clear e0 h;obtain⟨W,bY,Hb,Hr⟩:=gh w 32 [.bool false,.string ⟨#[]⟩];obtain⟨r0,ag,r1,ah⟩:=Hr.out.g2;go_enter Tryz.func11,Tryz.ntmps11;go_wp2;clear r0 ag r1 ah;refine dw (aW W (w.heap.size) 0 [.bool false,.string ⟨#[]⟩]) bi ?_;intro w9 hs;replace Hr:=bF Hr hs;obtain⟨r0,ag,r1,ah⟩:=Hr.out.g2;replace Hb:=bS Hb hs ZS;clear hs;refine bodyPost_ret (v:=.agg #[.bool false,.string ⟨#[]⟩]) (by simp[results,Tryz.results11,go_sem,r0,r1]) rfl ⟨rfl,Hb.out⟩
 . obtain⟨N,rfl⟩:∃N:Nat,n=N:=⟨n.toNat,by omega⟩;have hN:N<=1024:=by omega
   have hv:kX (N:Int)=rN N:=by unfold kX;rw[if_neg h];rfl
   rw[hv];obtain⟨P,hP⟩:∃P:Int,(2:Int)^(N+1)=P:=⟨_,rfl⟩;have hV:rN N=P-1:=by unfold rN;rw[hP]
   have hlen:(nt P.natAbs).length<=34359738368:=by
    have h1:P.natAbs<2^(N+2):=by rw[<-hP,Int.natAbs_pow];exact Nat.pow_lt_pow_right zd zo
    exact Nat.le_trans (gT (N:=200) h1 zo) zd
   have hsh:∀W,Calls Tryz.prog 38 #[.agg #[.bool (ai 1),.string (bs (nt 1))],.int .i64 ((N:Int)+1)] W λe w'=>e=.returned (bZ P)/\Bw W w':=λW=>by have h:=Ix (ai 1) (nt 1) (N+1) W zd zo;rw[show iv (ai 1) (nt 1)=1 from dz 1,Int.one_mul,hP]at h;exact h
   have hsu:∀W,Calls Tryz.prog 37 #[.agg #[.bool (ai P),.string (bs (nt P.natAbs))],.agg #[.bool (ai 1),.string (bs (nt 1))]] W λe w'=>e=.returned (bZ (P-1))/\Bw W w':=λW=>by have h:=Iy (ai P) (nt P.natAbs) (ai 1) (nt 1) W hlen zd;rw[dz,show iv (ai 1) (nt 1)=1 from dz 1]at h;exact h
   rw[hV];obtain⟨Q,hQ⟩:=aB (P-1);rw[hQ]at hsu⊢;obtain⟨Kf,Hsu⟩:=aI hsh hsu;have h1:¬(N:Int)<0:=by omega
   have h2:¬(1024:Int)<(N:Int):=by omega
   have hwr:IntKind.i64.wrap ((N:Int)+1)=(N:Int)+1:=by rw[IntKind.wrap_i64];omega
   clear hsh hsu hP hV hlen hv h hQ;obtain⟨W,bY,Hb,Hr⟩:=gh w 32 [.bool false,.string ⟨#[]⟩];obtain⟨r0,ag,r1,ah⟩:=Hr.out.g2;go_enter Tryz.func11,Tryz.ntmps11;go_wp2_with fail;refine(Iw 1 1 rfl _ zd zd).mono ?_;rintro e w1 ⟨rfl,ae⟩;clear r0 ag r1 ah;replace Hr:=kB Hr ae;obtain⟨r0,ag,r1,ah⟩:=Hr.out.g2;replace Hb:=ak Hb ae;clear ae;have ov:=Hr.out.lt;obtain⟨W2,lQ,ae,Ho⟩:=cf w1 32 [.bool (ai 1),.string (bs (nt 1))];clear r0 ag r1 ah;replace Hr:=kB Hr ae;obtain⟨r0,ag,r1,ah⟩:=Hr.out.g2;obtain⟨o0,o1⟩:=Ho.out.c2;replace Hb:=ak Hb ae;clear ae;go_wp2_with fail;refine cd (λw'=>w'.cell? ⟨w1.heap.size,0,none⟩=some (.bool (ai 1))/\w'.cell? ⟨w1.heap.size,1,none⟩=some (.string (bs (nt 1)))) (λi=>Nat.blt i 6) [(0,true),(1,true),(2,true),(4,true),(3,false),(5,false),(6,false)] zk zk rfl zk zc ⟨o0,o1⟩ ?_;iterate 4 (refine pT rfl rfl ?_ (by intro w' ⟨q0,q1⟩;go_simp;try with_reducible rfl);try simp only[UU])
   refine aC rfl rfl (λK hK=>?_);go_simp;with_reducible refine(Kf.out _).mono ?_
   rintro e w3 ⟨rfl,hq⟩;have ae:Bw W2 w3:=by first|exact hq|exact aO hq
   clear r0 ag r1 ah o0 o1;replace Hr:=kB Hr ae;replace Ho:=kB Ho ae;obtain⟨r0,ag,r1,ah⟩:=Hr.out.g2;obtain⟨o0,o1⟩:=Ho.out.c2;replace Hb:=ak Hb ae;clear ae;refine hK _ _ (λ_=>⟨o0,o1⟩) ?_;clear hK K;try simp only[UU]
   refine aC rfl rfl (λK hK=>?_);go_simp;with_reducible refine(Hsu.out _).mono ?_
   rintro e w4 ⟨rfl,hq⟩;have ae:Bw w3 w4:=by first|exact hq|exact aO hq
   clear r0 ag r1 ah o0 o1;replace Hr:=kB Hr ae;replace Ho:=kB Ho ae;obtain⟨r0,ag,r1,ah⟩:=Hr.out.g2;obtain⟨o0,o1⟩:=Ho.out.c2;replace Hb:=ak Hb ae;clear ae;refine hK _ _ (λ_=>⟨o0,o1⟩) ?_;clear hK K;try simp only[UU]
   refine aC rfl rfl (λK hK=>?_);go_simp;refine hK _ _ (λh=>absurd h zd) ?_;clear hK K;try simp only[UU]
   clear r0 ag r1 ah o0 o1;refine bJ (aW w4 (w.heap.size) 0 [.bool (ai Q),.string (bs (nt Q.natAbs))]) bi ?_;intro w9 hs;replace Hr:=bF Hr hs;replace Ho:=kS Ho hs zo;obtain⟨r0,ag,r1,ah⟩:=Hr.out.g2;obtain⟨o0,o1⟩:=Ho.out.c2;replace Hb:=bS Hb hs ZS;clear hs;simp only[aV];go_wp2;refine bodyPost_ret (v:=bZ Q) (by simp[results,Tryz.results11,go_sem,r0,r1]) rfl ⟨rfl,?_⟩;(repeat first|exact Hb.out| (refine Below.setCell ?_ (by have:=Hb.out.size;first| (dsimp only;omega) | (show _<=_;omega) | (simp<;>omega)) _) | (refine Below.alloc ?_ zt _) |refine Below.drew ?_)
def ir (ds:List Int):List Value:=ds.map λd=>.int .i64 d
def mr (ds:List Int):Nat->Int
 |0=>ds.getD 0 0
 |k+1=>min (mr ds k) (ds.getD k 0)
theorem ajL (ds:List Int)(k:Nat):mr ds k<0↔ds.getD 0 0<0\/∃i,i<k/\ds.getD i 0<0:=by
 induction k with
 | zero => unfold mr;constructor
           . exact .inl
           . rintro(h|⟨i,hi,_⟩)
             . exact h
             . omega
 | succ k ih=>
   unfold mr;rw[show ∀a b:Int,min a b<0↔a<0\/b<0 from λa b=>by omega,ih];constructor
   . rintro((h|⟨i,hi,h⟩) |h)
     . exact .inl h
     . exact .inr ⟨i,by omega,h⟩
     . exact .inr ⟨k,by omega,h⟩
   . rintro(h|⟨i,hi,h⟩)
     . exact .inl (.inl h)
     . by_cases e:i=k
       . subst e;exact .inr h
       . exact .inl (.inr ⟨i,by omega,h⟩)
theorem NR (ds:List Int)(hk:1<=ds.length):(mr ds ds.length<0)↔∃d∈ds,d<0:=by
 rw[ajL ds _];constructor
 . rintro(h|⟨i,hi,h⟩)
   . refine⟨ds[0],List.getElem_mem _,?_⟩;simpa[show 0<ds.length by omega]using h
   . exact⟨ds[i],List.getElem_mem _,by simpa[hi]using h⟩
 . rintro⟨d,hd,h⟩;obtain⟨i,hi,rfl⟩:=List.mem_iff_getElem.1 hd;exact .inr ⟨i,hi,by simpa[hi]using h⟩
theorem At.ig {w:World}{a:Option Addr}{ds:List Int}(h:At w a (ir ds))(k:Nat)(hk:k<ds.length):∃b o,a=some ⟨b,o,none⟩/\w.cell? ⟨b,o+k,none⟩=some (.int .i64 (ds.getD k 0)):=by
 have hk2:k<(ir ds).length:=by simpa[ir]using hk
 obtain⟨b,o,hab,hcs⟩:=h.get (by intro h0;rw[h0]at hk2;simp at hk2);exact⟨b,o,hab,by rw[hcs k hk2];simp[ir,hk]⟩
theorem YS (a:Option Addr)(n cap:Nat)(ds:List Int)(w:World)(hn:ds.length=n)(h1:1<=n)(hl:n<=1048576)(ha:At w a (ir ds)):
 Calls Tryz.prog 42 #[.slice a n cap] w λe w'=>e=.returned (.int .i64 (mr ds n))/\Bw w w':=by
 obtain⟨b,o,hab,hc0⟩:=ha.ig 0 zo;have hcs:∀W,Bw w W->∀k,k<n->W.cell? ⟨b,o+k,none⟩=some (.int .i64 (ds.getD k 0)):=λW hW k hk=>by obtain⟨b',o',gz,h⟩:=(ha.below hW).ig k zo;rw[hab]at gz;simp only[Option.some.injEq,Addr.mk.injEq,and_true]at gz;obtain⟨rfl,rfl⟩:=gz;exact h
 subst hab;have hst:∀k,mr ds (k+1)=min (mr ds k) (ds.getD k 0):=λk=>rfl;have Fa:mr ds 1=ds.getD 0 0:=by show min (ds.getD 0 0) (ds.getD 0 0)=_;omega
 obtain⟨M,hM⟩:=aB (mr ds);obtain⟨D,hD⟩:∃D:Nat->Int,(λk=>ds.getD k 0)=D:=⟨_,rfl⟩;have BP:∀k,ds.getD k 0=D k:=λk=>by rw[<-hD]
 simp only[BP,hM]at hcs hst Fa hc0;rw[hM];rw[Nat.add_zero]at hc0;obtain⟨DU,cn,H01⟩:=cC hcs hst Fa;have iq:=uP n cap 0 0 (rfl:(some ⟨b,o,none⟩:Option Addr)=_) h1 rfl;rw[Nat.mul_one,Nat.add_zero]at iq;have dY:¬(n:Int)<1:=by omega
 clear hcs hst Fa BP hD hM ha hn;have Hb:Hid (Bw w w):=Below.refl _ _;go_enter Tryz.func42,Tryz.ntmps42;go_wp2_with fail;clear iq hc0;go_loopw[3,4] (λs3 x wr=>∃k:Nat,1<=k/\k<=n/\x=.int .i64 (k:Int)/\s3=.int .i64 (M k)/\Bw w wr) (λ_ x _=>n-(intOf x).toNat);case atStart=>exact⟨1,Nat.le_refl _,h1,rfl,by rw[H01.out],Hb.out⟩
 case round=>
  clear Hb;obtain⟨k,hk1,hk,rfl,rfl,pb⟩:=hrel;by_cases hlt:k<n
  . have hc:=DU.out wr pb k hlt;have bD:=uP n cap k (k:Int) (rfl:(some ⟨b,o,none⟩:Option Addr)=_) hlt rfl;rw[Nat.mul_one]at bD;have Hb:=af pb;clear pb;go_wp2;go_roundw;case rel=>exact⟨k+1,by omega,by omega,by go_num,by rw[cn.out],Hb.out⟩
    case measure=>simp[intOf];omega
  . obtain rfl:k=n:=by omega
    have Hb:=af pb;clear pb;go_wp2;refine bodyPost_ret (results_tmp rfl _ _ _) rfl ⟨rfl,Hb.out⟩
theorem GY (d:Int)(h:d.natAbs<2^64):Sm 128 (Dyadic.ofIntWithPrec d 0):=by have h1:=Sm.raw (x:=(ai d,nt d.natAbs,0)) (B:=64) (by have:=gT (k:=64) (N:=8) h zd;show 8* (nt d.natAbs).length<=64;omega) (by show-((64:Nat):Int)<=0;omega) (by show(0:Int)<=((64:Nat):Int);omega);rwa [ul]at h1
theorem al5 {A B:Nat}{g:Dyadic}{ds:Nat->Dyadic}{t:Nat->Nat}{T:Nat}(hg:Sm A g)(hd:∀i,Sm B (ds i))(ht:∀i,t i<=T)(k:Nat):Sm (A+B+T+1+k) (qo g ds t k):=by
 induction k with
 |zero=>exact Sm.zero _
 |succ k ih=>have h:=Sm.mul (Sm.mul hg (hd k)) ((MN (t k)).mono (show t k+1<=T+1 by have:=ht k;omega));exact Sm.add ih (h.mono (show A+B+(T+1)<=A+B+T+1+k by omega))
def qE (w:World)(top db gb mb pb xb ib L:Nat)(da:Option Addr)(dc:Nat)(ds:List Int)(gs:Bool)(gl:List UInt8)(ge:Int)(ms:Bool)(ml:List UInt8)(me:Int)(bx:List (Raw×Raw))(k:Nat):Prop:=
 aj w db 26 [.slice da L dc]/\aj w gb 39 [.bool gs,.string (bs gl),.int .i64 ge]/\aj w mb 39 [.bool ms,.string (bs ml),.int .i64 me]/\aj w pb 64 [.pointer (some ⟨xb,0,none⟩)]/\At w da (ir ds)/\kG w top xb ib L (jr bx k) (lj (bx.map bA) k)
theorem qE.below {w w':World}{top db gb mb pb xb ib L dc k:Nat}{da:Option Addr}{ds:List Int}{gs:Bool}{gl:List UInt8}{ge:Int}{ms:Bool}{ml:List UInt8}{me:Int}{bx:List (Raw×Raw)}(h:qE w top db gb mb pb xb ib L da dc ds gs gl ge ms ml me bx k)(hb:Bw w w'):qE w' top db gb mb pb xb ib L da dc ds gs gl ge ms ml me bx k:=
 ⟨h.1.below hb,h.2.1.below hb,h.2.2.1.below hb,h.2.2.2.1.below hb,h.2.2.2.2.1.below hb,h.2.2.2.2.2.below hb⟩
theorem agU (top db gb mb pb xb ib L:Nat)(da:Option Addr)(dc:Nat)(ds:List Int)(gs:Bool)(gl:List UInt8)(ge:Int)(ms:Bool)(ml:List UInt8)(me:Int)(bx:List (Raw×Raw))(k B:Nat)(w:World)(hL:bx.length=L)(h1:1<=L)(hl:L<=1000)(hf:gN B bx)(hB:B<=100000)(hk:k<=2000)(hT:az w)
 (hdx:db≠xb/\db≠ib) (hgx:gb≠xb/\gb≠ib) (hmx:mb≠xb/\mb≠ib) (hpx:pb≠xb/\pb≠ib) (lT:∀b o,da=some ⟨b,o,none⟩->b≠xb/\b≠ib) (hJ:qE w top db gb mb pb xb ib L da dc ds gs gl ge ms ml me bx k):
 Calls Tryz.prog 47 #[.pointer (some ⟨pb,0,none⟩)] w λe w'=>e=.returned (.tuple #[])/\qE w' top db gb mb pb xb ib L da dc ds gs gl ge ms ml me bx (k+1)/\Chg (λb=>b=xb\/b=ib) w w':=by
 obtain⟨q1,q2,q3,q4,q5,q6⟩:=hJ;have hs:=YK top xb ib L B k bx w hL h1 hl hf zo zo q6 hT;have hp0:w.cell? ⟨pb,0,none⟩=some (.pointer (some ⟨xb,0,none⟩)):=q4.cell 0;obtain⟨Hs,Q1,Q2,Q3,Q4,Q5,Ak⟩:=iL hs q1 q2 q3 q4 q5 lT;clear hs q1 q2 q3 q4 q5 q6 lT hf hL hT;go_enter Tryz.func47,Tryz.ntmps47;go_wp2_with fail;refine Hs.out.mono ?_;rintro e w1 ⟨rfl,hS,hc⟩;obtain⟨HS,Hc⟩:=aI hS hc;clear hS hc hp0;go_wp2;refine bodyPost_end (v:=.tuple #[]) (by simp[results,Tryz.results47,go_sem]) rfl ⟨rfl,⟨Hc.out.blk Q1.out zo,Hc.out.blk Q2.out zo,Hc.out.blk Q3.out zo,Hc.out.blk Q4.out zo,At.chgS Q5.out Hc.out (λb o e h=>by have:=Ak.out b o e;omega),HS.out⟩,Hc.out⟩
theorem af4 (top db gb mb pb xb ib L:Nat)(da:Option Addr)(dc:Nat)(ds:List Int)(gs:Bool)(gl:List UInt8)(ge:Int)(ms:Bool)(ml:List UInt8)(me:Int)(bx:List (Raw×Raw))(k:Nat)(w:World)(hL:ds.length=L)(hl:L<=1000)(hg:Fit 300 (gs,gl,ge))(hm:Fit 300 (ms,ml,me))(hd:∀d∈ds,0<=d/\d<18446744073709551616/4)(hk:k<=2000)(hT:az w)
 (hJ:qE w top db gb mb pb xb ib L da dc ds gs gl ge ms ml me bx k):
 Calls Tryz.prog 45 #[.pointer (some ⟨db,0,none⟩),.pointer (some ⟨gb,0,none⟩),.pointer (some ⟨pb,0,none⟩),.pointer (some ⟨mb,0,none⟩)] w λe w'=>e=.returned (.bool (decide (aR (qo (ar (gs,gl,ge)) (λi=>Dyadic.ofIntWithPrec (ds.getD i 0) 0) (lj (bx.map bA) k) L-ar (ms,ml,me))<0)))/\Bw w w':=by
 obtain⟨q1,q2,q3,q4,q5,q6⟩:=hJ;obtain⟨sa,sc,s1,s2,s3,s4,s5⟩:=q6;obtain⟨T,Fv⟩:=aB (lj (bx.map bA) k);obtain⟨D,hD⟩:∃D:Nat->Dyadic,(λi=>Dyadic.ofIntWithPrec (ds.getD i 0) 0)=D:=⟨_,rfl⟩;obtain⟨G,hG⟩:=aB (ar (gs,gl,ge));obtain⟨M,hM⟩:=aB (ar (ms,ml,me));have Mb:∀i,T i<=2000:=λi=>by rw[<-Fv];exact Nat.le_trans (Zt _ _ _) hk
 have hdr:∀i,0<=ds.getD i 0/\ds.getD i 0<18446744073709551616/4:=λi=>by
  by_cases h:i<ds.length
  . have e:ds.getD i 0=ds[i]:=by simp[h]
    rw[e];exact hd _ (List.getElem_mem h)
  . have e:ds.getD i 0=0:=by simp[List.getD_eq_getElem?_getD,List.getElem?_eq_none (by omega:ds.length<=i)]
    rw[e];decide
 have LJ:∀i,Dyadic.ofIntWithPrec (ds.getD i 0) 0=D i:=λi=>by rw[<-hD]
 have jV:∀i,Sm 128 (D i):=λi=>by rw[<-LJ];exact GY _ (by have:=hdr i;omega)
 rw[hD,Fv,hM];rw[Fv]at s3;have rE:Sm 300 G:=by rw[<-hG];exact hg.2
 have rG:=hm.2;rw[hM]at rG;have hS:∀i,Sm (300+128+2000+1+i) (qo G D T i):=λi=>al5 rE jV Mb i;have LW:∀i,qo G D T (i+1)=qo G D T i+G*D i*hp (T i):=λi=>rfl;have mN:qo G D T 0=0:=rfl;have hai:=λW (hW:Bw w W) i (hi:i<L)=>(q5.below hW).ig i zo;rw[hG];obtain⟨S,Cb⟩:=aB (qo G D T);rw[Cb]at hS LW mN⊢;obtain⟨c,hc⟩:=aB (aR (S L-M));rw[hc];have HC:=af hc;clear hc;have l1:=q1.lt;have l2:=q2.lt;have l3:=q3.lt;have l4:=q4.lt;have l5:=s1.lt;have l6:=s3.lt;have rC:∀b o,da=some ⟨b,o,none⟩->0<L->b<w.heap.size:=λb o e h0=>by obtain⟨b',o',e',hc⟩:=q5.ig 0 zo;rw[e]at e';simp only[Option.some.injEq,Addr.mk.injEq,and_true]at e';rw[e'.1];exact World.block_lt_of_cell? w _ hc
 obtain⟨Hd,Hg,Hm,Hp,Hx,Hi,HT,HG,HM,HTb,Jo,HDi⟩:=iJ q1 q2 q3 q4 s1 s3 hT hG hM Mb hdr LJ;obtain⟨II,Fg,Fm,HgS,HmS,HS,HSt,IM,Hai,Jl⟩:=uT jV hg hm rE rG hS LW mN hai rC;clear q1 q2 q3 q4 q5 s1 s2 s3 s4 hT hG hM Mb hdr LJ jV hg hm rE rG hS LW mN hai rC Cb hD Fv hd;have Bg:=Hg;have Bm:=Hm;have Bp:=Hp;have Bx:=Hx;have Bi:=Hi;have Hb:Hid (Bw w w):=Below.refl _ _;go_enter Tryz.func45,Tryz.ntmps45;have d0:=Hd.out.c1;obtain⟨g0,g1,g2⟩:=Hg.out.c3;obtain⟨m0,m1,m2⟩:=Hm.out.c3;have p0:=Hp.out.c1;obtain⟨x0,x1⟩:=Hx.out.c2;have apw:=Hd.out.lt;have apI:=Hg.out.lt;have apQ:=Hm.out.lt;have apY:=Hp.out.lt;have aql:=Hx.out.lt;have apK:=Hi.out.lt;obtain⟨W,bY,ae,Hs⟩:=cf w 39 [.bool false,.string ⟨#[]⟩,.int .i64 0];clear d0;replace Hd:=kB Hd ae;clear g0 g1 g2;replace Hg:=kB Hg ae;clear m0 m1 m2;replace Hm:=kB Hm ae;clear p0;replace Hp:=kB Hp ae;clear x0 x1;replace Hx:=kB Hx ae;replace Hi:=kB Hi ae;have d0:=Hd.out.c1;obtain⟨g0,g1,g2⟩:=Hg.out.c3;obtain⟨m0,m1,m2⟩:=Hm.out.c3;have p0:=Hp.out.c1;obtain⟨x0,x1⟩:=Hx.out.c2;obtain⟨s0,aZ,s1,bf,s2,bE⟩:=Hs.out.g3;replace Hb:=ak Hb ae;clear ae;go_wp2_with fail;clear d0 g0 g1 g2 m0 m1 m2 p0 x0 x1 s0 aZ s1 bf s2 bE;first|refine bP (aW W (w.heap.size) 0 [.bool false,.string ⟨#[]⟩,.int .i64 0]) bi ?_|refine bO (aW W (w.heap.size) 0 [.bool false,.string ⟨#[]⟩,.int .i64 0]) bi ?_
 intro W1 hs;replace Hd:=kS Hd hs zo;replace Hg:=kS Hg hs zo;replace Hm:=kS Hm hs zo;replace Hp:=kS Hp hs zo;replace Hx:=kS Hx hs zo;replace Hi:=kS Hi hs zo;replace Hs:=bF Hs hs;have d0:=Hd.out.c1;obtain⟨g0,g1,g2⟩:=Hg.out.c3;obtain⟨m0,m1,m2⟩:=Hm.out.c3;have p0:=Hp.out.c1;obtain⟨x0,x1⟩:=Hx.out.c2;obtain⟨s0,aZ,s1,bf,s2,bE⟩:=Hs.out.g3;replace Hb:=bS Hb hs ZS;clear hs;go_wp2_with fail;clear d0 g0 g1 g2 m0 m1 m2 p0 x0 x1 s0 s1 s2 aZ bf bE;go_loopw[11] (λx wr=>∃j:Nat,j<=L/\x=.int .i64 (j:Int)/\aj wr w.heap.size 39 (cg (canon (S j)))/\Bw w wr) (λx _=>L-(intOf x).toNat);case atStart=>exact⟨0,Nat.zero_le _,rfl,by rw[IM.out];exact Hs.out,Hb.out⟩
 case round=>
  clear Hs Hb Hd Hg Hm Hp Hx Hi;obtain⟨j,hj,rfl,ps,pb⟩:=hrel;by_cases hlt:j<L
  . obtain⟨b,o,hab,hc0⟩:=Hai.out wr pb j hlt;have lb:=Jl.out b o hab zo;subst hab;have bD:=uP L dc j (j:Int) (rfl:(some ⟨b,o,none⟩:Option Addr)=_) hlt rfl;have jZ:=uP L L j (j:Int) (rfl:(some ⟨ib,0,none⟩:Option Addr)=_) hlt rfl;rw[Nat.mul_one]at bD jZ;rw[Nat.zero_add]at jZ;obtain⟨d,hd⟩:=aB (ds.getD j 0);obtain⟨E,hE⟩:=aB (D j);obtain⟨Y,hY⟩:=aB (S j);obtain⟨Z,hZ⟩:=aB (S (j+1));obtain⟨q,hq⟩:=aB (T j);obtain⟨P,hP⟩:=aB (G*E);obtain⟨X,hX⟩:=aB (P*hp q);have hdr:=Jo.out j;have FJ:=HDi.out j;have lO:=II.out j;have jk:=HS.out j;have hst:=HSt.out j;have MU:=HTb.out j;rw[hd]at hdr FJ hc0;rw[hE]at FJ lO hst;rw[hY]at jk hst ps;rw[hZ]at hst;rw[hq]at MU hst;rw[hP,hX]at hst;have yK:Sm 428 P:=by rw[<-hP];exact Sm.mul HgS.out lO
    have eO:Sm 4000 X:=by rw[<-hX];exact(Sm.mul yK (MN q)).mono zo
    have HX:Hid (ar (ai (dN P),nt (dN P).natAbs,dE P+ -(q:Int))=X):=by show _=_;rw[<-hX];exact OG P q
    have HP:Hid (ar (gs,gl,ge) *ar (ai (dN E),nt (dN E).natAbs,dE E)=P):=by show _*ar (canon E)=P;rw[bM,HG.out];exact hP
    have HZ:Hid (ar (ai (dN Y),nt (dN Y).natAbs,dE Y)+ar (ai (dN X),nt (dN X).natAbs,dE X)=Z):=by show ar (canon Y)+ar (canon X)=Z;rw[bM,bM];exact hst.symm
    have FE:Hid (Fit 300 (ai (dN E),nt (dN E).natAbs,dE E)):=(lO.mono zo).fit zo;have FP:Hid (Ok (ai (dN P),nt (dN P).natAbs,dE P)):=(yK.fit zo).1;have FY:Hid (Fit 4000 (ai (dN Y),nt (dN Y).natAbs,dE Y)):=(jk.mono zo).fit zo;have FX:Hid (Fit 4000 (ai (dN X),nt (dN X).natAbs,dE X)):=eO.fit zo;have ht0:wr.cell? ⟨ib,j,none⟩=some (.int .i64 (q:Int)):=by rw[(Bi.out.below pb).cell,List.getElem?_eq_getElem (by rw[OX];exact hlt),Zr,hq]
    have hwr:IntKind.i64.wrap (-(q:Int))= -(q:Int):=by rw[IntKind.wrap_i64];omega
    have Hs:Hid (aj wr w.heap.size 39 [.bool (ai (dN Y)),.string (bs (nt (dN Y).natAbs)),.int .i64 (dE Y)]):=ps;obtain⟨Hg,Hp,Hx⟩:=cC (Bg.out.below pb) (Bp.out.below pb) (Bx.out.below pb);have Ht:Hid (bN wr ib j [.int .i64 (q:Int)]):=λi hi=>by
     obtain rfl:i=0:=by simp at hi;omega
     exact ht0
    obtain⟨HdE,lH,Hb,abq⟩:=cX FJ hZ pb hdr;have lh:=pb.size;clear ps pb FJ lO jk hst yK eO hX hP hZ hY hE hq hd ht0 hdr;obtain⟨s0,aZ,s1,bf,s2,bE⟩:=Hs.out.g3;obtain⟨g0,g1,g2⟩:=Hg.out.c3;have p0:=Hp.out.c1;obtain⟨x0,x1⟩:=Hx.out.c2;have t0:=Ht.out.w1;go_wp2_with fail;clear hc0;refine cd (λw'=>w'.cell? ⟨w.heap.size,0,none⟩=some (.bool (ai (dN Y)))/\w'.cell? ⟨w.heap.size,1,none⟩=some (.string (bs (nt (dN Y).natAbs)))/\w'.cell? ⟨w.heap.size,2,none⟩=some (.int .i64 (dE Y))/\w'.cell? ⟨gb,0,none⟩=some (.bool gs)/\w'.cell? ⟨gb,1,none⟩=some (.string (bs gl))/\w'.cell? ⟨gb,2,none⟩=some (.int .i64 ge)/\w'.cell? ⟨pb,0,none⟩=some (.pointer (some ⟨xb,0,none⟩))/\w'.cell? ⟨xb,0,none⟩=some (.slice sa L sc)/\w'.cell? ⟨xb,1,none⟩=some (.slice (some ⟨ib,0,none⟩) L L)/\w'.cell? ⟨ib,j,none⟩=some (.int .i64 (q:Int))) (λi=>Nat.blt i 17) [(0,true),(1,true),(2,true),(6,true),(7,true),(8,true),(9,true),(10,true),(11,true),(12,true),(13,true),(3,false),(4,false),(5,false),(14,false),(15,false),(16,false),(17,false)] zk zk rfl zk zc ⟨s0,s1,s2,g0,g1,g2,p0,x0,x1,t0⟩ ?_;iterate 11 (refine pT rfl rfl ?_ (by intro w' ⟨q0,q1,q2,q3,q4,q5,q6,q7,q8,q9⟩;go_simp;try with_reducible rfl);try simp only[UU])
    refine aC rfl rfl (λK hK=>?_);go_simp;with_reducible refine(rf d E HdE.out _ (by have:=abq.out;omega) (by first|exact(HT.out.below Hb.out) |exact az.drew (HT.out.below Hb.out) |exact az.alloc (HT.out.below Hb.out) _|exact az.drew (az.alloc (HT.out.below Hb.out) _) |exact az.alloc (az.drew (HT.out.below Hb.out)) _)).mono ?_
    rintro e w5 ⟨rfl,hq⟩;have ae:Bw wr w5:=by first|exact hq|exact aO hq
    clear s0 aZ s1 bf s2 bE g0 g1 g2 p0 x0 x1 t0;replace Hs:=kB Hs ae;replace Hg:=kB Hg ae;replace Hp:=kB Hp ae;replace Hx:=kB Hx ae;replace Ht:=kW Ht ae;obtain⟨s0,aZ,s1,bf,s2,bE⟩:=Hs.out.g3;obtain⟨g0,g1,g2⟩:=Hg.out.c3;have p0:=Hp.out.c1;obtain⟨x0,x1⟩:=Hx.out.c2;have t0:=Ht.out.w1;replace Hb:=ak Hb ae;clear ae;refine hK _ _ (λ_=>⟨s0,s1,s2,g0,g1,g2,p0,x0,x1,t0⟩) ?_;clear hK K;try simp only[UU]
    refine aC rfl rfl (λK hK=>?_);go_simp;refine hK _ _ (λ_=>⟨aJ s0,aJ s1,aJ s2,aJ g0,aJ g1,aJ g2,aJ p0,aJ x0,aJ x1,aJ t0⟩) ?_;clear hK K;try simp only[UU]
    refine bJ (λW6=>aj W6 (w5.heap.size) 39 [.bool gs,.string (bs gl),.int .i64 ge,.bool (ai (dN E)),.string (bs (nt (dN E).natAbs)),.int .i64 (dE E)]/\Bw w5 W6) (by first|exact cZ|exact df) ?_;rintro W6 ⟨qv,ae⟩;clear s0 aZ s1 bf s2 bE g0 g1 g2 p0 x0 x1 t0;have aqd:=Hs.out.lt;have Xh:=Hg.out.lt;have ap1:=Hp.out.lt;have ajw:=Hx.out.lt;replace Hs:=kB Hs ae;replace Hg:=kB Hg ae;replace Hp:=kB Hp ae;replace Hx:=kB Hx ae;replace Ht:=kW Ht ae;have Hv:=af qv;clear qv;obtain⟨s0,aZ,s1,bf,s2,bE⟩:=Hs.out.g3;obtain⟨g0,g1,g2⟩:=Hg.out.c3;have p0:=Hp.out.c1;obtain⟨x0,x1⟩:=Hx.out.c2;have t0:=Ht.out.w1;obtain⟨v0,v1,v2,v3,v4,v5⟩:=Hv.out.c6;replace Hb:=ak Hb ae;clear ae;refine aC rfl rfl (λK hK=>?_);go_simp;with_reducible refine(pj gs gl ge _ _ _ P 300 HP.out w5.heap.size 2 39 _ Fg.out FE.out zo Hv.out (by first|exact(HT.out.below Hb.out) |exact az.drew (HT.out.below Hb.out) |exact az.alloc (HT.out.below Hb.out) _|exact az.drew (az.alloc (HT.out.below Hb.out) _) |exact az.alloc (az.drew (HT.out.below Hb.out)) _)).mono ?_
    rintro e w7 ⟨rfl,hq⟩;have ae:Bw W6 w7:=by first|exact hq|exact aO hq
    clear s0 aZ s1 bf s2 bE g0 g1 g2 p0 x0 x1 t0 v0 v1 v2 v3 v4 v5;replace Hs:=kB Hs ae;replace Hg:=kB Hg ae;replace Hp:=kB Hp ae;replace Hx:=kB Hx ae;replace Ht:=kW Ht ae;replace Hv:=kB Hv ae;obtain⟨s0,aZ,s1,bf,s2,bE⟩:=Hs.out.g3;obtain⟨g0,g1,g2⟩:=Hg.out.c3;have p0:=Hp.out.c1;obtain⟨x0,x1⟩:=Hx.out.c2;have t0:=Ht.out.w1;obtain⟨v0,v1,v2,v3,v4,v5⟩:=Hv.out.c6;replace Hb:=ak Hb ae;clear ae;refine hK _ _ (λ_=>⟨s0,s1,s2,g0,g1,g2,p0,x0,x1,t0⟩) ?_;clear hK K;try simp only[UU]
    refine aC rfl rfl (λK hK=>?_);go_simp;with_reducible refine(Ib _ _ _ (-(q:Int)) X HX.out _ FP.out zo (by first|exact(HT.out.below Hb.out) |exact az.drew (HT.out.below Hb.out) |exact az.alloc (HT.out.below Hb.out) _|exact az.drew (az.alloc (HT.out.below Hb.out) _) |exact az.alloc (az.drew (HT.out.below Hb.out)) _)).mono ?_
    rintro e w8 ⟨rfl,hq⟩;have ae:Bw w7 w8:=by first|exact hq|exact aO hq
    clear s0 aZ s1 bf s2 bE g0 g1 g2 p0 x0 x1 t0 v0 v1 v2 v3 v4 v5;replace Hs:=kB Hs ae;replace Hg:=kB Hg ae;replace Hp:=kB Hp ae;replace Hx:=kB Hx ae;replace Ht:=kW Ht ae;replace Hv:=kB Hv ae;obtain⟨s0,aZ,s1,bf,s2,bE⟩:=Hs.out.g3;obtain⟨g0,g1,g2⟩:=Hg.out.c3;have p0:=Hp.out.c1;obtain⟨x0,x1⟩:=Hx.out.c2;have t0:=Ht.out.w1;obtain⟨v0,v1,v2,v3,v4,v5⟩:=Hv.out.c6;replace Hb:=ak Hb ae;clear ae;refine hK _ _ (λ_=>⟨s0,s1,s2,g0,g1,g2,p0,x0,x1,t0⟩) ?_;clear hK K;try simp only[UU]
    refine aC rfl rfl (λK hK=>?_);go_simp;refine hK _ _ (λ_=>⟨aJ s0,aJ s1,aJ s2,aJ g0,aJ g1,aJ g2,aJ p0,aJ x0,aJ x1,aJ t0⟩) ?_;clear hK K;try simp only[UU]
    refine bJ (λW9=>aj W9 (w8.heap.size) 39 [.bool (ai (dN Y)),.string (bs (nt (dN Y).natAbs)),.int .i64 (dE Y),.bool (ai (dN X)),.string (bs (nt (dN X).natAbs)),.int .i64 (dE X)]/\Bw w8 W9) (by first|exact cZ|exact df) ?_;rintro W9 ⟨qu,ae⟩;clear s0 aZ s1 bf s2 bE g0 g1 g2 p0 x0 x1 t0 v0 v1 v2 v3 v4 v5;have ajr:=Hs.out.lt;have NN:=Hg.out.lt;have ap2:=Hp.out.lt;have ajx:=Hx.out.lt;have aqk:=Hv.out.lt;replace Hs:=kB Hs ae;replace Hg:=kB Hg ae;replace Hp:=kB Hp ae;replace Hx:=kB Hx ae;replace Ht:=kW Ht ae;replace Hv:=kB Hv ae;have Hu:=af qu;clear qu;obtain⟨s0,aZ,s1,bf,s2,bE⟩:=Hs.out.g3;obtain⟨g0,g1,g2⟩:=Hg.out.c3;have p0:=Hp.out.c1;obtain⟨x0,x1⟩:=Hx.out.c2;have t0:=Ht.out.w1;obtain⟨v0,v1,v2,v3,v4,v5⟩:=Hv.out.c6;obtain⟨u0,u1,u2,u3,u4,u5⟩:=Hu.out.c6;replace Hb:=ak Hb ae;clear ae;refine aC rfl rfl (λK hK=>?_);go_simp;with_reducible refine(yz _ _ _ _ _ _ Z 4000 HZ.out w8.heap.size 2 39 _ FY.out FX.out zo Hu.out (by first|exact(HT.out.below Hb.out) |exact az.drew (HT.out.below Hb.out) |exact az.alloc (HT.out.below Hb.out) _|exact az.drew (az.alloc (HT.out.below Hb.out) _) |exact az.alloc (az.drew (HT.out.below Hb.out)) _)).mono ?_
    rintro e cN ⟨rfl,hq⟩;have ae:Bw W9 cN:=by first|exact hq|exact aO hq
    clear s0 aZ s1 bf s2 bE g0 g1 g2 p0 x0 x1 t0 v0 v1 v2 v3 v4 v5 u0 u1 u2 u3 u4 u5;replace Hs:=kB Hs ae;replace Hg:=kB Hg ae;replace Hp:=kB Hp ae;replace Hx:=kB Hx ae;replace Ht:=kW Ht ae;replace Hv:=kB Hv ae;replace Hu:=kB Hu ae;obtain⟨s0,aZ,s1,bf,s2,bE⟩:=Hs.out.g3;obtain⟨g0,g1,g2⟩:=Hg.out.c3;have p0:=Hp.out.c1;obtain⟨x0,x1⟩:=Hx.out.c2;have t0:=Ht.out.w1;obtain⟨v0,v1,v2,v3,v4,v5⟩:=Hv.out.c6;obtain⟨u0,u1,u2,u3,u4,u5⟩:=Hu.out.c6;replace Hb:=ak Hb ae;clear ae;refine hK _ _ (λ_=>⟨s0,s1,s2,g0,g1,g2,p0,x0,x1,t0⟩) ?_;clear hK K;try simp only[UU]
    refine aC rfl rfl (λK hK=>?_);go_simp;refine hK _ _ (λh=>absurd h zd) ?_;clear hK K;try simp only[UU]
    clear s0 aZ s1 bf s2 bE g0 g1 g2 p0 x0 x1 t0 v0 v1 v2 v3 v4 v5 u0 u1 u2 u3 u4 u5;refine bJ (aW cN (w.heap.size) 0 [.bool (ai (dN Z)),.string (bs (nt (dN Z).natAbs)),.int .i64 (dE Z)]) bi ?_;intro il hs;replace Hs:=bF Hs hs;replace Hg:=kS Hg hs zo;replace Hp:=kS Hp hs zo;replace Hx:=kS Hx hs zo;replace Ht:=kSx Ht hs zo;replace Hv:=kS Hv hs zo;replace Hu:=kS Hu hs zo;obtain⟨s0,aZ,s1,bf,s2,bE⟩:=Hs.out.g3;obtain⟨g0,g1,g2⟩:=Hg.out.c3;have p0:=Hp.out.c1;obtain⟨x0,x1⟩:=Hx.out.c2;have t0:=Ht.out.w1;obtain⟨v0,v1,v2,v3,v4,v5⟩:=Hv.out.c6;obtain⟨u0,u1,u2,u3,u4,u5⟩:=Hu.out.c6;replace Hb:=bS Hb hs ZS;clear hs;simp only[aV];go_wp2;go_roundw;case rel=>exact⟨j+1,by omega,by go_num,by rw[lH.out];exact Hs.out,Hb.out⟩
    case measure=>simp[intOf];omega
  . obtain rfl:j=L:=by omega
    obtain⟨Y,hY⟩:=aB (S j);have jk:=HS.out j;have hc:=HC.out;rw[hY]at jk ps hc;have Hc:Hid (aR (ar (ai (dN Y),nt (dN Y).natAbs,dE Y)-ar (ms,ml,me))=c):=by show aR (ar (canon Y)-_)=c;rw[bM,HM.out];exact hc
    have FY:Hid (Ok (ai (dN Y),nt (dN Y).natAbs,dE Y)):=(jk.fit zo).1;have Hs:Hid (aj wr w.heap.size 39 [.bool (ai (dN Y)),.string (bs (nt (dN Y).natAbs)),.int .i64 (dE Y)]):=ps;obtain⟨Hm,Hb⟩:=aI (Bm.out.below pb) pb;clear ps pb jk hc hY;obtain⟨s0,s1,s2⟩:=Hs.out.c3;obtain⟨m0,m1,m2⟩:=Hm.out.c3;go_wp2_with fail;refine(sH _ _ _ _ _ _ c Hc.out _ FY.out Fm.out.1 (HT.out.below Hb.out)).mono ?_;rintro e w5 ⟨rfl,ae⟩;clear s0 s1 s2 m0 m1 m2;replace Hs:=kB Hs ae;replace Hm:=kB Hm ae;obtain⟨s0,s1,s2⟩:=Hs.out.c3;obtain⟨m0,m1,m2⟩:=Hm.out.c3;replace Hb:=ak Hb ae;clear ae;go_wp2;refine bodyPost_ret (results_tmp rfl _ _ _) rfl ⟨rfl,Hb.out⟩
def uR (ds:List Int):Nat->Dyadic:=λi=>Dyadic.ofIntWithPrec (ds.getD i 0) 0
def Dz (ds:List Int)(L:Nat)(G M:Dyadic):Prop:=ds.length=L/\(∀d∈ds,0<=d)/\0<=aR G/\0<aR M
instance (ds :List Int) (L:Nat) (G M:Dyadic):Decidable (Dz ds L G M):=by unfold Dz;infer_instance
theorem aeM (a:Option Addr)(L cap B:Nat)(bx:List (Raw×Raw))(da:Option Addr)(dc:Nat)(ds:List Int)(gs:Bool)(gl:List UInt8)(ge:Int)(ms:Bool)(ml:List UInt8)(me:Int)(w:World)(hL:bx.length=L)(hl:L<=1000)(hf:gN B bx)(hB:B<=90000)(ha:At w a (bx.flatMap bg))(rC:At w da (ir ds))(hT:az w)
 (hg:Fit 300 (gs,gl,ge)) (hm:Fit 300 (ms,ml,me)) (hc:gH (bx.map bA)=0) (hok:Dz ds L (ar (gs,gl,ge)) (ar (ms,ml,me))) (hd:∀d∈ds,d<18446744073709551616/4):
 Calls Tryz.prog 17 #[.slice a L cap,.slice da L dc,.agg #[.bool gs,.string (bs gl),.int .i64 ge],.agg #[.bool ms,.string (bs ml),.int .i64 me]] w λe w'=>e=.returned (.tuple #[.int .i64 (((uj (ar (gs,gl,ge)) (ar (ms,ml,me)) (uR ds) (bx.map bA)).getD 0:Nat):Int),.int .i64 (if uj (ar (gs,gl,ge)) (ar (ms,ml,me)) (uR ds) (bx.map bA)=none then 3 else 0)])/\Bw w w':=by
 obtain⟨wE,rD,hg0,hm0⟩:=hok;have h1:1<=L:=by
  have:=(KI hc).1;rw[<-hL];cases bx with
  |nil=>exact absurd rfl this
  |cons x xs=>simp
 have UF:∀b o,da=some ⟨b,o,none⟩->b<w.heap.size:=λb o e=>by obtain⟨b',o',e',hc⟩:=rC.ig 0 zo;rw[e]at e';simp only[Option.some.injEq,Addr.mk.injEq,and_true]at e';rw[e'.1];exact World.block_lt_of_cell? w _ hc
 obtain⟨mn,wO⟩:=aB (mr ds L);have aoK:¬mn<0:=by rw[<-wO,<-wE,NR ds zo];rintro⟨d,h2,h3⟩;have:=rD d h2;omega
 have cW:=λW (hW:Bw w W)=>Ez a L cap B bx W hL zo hf (ha.below hW) (hT.below hW);rw[hc]at cW;have jI:=λW (hW:Bw w W)=>YS da L dc ds W wE h1 zo (rC.below hW);rw[wO]at jI;have pO:=λW=>KE gs gl ge ms ml me W hg.1 hm.1;rw[decide_eq_true (show 0<=aR (ar (gs,gl,ge))/\0<aR (ar (ms,ml,me))from⟨hg0,hm0⟩)]at pO;obtain⟨c,hcc⟩:=aB (aR (ar (gs,gl,ge)-ar (ms,ml,me)));have hcm:=λW (hW:Bw w W)=>sH gs gl ge ms ml me c hcc W hg.1 hm.1 (hT.below hW);have hbg:=λW (hW:Bw w W)=>RO a L cap bx W hL h1 hl (ha.below hW);obtain⟨R,hR⟩:=aB (uj (ar (gs,gl,ge)) (ar (ms,ml,me)) (uR ds) (bx.map bA));have uv:c<0->R=some 0:=λh=>by rw[<-hR];unfold uj;rw[if_pos (by rw[hcc];exact h)]
 have BZ:0<=c->xc (λk=>decide (aR (qo (ar (gs,gl,ge)) (uR ds) (lj (bx.map bA) k) L-ar (ms,ml,me))<0)) 1=R:=λh=>by rw[<-hR];unfold uj;rw[if_neg (by rw[hcc];omega),List.length_map,hL]
 have wF:∀d∈ds,0<=d/\d<18446744073709551616/4:=λd h=>⟨rD d h,hd d h⟩;have TC:=λtop db gb mb pb xb ib k W (hk:k<=2000) (hT:az W) (hJ:qE W top db gb mb pb xb ib L da dc ds gs gl ge ms ml me bx k)=>af4 top db gb mb pb xb ib L da dc ds gs gl ge ms ml me bx k W wE hl hg hm wF hk hT hJ;have hJ2:=λtop db gb mb pb xb ib k W (hk:k<=2000) (hT:az W) h2 h3 h4 h5 h6 (hJ:qE W top db gb mb pb xb ib L da dc ds gs gl ge ms ml me bx k)=>agU top db gb mb pb xb ib L da dc ds gs gl ge ms ml me bx k B W hL h1 hl hf zo hk hT h2 h3 h4 h5 h6 hJ;rw[hR];obtain⟨nv,kd⟩:∃nv:Int,((R.getD 0:Nat):Int)=nv:=⟨_,rfl⟩;obtain⟨er,her⟩:∃er:Int,(if R=none then 3 else 0)=er:=⟨_,rfl⟩;rw[kd,her];obtain⟨vL,Ax⟩:=aI kd her;clear kd her;obtain⟨fH,JM,AJ,Av,Ja,Ag,IL,HJ1,HJ2,HT,Jl,Hdb⟩:=iJ cW jI pO hcm hbg uv BZ TC hJ2 hT rC UF;have hLL:((L:Int) !=(L:Int))=false:=by simp
 clear cW jI pO hcm hbg uv BZ TC hJ2 hT rC UF wF hR hcc wO hc hg hm hg0 hm0 rD hd wE hf ha hL;obtain⟨W,bY,Hb,Hd,Hg,Hm⟩:=pU w 26 [.slice da L dc] 39 [.bool gs,.string (bs gl),.int .i64 ge] 39 [.bool ms,.string (bs ml),.int .i64 me];have d0:=Hd.out.c1;obtain⟨g0,g1,g2⟩:=Hg.out.c3;obtain⟨m0,m1,m2⟩:=Hm.out.c3;go_enter Tryz.func17,Tryz.ntmps17;go_wp2_with fail;refine(fH.out _ Hb.out).mono ?_;rintro e w1 ⟨rfl,ae⟩;clear d0 g0 g1 g2 m0 m1 m2;replace Hd:=kB Hd ae;replace Hg:=kB Hg ae;replace Hm:=kB Hm ae;have d0:=Hd.out.c1;obtain⟨g0,g1,g2⟩:=Hg.out.c3;obtain⟨m0,m1,m2⟩:=Hm.out.c3;replace Hb:=ak Hb ae;clear ae;go_wp2_with fail;refine(JM.out _ Hb.out).mono ?_;rintro e w2 ⟨rfl,ae⟩;clear d0 g0 g1 g2 m0 m1 m2;replace Hd:=kB Hd ae;replace Hg:=kB Hg ae;replace Hm:=kB Hm ae;have d0:=Hd.out.c1;obtain⟨g0,g1,g2⟩:=Hg.out.c3;obtain⟨m0,m1,m2⟩:=Hm.out.c3;replace Hb:=ak Hb ae;clear ae;go_wp2_with fail;refine(AJ.out _).mono ?_;rintro e w3 ⟨rfl,ae⟩;clear d0 g0 g1 g2 m0 m1 m2;replace Hd:=kB Hd ae;replace Hg:=kB Hg ae;replace Hm:=kB Hm ae;have d0:=Hd.out.c1;obtain⟨g0,g1,g2⟩:=Hg.out.c3;obtain⟨m0,m1,m2⟩:=Hm.out.c3;replace Hb:=ak Hb ae;clear ae;go_wp2_with fail;refine(Av.out _ Hb.out).mono ?_;rintro e w4 ⟨rfl,ae⟩;clear d0 g0 g1 g2 m0 m1 m2;replace Hd:=kB Hd ae;replace Hg:=kB Hg ae;replace Hm:=kB Hm ae;have d0:=Hd.out.c1;obtain⟨g0,g1,g2⟩:=Hg.out.c3;obtain⟨m0,m1,m2⟩:=Hm.out.c3;replace Hb:=ak Hb ae;clear ae;by_cases hc0:c<0
 . have hR:=Ag.out hc0;subst hR;go_wp2;exact bodyPost_ret (v:=.tuple #[.int .i64 0,.int .i64 0]) (by simp[results,Tryz.results17,go_sem]) rfl ⟨by rw[<-vL.out,<-Ax.out];rfl,Hb.out⟩
 . have hR:=IL.out zo;have vG:=af hR;clear hR;have hz4:=Hb.out.size;have ld:=Hd.out.lt;have lg:=Hg.out.lt;have lm:=Hm.out.lt;go_wp2_with fail;refine(Ja.out _ Hb.out).mono ?_;rintro e w5 ⟨xb,ib,rfl,hx1,hi1,hx2,hi2,hS,ae⟩;clear d0 g0 g1 g2 m0 m1 m2;replace Hd:=kB Hd ae;replace Hg:=kB Hg ae;replace Hm:=kB Hm ae;have d0:=Hd.out.c1;obtain⟨g0,g1,g2⟩:=Hg.out.c3;obtain⟨m0,m1,m2⟩:=Hm.out.c3;replace Hb:=ak Hb ae;clear ae;have hz5:=Hb.out.size;have HS:Hid (kG w5 w4.heap.size xb ib L bx (fun _=>0)):=hS;clear hS;have apz:=Hd.out.lt;have Xh:=Hg.out.lt;have ajl:=Hm.out.lt;obtain⟨W6,nX,ae,Hp⟩:=cf w5 64 [.pointer (some ⟨xb,0,none⟩)];clear d0;replace Hd:=kB Hd ae;clear g0 g1 g2;replace Hg:=kB Hg ae;clear m0 m1 m2;replace Hm:=kB Hm ae;replace HS:=af (HS.out.below ae);have d0:=Hd.out.c1;obtain⟨g0,g1,g2⟩:=Hg.out.c3;obtain⟨m0,m1,m2⟩:=Hm.out.c3;have p0:=Hp.out.c1;replace Hb:=ak Hb ae;clear ae;have BR:qE W6 w4.heap.size w.heap.size (w.heap.size+1) (w.heap.size+1+1) w5.heap.size xb ib L da dc ds gs gl ge ms ml me bx 0:=⟨Hd.out,Hg.out,Hm.out,Hp.out,Jl.out.below Hb.out,HS.out⟩;have wK:=WO 1 45 47 #[.pointer (some ⟨w.heap.size,0,none⟩),.pointer (some ⟨w.heap.size+1,0,none⟩),.pointer (some ⟨w5.heap.size,0,none⟩),.pointer (some ⟨w.heap.size+1+1,0,none⟩)] #[.pointer (some ⟨w5.heap.size,0,none⟩)] (fun k=>decide (aR (qo (ar (gs,gl,ge)) (uR ds) (lj (bx.map bA) k) L-ar (ms,ml,me))<0)) (fun k W=>qE W w4.heap.size w.heap.size (w.heap.size+1) (w.heap.size+1+1) w5.heap.size xb ib L da dc ds gs gl ge ms ml me bx k/\Bw w W) W6 zd zd
    (enters_of Tryz.func45 zk rfl) (enters_of Tryz.func47 zk rfl) ⟨BR,Hb.out⟩
    (λk V hk hJ=>((HJ1.out _ _ _ _ _ _ _ k V zo (HT.out.below hJ.2) hJ.1).mono (λe V' h=>⟨h.1,hJ.1.below h.2,aH hJ.2 h.2⟩)))
    (λk V hk hJ=>((HJ2.out _ _ _ _ _ _ _ k V zo (HT.out.below hJ.2) zo zo zo zo (λb o e=>by have:=Hdb.out b o e;omega) hJ.1).mono (λe V' h=>⟨h.1,h.2.1,hJ.2.trans (h.2.2.below hJ.2.size (λb h=>by omega))⟩)))
   rw[vG.out,vL.out,Ax.out]at wK;have xV:=af wK;clear wK BR;go_wp2_with fail;refine xV.out.mono ?_;rintro e w7 ⟨rfl,_,_,ae⟩;replace Hb:=af ae;clear ae;go_wp2;exact bodyPost_ret (v:=.tuple #[.int .i64 nv,.int .i64 er]) (by simp[results,Tryz.results17,go_sem]) rfl ⟨rfl,Hb.out⟩
def rc (c:Int)(ds:List Int)(L:Nat)(G M:Dyadic):Int:=if c=1\/¬Dz ds L G M then 1 else c
theorem RX (a:Option Addr)(L cap B:Nat)(bx:List (Raw×Raw))(da:Option Addr)(n dc:Nat)(ds:List Int)(gs:Bool)(gl:List UInt8)(ge:Int)(ms:Bool)(ml:List UInt8)(me:Int)(w:World)(hL:bx.length=L)(hl:L<=1000)(hf:gN B bx)(ha:At w a (bx.flatMap bg))(hn:ds.length=n)(rC:At w da (ir ds))(hT:az w)
 (hg:Ok (gs,gl,ge)) (hm:Ok (ms,ml,me)) (he:rc (gH (bx.map bA)) ds L (ar (gs,gl,ge)) (ar (ms,ml,me))≠0):
 Calls Tryz.prog 17 #[.slice a L cap,.slice da n dc,.agg #[.bool gs,.string (bs gl),.int .i64 ge],.agg #[.bool ms,.string (bs ml),.int .i64 me]] w λe w'=>e=.returned (.tuple #[.int .i64 0,.int .i64 (rc (gH (bx.map bA)) ds L (ar (gs,gl,ge)) (ar (ms,ml,me)))])/\Bw w w':=by
 obtain⟨c,hc⟩:=aB (gH (bx.map bA));have cW:=λW (hW:Bw w W)=>Ez a L cap B bx W hL zo hf (ha.below hW) (hT.below hW);simp only[hc]at cW;have h1:c≠1->1<=L:=λh=>by
  rw[<-hL];cases bx with
  |nil=>exact absurd hc.symm h
  |cons x xs=>simp
 rw[hc]at he⊢;have pO:=λW=>KE gs gl ge ms ml me W hg hm;obtain⟨u,hu⟩:=aB (decide (0<=aR (ar (gs,gl,ge))/\0<aR (ar (ms,ml,me))));simp only[hu]at pO;obtain⟨E,hE⟩:=aB (rc c ds L (ar (gs,gl,ge)) (ar (ms,ml,me)));rw[hE]at he⊢;have e1:c=1->E=1:=λh=>by rw[<-hE];unfold rc;rw[if_pos (.inl h)]
 have e2:n≠L->E=1:=λh=>by rw[<-hE];unfold rc;rw[if_pos (.inr (λh2=>h (by rw[<-hn];exact h2.1)))]
 have e3:1<=n->mr ds n<0->E=1:=λh0 h=>by rw[<-hn]at h h0;obtain⟨d,h2,h3⟩:=(NR ds h0).1 h;rw[<-hE];unfold rc;rw[if_pos (.inr (λh4=>by have:=h4.2.1 d h2;omega))]
 have e4:u=false->E=1:=λh=>by rw[<-hE];unfold rc;rw[if_pos (.inr (λh4=>by rw[decide_eq_true h4.2.2]at hu;rw[<-hu]at h;cases h))]
 have e5:c≠1->n=L->1<=n->¬mr ds n<0->u=true->E=c:=λh1 h2 h3 h4 h5=>by
  rw[<-hE];unfold rc;rw[if_neg];rintro(h|h)
  . exact h1 h
  . refine h ⟨by omega,λd hd=>?_,?_⟩
    . rw[<-hn]at h3 h4;by_cases h6:d<0
      . exact absurd ((NR ds h3).2 ⟨d,hd,h6⟩) h4
      . omega
    . rw[h5]at hu;exact of_decide_eq_true hu
 have jI:=λW (hW:Bw w W) (h:1<=n) (hl:n<=1048576)=>YS da n dc ds W hn h hl (rC.below hW);obtain⟨mn,wO⟩:=aB (mr ds n);rw[wO]at e3 e5;simp only[wO]at jI;obtain⟨fH,AJ,JM,E1,E2,E3,E4,E5,JI,He⟩:=uT cW pO jI e1 e2 e3 e4 e5 h1 he;clear cW pO jI e1 e2 e3 e4 e5 h1 he hE hu wO hc rC ha hT hg hm hf hL hn;obtain⟨W,bY,Hb,Hd,Hg,Hm⟩:=pU w 26 [.slice da n dc] 39 [.bool gs,.string (bs gl),.int .i64 ge] 39 [.bool ms,.string (bs ml),.int .i64 me];have d0:=Hd.out.c1;obtain⟨g0,g1,g2⟩:=Hg.out.c3;obtain⟨m0,m1,m2⟩:=Hm.out.c3;go_enter Tryz.func17,Tryz.ntmps17;go_wp2_with fail;refine(fH.out _ Hb.out).mono ?_;rintro e w1 ⟨rfl,ae⟩;clear d0 g0 g1 g2 m0 m1 m2;replace Hd:=kB Hd ae;replace Hg:=kB Hg ae;replace Hm:=kB Hm ae;have d0:=Hd.out.c1;obtain⟨g0,g1,g2⟩:=Hg.out.c3;obtain⟨m0,m1,m2⟩:=Hm.out.c3;replace Hb:=ak Hb ae;clear ae;by_cases h1:c=1
 . obtain rfl:=E1.out h1;subst h1;go_wp2;exact bodyPost_ret (v:=.tuple #[.int .i64 0,.int .i64 1]) (by simp[results,Tryz.results17,go_sem]) rfl ⟨rfl,Hb.out⟩
 . have h1':(c==1)=false:=by simpa using h1
   have wn:=JI.out h1;by_cases h2:n=L
   . subst h2;have hnn:((n:Int) !=(n:Int))=false:=by simp
     have h1l:=af h1;clear h1;go_wp2_with fail;refine(JM.out _ Hb.out wn zo).mono ?_;rintro e w2 ⟨rfl,ae⟩;clear d0 g0 g1 g2 m0 m1 m2;replace Hd:=kB Hd ae;replace Hg:=kB Hg ae;replace Hm:=kB Hm ae;have d0:=Hd.out.c1;obtain⟨g0,g1,g2⟩:=Hg.out.c3;obtain⟨m0,m1,m2⟩:=Hm.out.c3;replace Hb:=ak Hb ae;clear ae;by_cases h3:mn<0
     . obtain rfl:=E3.out wn h3;go_wp2;exact bodyPost_ret (v:=.tuple #[.int .i64 0,.int .i64 1]) (by simp[results,Tryz.results17,go_sem]) rfl ⟨rfl,Hb.out⟩
     . go_wp2_with fail;refine(AJ.out _).mono ?_;rintro e w3 ⟨rfl,ae⟩;clear d0 g0 g1 g2 m0 m1 m2;replace Hd:=kB Hd ae;replace Hg:=kB Hg ae;replace Hm:=kB Hm ae;have d0:=Hd.out.c1;obtain⟨g0,g1,g2⟩:=Hg.out.c3;obtain⟨m0,m1,m2⟩:=Hm.out.c3;replace Hb:=ak Hb ae;clear ae;cases u with
       |false=>obtain rfl:=E4.out rfl;go_wp2;exact bodyPost_ret (v:=.tuple #[.int .i64 0,.int .i64 1]) (by simp[results,Tryz.results17,go_sem]) rfl ⟨rfl,Hb.out⟩
       | true=>
         obtain rfl:=E5.out h1l.out (by trivial) wn zo (by trivial);have h0:(E !=0)=true:=by simpa using He.out
         go_wp2;exact bodyPost_ret (v:=.tuple #[.int .i64 0,.int .i64 E]) (by simp[results,Tryz.results17,go_sem]) rfl ⟨rfl,Hb.out⟩
   . obtain rfl:=E2.out h2;have hnn:((n:Int) !=(L:Int))=true:=by simp;omega
     clear h1 h2;go_wp2;exact bodyPost_ret (v:=.tuple #[.int .i64 0,.int .i64 1]) (by simp[results,Tryz.results17,go_sem]) rfl ⟨rfl,Hb.out⟩
theorem Yo (n:Int)(w:World):Calls Tryz.prog 12 #[.int .i64 n] w λe w'=>e=.returned (bZ (kX n))/\Bw w w':=by
 by_cases h:n<0\/1024<n
 . have e0:bZ (kX n)=.agg #[.bool false,.string ⟨#[]⟩]:=by unfold kX;rw[if_pos h];rfl
   rw[e0];by_cases h1:n<0
   . clear e0 h;obtain⟨W,bY,Hb,Hr⟩:=gh w 32 [.bool false,.string ⟨#[]⟩];obtain⟨r0,ag,r1,ah⟩:=Hr.out.g2;go_enter Tryz.func12,Tryz.ntmps12;go_wp2;clear r0 ag r1 ah;refine dw (aW W (w.heap.size) 0 [.bool false,.string ⟨#[]⟩]) bi ?_;intro w9 hs;replace Hr:=bF Hr hs;obtain⟨r0,ag,r1,ah⟩:=Hr.out.g2;replace Hb:=bS Hb hs ZS;clear hs;refine bodyPost_ret (v:=.agg #[.bool false,.string ⟨#[]⟩]) (by simp[results,Tryz.results12,go_sem,r0,r1]) rfl ⟨rfl,Hb.out⟩
   . have h2:1024<n:=by omega
     clear e0 h;obtain⟨W,bY,Hb,Hr⟩:=gh w 32 [.bool false,.string ⟨#[]⟩];obtain⟨r0,ag,r1,ah⟩:=Hr.out.g2;go_enter Tryz.func12,Tryz.ntmps12;go_wp2;clear r0 ag r1 ah;refine dw (aW W (w.heap.size) 0 [.bool false,.string ⟨#[]⟩]) bi ?_;intro w9 hs;replace Hr:=bF Hr hs;obtain⟨r0,ag,r1,ah⟩:=Hr.out.g2;replace Hb:=bS Hb hs ZS;clear hs;refine bodyPost_ret (v:=.agg #[.bool false,.string ⟨#[]⟩]) (by simp[results,Tryz.results12,go_sem,r0,r1]) rfl ⟨rfl,Hb.out⟩
 . obtain⟨N,rfl⟩:∃N:Nat,n=N:=⟨n.toNat,by omega⟩;have hN:N<=1024:=by omega
   have hv:kX (N:Int)=rN N:=by unfold kX;rw[if_neg h];rfl
   rw[hv];obtain⟨P,hP⟩:∃P:Nat->Int,(λk=>(2:Int)^k)=P:=⟨_,rfl⟩;obtain⟨A,hA⟩:∃A:Nat->Int,rN=A:=⟨_,rfl⟩;have yJ:∀k,P k+P k=P (k+1):=λk=>by rw[<-hP];show(2:Int)^k+2^k=2^(k+1);rw[Int.pow_succ];omega
   have LA:∀k,A k+P (k+1)=A (k+1):=λk=>by rw[<-hP,<-hA];show rN k+(2:Int)^(k+1)=rN (k+1);unfold rN;rw[Int.pow_succ 2 (k+1)];omega
   have Ge:∀k,k<=1025->(nt (P k).natAbs).length<=1048576:=λk hk=>by
    have h1:(P k).natAbs<2^(k+1):=by
     rw[<-hP];show((2:Int)^k).natAbs<_;rw[Int.natAbs_pow]
     exact Nat.pow_lt_pow_right zd zo
    exact Nat.le_trans (gT (N:=200) h1 zo) zd
   have Vp:∀k,k<=1024->(nt (A k).natAbs).length<=1048576:=λk hk=>by
    have h1:(A k).natAbs<2^(k+2):=by
     rw[<-hA];unfold rN;have h3:(0:Int)<2^(k+1):=Int.pow_pos zd;have h4:((2:Int)^(k+1)-1).natAbs<((2:Int)^(k+1)).natAbs:=by omega
     rw[Int.natAbs_pow]at h4;exact Nat.lt_trans h4 (Nat.pow_lt_pow_right zd zo)
    exact Nat.le_trans (gT (N:=200) h1 zo) zd
   have fP:∀k W,k<=1024->Calls Tryz.prog 39 #[.agg #[.bool (ai (P k)),.string (bs (nt (P k).natAbs))],.agg #[.bool (ai (P k)),.string (bs (nt (P k).natAbs))]] W λe w'=>e=.returned (.agg #[.bool (ai (P (k+1))),.string (bs (nt (P (k+1)).natAbs))])/\Bw W w':=λk W hk=>Ox _ _ _ _ (P (k+1)) (by rw[dz,yJ]) W (Ge k zo) (Ge k zo);have hap:∀k W,k<1024->Calls Tryz.prog 39 #[.agg #[.bool (ai (A k)),.string (bs (nt (A k).natAbs))],.agg #[.bool (ai (P (k+1))),.string (bs (nt (P (k+1)).natAbs))]] W λe w'=>e=.returned (.agg #[.bool (ai (A (k+1))),.string (bs (nt (A (k+1)).natAbs))])/\Bw W w':=λk W hk=>Ox _ _ _ _ (A (k+1)) (by rw[dz,dz,LA]) W (Vp k zo) (Ge (k+1) zo);have TJ:P 0=1:=by rw[<-hP];rfl
   have mL:A 0=1:=by rw[<-hA];rfl
   have hz:(.agg #[.bool false,.string (bs (nt 1))]:Value)=.agg #[.bool (ai 1),.string (bs (nt 1))]:=rfl;rw[hA];obtain⟨yb,IX,HP0,HA0⟩:=cX fP hap TJ mL;have h1:¬(N:Int)<0:=by omega
   have h2:¬(1024:Int)<(N:Int):=by omega
   clear fP hap TJ mL hP hA yJ LA Ge Vp hv h hz;obtain⟨W,bY,Hb,Hr⟩:=gh w 32 [.bool false,.string ⟨#[]⟩];obtain⟨r0,ag,r1,ah⟩:=Hr.out.g2;go_enter Tryz.func12,Tryz.ntmps12;go_wp2_with fail;refine(zQ 1 _ zd).mono ?_;rintro e w1 ⟨rfl,ae⟩;clear r0 ag r1 ah;replace Hr:=kB Hr ae;obtain⟨r0,ag,r1,ah⟩:=Hr.out.g2;replace Hb:=ak Hb ae;clear ae;go_wp2_with fail;refine(zQ 1 _ zd).mono ?_;rintro e w2 ⟨rfl,ae⟩;clear r0 ag r1 ah;replace Hr:=kB Hr ae;obtain⟨r0,ag,r1,ah⟩:=Hr.out.g2;replace Hb:=ak Hb ae;clear ae;have CS:=Hr.out.lt;obtain⟨W3,Fw,ae,Ha,Hd⟩:=XQ w2 32 [.bool false,.string (bs (nt 1))] 32 [.bool false,.string (bs (nt 1))];clear r0 ag r1 ah;replace Hr:=kB Hr ae;obtain⟨r0,ag,r1,ah⟩:=Hr.out.g2;obtain⟨a0,un,a1,uo⟩:=Ha.out.g2;obtain⟨d0,nU,d1,nV⟩:=Hd.out.g2;replace Hb:=ak Hb ae;clear ae;have lr:=Hr.out.lt;have la:=Ha.out.lt;go_wp2_with fail;clear r0 r1 ag ah a0 a1 un uo d0 d1 nU nV;have hrT:w.heap.size<w2.heap.size:=by omega
   go_loopw[5] (λx wr=>∃k:Nat,k<=N/\x=.int .i64 (k:Int)/\aj wr w.heap.size 32 [.bool false,.string ⟨#[]⟩]/\aj wr w2.heap.size 32 [.bool (ai (A k)),.string (bs (nt (A k).natAbs))]/\aj wr (w2.heap.size+1) 32 [.bool (ai (P k)),.string (bs (nt (P k).natAbs))]/\Bw w wr) (λx _=>N-(intOf x).toNat);case atStart=>exact⟨0,Nat.zero_le _,rfl,Hr.out,by rw[HA0.out];exact Ha.out,by rw[HP0.out];exact Hd.out,Hb.out⟩
   case round=>
    clear Hr Ha Hd Hb lr la;obtain⟨k,hk,rfl,pr,pa,pd,pb⟩:=hrel;by_cases hlt:k<N
    . have hlt':(k:Int)<(N:Int):=by omega
      obtain⟨Hr,Ha,Hd,Hb⟩:=cX pr pa pd pb;have rU:=pr.lt;have OS:=pa.lt;have Dn:=pd.lt;have Zm:=pb.size;clear pr pa pd pb;obtain⟨a0,un,a1,uo⟩:=Ha.out.g2;obtain⟨d0,nU,d1,nV⟩:=Hd.out.g2;go_wp2_with fail;refine(yb.out k _ zo).mono ?_;rintro e w4 ⟨rfl,ae⟩;clear a0 un a1 uo d0 nU d1 nV;replace Hr:=kB Hr ae;replace Ha:=kB Ha ae;replace Hd:=kB Hd ae;obtain⟨a0,un,a1,uo⟩:=Ha.out.g2;obtain⟨d0,nU,d1,nV⟩:=Hd.out.g2;replace Hb:=ak Hb ae;clear ae;go_wp2_with fail;clear a0 un a1 uo d0 nU d1 nV;first|refine bP (aW w4 (w2.heap.size+1) 0 [.bool (ai (P (k+1))),.string (bs (nt (P (k+1)).natAbs))]) bi ?_|refine bO (aW w4 (w2.heap.size+1) 0 [.bool (ai (P (k+1))),.string (bs (nt (P (k+1)).natAbs))]) bi ?_
      intro W5 hs;replace Hr:=kS Hr hs zo;replace Ha:=kS Ha hs zo;replace Hd:=bF Hd hs;obtain⟨a0,un,a1,uo⟩:=Ha.out.g2;obtain⟨d0,nU,d1,nV⟩:=Hd.out.g2;replace Hb:=bS Hb hs ZS;clear hs;go_wp2_with fail;refine(IX.out k _ zo).mono ?_;rintro e w6 ⟨rfl,ae⟩;clear a0 un a1 uo d0 nU d1 nV;replace Hr:=kB Hr ae;replace Ha:=kB Ha ae;replace Hd:=kB Hd ae;obtain⟨a0,un,a1,uo⟩:=Ha.out.g2;obtain⟨d0,nU,d1,nV⟩:=Hd.out.g2;replace Hb:=ak Hb ae;clear ae;go_wp2;go_roundw;case rel=>exact⟨k+1,by omega,by go_num,(Hr.out.so w2.heap.size 0 zo _).so w2.heap.size 1 zo _,(Ha.out.set 0 _).set 1 _,(Hd.out.so w2.heap.size 0 zo _).so w2.heap.size 1 zo _,(Hb.out.sc w2.heap.size 0 zo _).sc w2.heap.size 1 zo _⟩
      case measure=>simp[intOf];omega
    . obtain rfl:k=N:=by omega
      obtain⟨Hr,Ha,Hb⟩:=cC pr pa pb;clear pr pa pd pb;obtain⟨r0,ag,r1,ah⟩:=Hr.out.g2;obtain⟨a0,a1⟩:=Ha.out.c2;go_wp2;clear r0 ag r1 ah a0 a1;refine dw (aW wr (w.heap.size) 0 [.bool (ai (A k)),.string (bs (nt (A k).natAbs))]) bi ?_;intro w9 hs;replace Hr:=bF Hr hs;replace Ha:=kS Ha hs zo;obtain⟨r0,ag,r1,ah⟩:=Hr.out.g2;obtain⟨a0,a1⟩:=Ha.out.c2;replace Hb:=bS Hb hs ZS;clear hs;refine bodyPost_ret (v:=bZ (A k)) (by simp[results,Tryz.results12,go_sem,r0,r1]) rfl ⟨rfl,Hb.out⟩
end Go.Proofs.YtoopepmmepmfnaaGreatDoor
