/- The reference of chapter 8: Times. -/
import Derived.Test.YtnjfebkelecgaaaGreatDoorZ7
import Derived.Test.YtnjfebkelecgaaaGreatDoorZ33
import Derived.Test.YtnjfebkelecgaaaGreatDoorZ31
import Derived.Test.YtnjfebkelecgaaaGreatDoorZ14
import Derived.Test.YtnjfebkelecgaaaGreatDoorZ17
import Derived.Test.YtnjfebkelecgaaaGreatDoorZ18
import Derived.Test.YtnjfebkelecgaaaGreatDoorZ25
set_option linter.all false
set_option maxRecDepth 100000
set_option maxHeartbeats 16000000
namespace Go.Proofs.YtnjfebkelecgaaaGreatDoor
open Go.RowKit
attribute [local go_sem ↓] Go.wp_at_zero Go.wp_at_succ
def awv (V B d e n n':Nat)(a a':Option Addr)(cap cap':Nat)(ta tb C:List aM)(w:World)(hn:ta.length=n)(hn':tb.length=n')(yU:gB V d ta)(yV:gB V e tb)(hV:V<=12)(Nl:d+e<=127)(jF:∀t∈ta,eI t.2/\Sm B (aJ t.2))(jW:∀t∈tb,eI t.2/\Sm B (aJ t.2))(hl:n*n'<=4096)(nk:n<=4096)(hl2:n'<=4096)(hB:2*B+4096<=16384)(ha:At w a (ta.flatMap aW))(ha':At w a' (tb.flatMap aW))(hC:bW (iE ta tb)=C):
 Cl 34 #[.agg #[ah (V:Int),.slice a n cap],.agg #[ah (V:Int),.slice a' n' cap']] w λex w'=>∃a9 c9,ex=.returned (.tuple #[.agg #[ah (V:Int),.slice a9 C.length c9],ah 0])/\bI w' a9 c9 C/\Bw w w':=by
 obtain⟨i0,hi,hz0,hz1,hz2⟩:=info_parts Tryz.aCo;have BM:∀t∈iE ta tb,Sm (2*B) (aJ t.2):=λt ht=>(VT (λt h=>(jF t h).2) (λt h=>(jW t h).2) t ht).mono zo;have rG:∀t∈iE ta tb,eI t.2:=λt ht=>by have h:=BM t ht;obtain⟨x,hx,y,hy,rfl⟩:=Ot ht;rw[cJ]at h;exact h.aCl zo
 have iZ:=λW a1 c1 (h:At W a1 ((iE ta tb).flatMap aW))=>OJ V a1 (n*n') c1 (iE ta tb) (2*B) W (by rw[VS,hn,hn']) hl h rG BM zo;rw[hC]at iZ;have hu0:=Xx ta tb;have hun:=λk (h:k<n)=>ahV ta tb k zo;have Jv:=λk j (h:j<tb.length)=>ahW ta tb k j h;have htl:ta.take n=ta:=List.take_of_length_le zo;have iz:∀k (h:k<ta.length),ta.getD k zT=ta[k]:=λk h=>by simp[h]
 rw[hn']at hun;obtain⟨Hi,cV,cW,cC,lH,Gd,Rf,Rj,AJ,rT,Hn,CW⟩:=fu hi hz0 hz1 hz2 iZ hu0 hun Jv htl iz hn hn';obtain⟨PZ,Qa,wh,wm,Ha,pL⟩:=fw yU yV jF jW ha ha';clear hi hz0 hz1 hz2 rG BM iZ hu0 hun Jv htl iz hn hn' yU yV jF jW ha ha' hC;have hnm:¬(65536:Int)<IntKind.i64.wrap ((n:Int) * (n':Int)):=by
  have:((n:Int) * (n':Int))<=4096:=by exact_mod_cast hl
  have:0<=((n:Int) * (n':Int)):=by exact_mod_cast Nat.zero_le _
  rw[IntKind.wrap_i64];omega
 have Hb:=hbz w;go_enter Tryz.func34,Tryz.ntmps34;go_wp2_with fail;refine EE w (Hb.an trivial) 24 [ah (V:Int),.slice a n cap] 24 [ah (V:Int),.slice a' n' cap'] 24 [ah 0,.slice none 0 0] λW bi ag aC=>?_;obtain⟨Hp,Hq,Hr,Hb,_⟩:=ag;obtain⟨p0,p1⟩:=Hp.out.c2;obtain⟨q0,q1⟩:=Hq.out.c2;obtain⟨r0,bo,r1,bz⟩:=Hr.out.g2;have mN:=Hp;have yl:=Hq;have jw:=Hr;have dM:=Hb;have lpk:=mN.out.lt;have lqk:=yl.out.lt;have xR:=dM.out.size;go_wp2_with fail;go_loopw[6,7] (λs6 x wr=>∃(k:Nat) (v:Value),k<=n/\x=ah (k:Int)/\v=s6/\wr.ownsRow W.heap.size 67 4 v (k*n') ((iE (ta.take k) tb).flatMap aW)/\Bw W wr) (λ_ x _=>n-(intOf x).toNat);case atStart=>exact⟨0,_,Nat.zero_le _,rfl,rfl,by rw[Nat.zero_mul];exact World.ownsRow_nil _ _ _ _,Below.refl _ _⟩
 case round=>
  clear p0 p1 q0 q1 r0 bo r1 bz Hp Hq Hr Hb;obtain⟨k,v,hk,rfl,rfl,ho,pb⟩:=hrel;obtain⟨wo,hwo⟩:∃wo,wo=wr:=⟨_,rfl⟩;subst hwo;have bE:=aO dM.out pb;by_cases hlt:k<n
  . have hk2:k<ta.length:=by rw[Hn.out];exact hlt
    obtain⟨l,s,m,ex,hx⟩:∃l s m e,ta[k]=(l,s,m,e):=⟨_,_,_,_,rfl⟩;obtain⟨b,o,hab,cn⟩:=Ha.out.term k hk2 hx;have lbb:b<w.heap.size:=World.block_lt_of_cell? w _ (cn.cell 0 zm);have bC:=gQ n cap k (k:Int) hab hlt rfl;have iz:=rT.out k hk2;rw[hx]at iz;have eK:=wh.out _ (List.getElem_mem hk2);have BD:=PZ.out _ (List.getElem_mem hk2);rw[hx]at eK BD;rw[<-Gd.out]at ho;have Ju:=Rf.out k hlt;have Ht0:Hid (bA w b (o+k*4) [ai l,aj s,ai m,ah ex]):=cn;obtain⟨Ho,aX,Hgx,gF,Fu,Rh,Hp,Hq⟩:=om ho pb iz eK BD Ju (mN.out.below pb) (yl.out.below pb);clear ho pb iz eK BD Ju hx hab cn bE;obtain⟨ag,aC⟩:=qZ (Hp.an<|Hq.an trivial);go_wp2_with fail;go_loopw[6,8] (λs6 x wr=>∃(j:Nat) (v2:Value),j<=n'/\x=ah (j:Int)/\v2=s6/\wr.ownsRow W.heap.size 67 4 v2 (k*n'+j) ((oG ta tb k j).flatMap aW)/\Bw W wr) (λ_ x _=>n'-(intOf x).toNat);case atStart=>exact⟨0,v,Nat.zero_le _,rfl,rfl,Ho.out,aX.out⟩
    case round=>
     clear Ho aX;obtain⟨j,v2,hj,rfl,rfl,ho,pb⟩:=hrel;have bE:=aO dM.out pb;obtain⟨Hp,Hq⟩:=aU (mN.out.below pb) (yl.out.below pb);by_cases bj:j<n'
     . have fS:j<tb.length:=by rw[CW.out];exact bj
       obtain⟨l',s',m',tQ,hy⟩:∃l s m e,tb[j]=(l,s,m,e):=⟨_,_,_,_,rfl⟩;obtain⟨b',o',nW,nC⟩:=pL.out.term j fS hy;have aAY:b'<w.heap.size:=World.block_lt_of_cell? w _ (nC.cell 0 zm);have IK:=gQ n' cap' j (j:Int) nW bj rfl;have gP:=wm.out _ (List.getElem_mem fS);have hdy:=Qa.out _ (List.getElem_mem fS);have rH:=Rj.out k j fS;rw[Hgx.out,hy]at rH;rw[hy]at gP hdy;obtain⟨D,hD⟩:=aI (aJ (s,m,ex) *aJ (s',m',tQ));simp only at rH gP hdy;rw[hD]at rH;have l1:=(xE Fu.out.1);have l2:=(xE hdy.1);have hmm:=λW=>avD l l' V W l1.1 l2.1 zo l1.2 l2.2 (λi _=>by have:=Cz l i;have:=Cz l' i;have h8:iH l<=d:=Fu.out.2;have h9:iH l'<=e:=hdy.2;omega);obtain⟨L,hL⟩:=aI (fq l l');rw[hL]at hmm rH;have fT:=λW=>OO s m ex s' m' tQ D hD W gF.out.1 gP.1;obtain⟨Ht,Hu,Ho,aX,cu,QA,tB⟩:=kH (Ht0.out.below bE) ((show bA w b' (o'+j*4) [ai l',aj s',ai m',ah tQ]from nC).below bE) ho pb rH hmm fT;have Xf:=pb.size;clear ho pb rH hmm fT nC nW gP hdy hD hL hy l1 l2 bE;have Hb:=hbz wr;obtain⟨ag,aC⟩:=qZ (Hp.an<|Hq.an<|Ht.an<|Hu.an trivial);go_wp2_with fail;have ag:=Hb.an ag;refine dG 999 ag (dD 18 0x23211f1d1b18171513110f0d0b0907050301) ?_;refine bU ?_;refine cz ag (QA.out _) λw4 ag=>?_;refine bU ?_;refine dF ag λaC=>?_;go_wp2_with fail;obtain⟨Hb,Hp,Hq,Ht,Hu,_⟩:=ag;obtain⟨p0,p1⟩:=Hp.out.c2;obtain⟨q0,q1⟩:=Hq.out.c2;obtain⟨t0,t1,t2,t3⟩:=Ht.out.w4;obtain⟨u0,u1,u2,u3⟩:=Hu.out.w4;refine ez (λw'=>aV w' (w.heap.size) 1 (.slice a n cap)/\aV w' (w.heap.size+1) 1 (.slice a' n' cap')/\aV w' b (o+k*4+1) (aj s)/\aV w' b (o+k*4+2) (ai m)/\aV w' b (o+k*4+3) (ah ex)/\aV w' b' (o'+j*4+1) (aj s')/\aV w' b' (o'+j*4+2) (ai m')/\aV w' b' (o'+j*4+3) (ah tQ)) (λi=>Nat.blt i 100000) [(0,true),(1,true),(2,true),(3,true),(4,true),(5,true),(6,true),(7,true),(8,true),(9,true),(10,true),(11,true),(12,true),(13,true),(14,false),(15,true),(16,false),(17,false),(18,true)] zk zk rfl zk zc ⟨p1,q1,t1,t2,t3,u1,u2,u3⟩ ?_;iterate 14 (refine pT rfl rfl ?_ (by intro w' ⟨q0,q1,q2,q3,q4,q5,q6,q7⟩;go_simp;try with_reducible rfl);try simp only[UU])
       refine aY rfl rfl (λK hK=>?_);go_simp;with_reducible refine(tB.out _).mono ?_
       rintro e w6 ⟨rfl,hq⟩;have au:Bw w4 w6:=by first|exact hq|exact df hq
       obtain⟨Hp,p0,p1⟩:=fP Hp au;obtain⟨Hq,q0,q1⟩:=fP Hq au;replace Ht:=kW Ht au;replace Hu:=kW Hu au;obtain⟨t0,t1,t2,t3⟩:=Ht.out.w4;obtain⟨u0,u1,u2,u3⟩:=Hu.out.w4;replace Hb:=bD Hb au;refine hK _ _ (λ_=>⟨p1,q1,t1,t2,t3,u1,u2,u3⟩) ?_;try simp only[UU]
       refine pT rfl rfl ?_;try simp only[UU]
       refine aY rfl rfl (λK hK=>?_);go_simp;refine hK _ _ (λ_=>⟨bg p1,bg q1,bg t1,bg t2,bg t3,bg u1,bg u2,bg u3⟩) ?_;try simp only[UU]
       refine cL (λW7=>aH W7 (w6.heap.size) 67 [ai L,aj (aK (dN D)),ai (nt (dN D).natAbs),ah (dE D)]/\Bw w6 W7) (by first|exact fI|exact fJ) ?_;rintro W7 ⟨qd,au⟩;have aBo:=Hp.out.lt;have aBr:=Hq.out.lt;replace Hp:=kB Hp au;replace Hq:=kB Hq au;replace Ht:=kW Ht au;replace Hu:=kW Hu au;have Hd:=az qd;clear qd;obtain⟨p0,p1⟩:=Hp.out.c2;obtain⟨q0,q1⟩:=Hq.out.c2;obtain⟨t0,t1,t2,t3⟩:=Ht.out.w4;obtain⟨u0,u1,u2,u3⟩:=Hu.out.w4;obtain⟨d0,d1,d2,d3⟩:=Hd.out.c4;replace Hb:=bD Hb au;refine aY rfl rfl (λK hK=>?_);have dU:=ownsRow_below Ho.out Hb.out;have hs3:=Hb.out.size;have hkn:k*n'+j<4096:=by have h1:(k+1) *n'<=n*n':=Nat.mul_le_mul_right _ hlt;rw[Nat.succ_mul]at h1;omega
       refine wp_append_own _ _ _ 22 rfl W.heap.size 67 i0 _ 4 48 Tryz.underlying22 Hi.out cV.out cW.out cC.out rfl zd v2 (k*n'+j) ((oG ta tb k j).flatMap aW) rfl dU ⟨w6.heap.size,0,none⟩ 1 1 [ai L,aj (aK (dN D)),ai (nt (dN D).natAbs),ah (dE D)] rfl rfl (gK Hd.out) zy zx zo zo ?_;intro v' w8 dY bJ _;have nb:∀b,b<W.heap.size->some b≠v2.ownBlock:=λb hb e=>by have:=dz dU b e.symm;omega
       refine hK _ _ (λ_=>⟨cK bJ p1 (nb _ zp),cK bJ q1 (nb _ zp),cK bJ t1 (nb _ zp),cK bJ t2 (nb _ zp),cK bJ t3 (nb _ zp),cK bJ u1 (nb _ zp),cK bJ u2 (nb _ zp),cK bJ u3 (nb _ zp)⟩) ?_;try simp only[UU]
       have fG:=(aX.out.trans (Hb.out.mono Xf)).grown bJ zo (λj e=>dz dU j e);rw[show(oG ta tb k j).flatMap aW++[Value.string (bs L),aj (aK (dN D)),ai (nt (dN D).natAbs),ah (dE D)]=(oG ta tb k (j+1)).flatMap aW from cu.out.symm]at dY;obtain⟨iU,fZ⟩:=aU fG dY;refine pT rfl rfl ?_;try simp only[UU]
       simp only[bP];clear nb dU dY bJ fG p0 p1 q0 q1 t0 t1 t2 t3 u0 u1 u2 u3 d0 d1 d2 d3;go_wp2;go_roundw;case rel=>exact⟨j+1,v',by omega,by go_num,rfl,fZ.out,iU.out⟩
       case measure=>exact bH
     . obtain rfl:j=n':=by omega
       rw[Rh.out,Gd.out,show k*j+j=(k+1) *j from(Nat.succ_mul k j).symm]at ho;obtain⟨Ho,aX⟩:=aU ho pb;clear ho pb bE;obtain⟨ag,aC⟩:=qZ (Hp.an<|Hq.an trivial);go_wp2;go_roundw;case rel=>exact⟨k+1,v2,by omega,by go_num,rfl,Ho.out,aX.out⟩
       case measure=>exact bH
  . obtain rfl:k=n:=by omega
    rw[AJ.out]at ho;have Hb:Hid (Bw w wo):=bE;obtain⟨a2,c2,rfl,hat,_⟩:=dm ho;obtain⟨Ql,Hp,Hr⟩:=cE (lH.out wo a2 c2 hat) (mN.out.below pb) (jw.out.below pb);clear ho pb bE hat;obtain⟨ag,aC⟩:=qZ (Hp.an<|Hr.an trivial);go_wp2_with fail;refine(Ql.out).mono ?_;rintro e w6 ⟨a9,d9,rfl,jm,au⟩;obtain⟨ag,aC⟩:=qX au (Hb.an ag);have uQ:=az jm;clear jm;go_wp2;have h9:=uQ.out.store ag.2.2.1.out zd (ah (V:Int)) (.slice a9 C.length d9);refine eH (λw9=>bI w9 a9 d9 C/\aH w9 (w.heap.size+1+1) 24 [ah (V:Int),.slice a9 C.length d9]/\Bw w w9) ⟨h9,(ag.2.2.1.out.set 0 _).set 1 _,(ag.1.out.setCell zp _).setCell zp _⟩ ?_;rintro w9 ⟨q1,q2,q3⟩;obtain⟨x0,x1⟩:=q2.c2;exact bodyPost_ret (v:=.tuple #[.agg #[ah (V:Int),.slice a9 C.length d9],ah 0]) (by simp[results,Tryz.results34,go_sem,x0,x1]) rfl ⟨_,_,rfl,q1,q3⟩
def avH (V B:Nat)(s:Bool)(m:List UInt8)(e:Int)(D:Dyadic)(l:Nat->Dyadic)(w:World)(hV:V<=12)(hf:ke B (s,m,e))(hB:B<=16000)(hD:aJ (s,m,e)=D):
 Cl 35 #[ah (V:Int),.agg #[aj s,ai m,ah e]] w λex w'=>∃a' c',ex=.returned (.tuple #[.agg #[ah (V:Int),.slice a' (dL V D l 0).length c'],ah 0])/\bI w' a' c' (dL V D l 0)/\Bw w w':=by
 have hC:=afA V D (s,m,e) l hD;obtain⟨C,Dw⟩:=aI (dL V D l 0);rw[Dw]at hC⊢;have hmk:=λW b (hb:aH W b 67 [ai (lC V),aj s,ai m,ah e])=>OJ V (some ⟨b,0,none⟩) 1 1 [(lC V,(s,m,e))] B W rfl zo (At.aCi hb) (by intro t ht;simp at ht;subst ht;exact hf.1) (by intro t ht;simp at ht;subst ht;exact hf.2) zo;rw[hC]at hmk;have hmb:=λW=>sN (V:Int) V rfl zo W;have hcv:∀W b,Hid (aH W b 5 (cZ V λ_=>0))->(convert 84 9 (.slice (some ⟨b,0,none⟩) V V)).run Tryz.prog W=.ok (ai (lC V)) W:=λW b h=>by rw[<-aie];exact uH h.out V
 have lK:=az hmk;clear hmk hC Dw hf hD;have hVi:¬(V:Int)<0:=by omega
 have hV2:¬(12:Int)<(V:Int):=by omega
 obtain⟨W,cP,ag,aC⟩:=jq w 48 [aj s,ai m,ah e] 24 [ah 0,.slice none 0 0];go_enter Tryz.func35,Tryz.ntmps35;go_wp2_with fail;obtain⟨Hb,Hc,Hr,_⟩:=ag;obtain⟨c0,c1,c2⟩:=Hc.out.c3;obtain⟨r0,bo,r1,bz⟩:=Hr.out.g2;refine ez (λw'=>aV w' (w.heap.size) 0 (aj s)/\aV w' (w.heap.size) 1 (ai m)/\aV w' (w.heap.size) 2 (ah e)) (λi=>Nat.blt i 10) [(0,true),(1,true),(4,true),(2,false),(3,false),(5,true),(6,false),(7,false),(8,true),(9,true),(10,false),(11,false)] zk zk rfl zk zc ⟨c0,c1,c2⟩ ?_;iterate 3 (refine pT rfl rfl ?_ (by intro w' ⟨q0,q1,q2⟩;go_simp;try with_reducible rfl);try simp only[UU])
 refine aY rfl rfl (λK hK=>?_);go_simp;refine hK _ _ (λ_=>⟨bg c0,bg c1,bg c2⟩) ?_;try simp only[UU]
 refine cL (λW3=>aH W3 (W.heap.size) 5 (cZ V (λ_=>0))/\Bw W W3) (by first|exact fI|exact fJ) ?_;rintro W3 ⟨qq,au⟩;have afJ:=Hc.out.lt;have as5:=Hr.out.lt;replace Hc:=kB Hc au;replace Hr:=kB Hr au;have Hq:=az qq;clear qq;obtain⟨c0,c1,c2⟩:=Hc.out.c3;obtain⟨r0,bo,r1,bz⟩:=Hr.out.g2;replace Hb:=bD Hb au;refine aY rfl rfl (λK hK=>?_);go_simp;refine hK _ _ (λ_=>⟨c0,c1,c2⟩) ?_;try simp only[UU]
 refine pT rfl rfl ?_;try simp only[UU]
 refine aY rfl rfl (λK hK=>?_);go_simp;refine hK _ _ (λ_=>⟨bg c0,bg c1,bg c2⟩) ?_;try simp only[UU]
 refine cL (λW4=>aH W4 (W3.heap.size) 67 [ai (lC V),aj s,ai m,ah e]/\Bw W3 W4) (by first|exact fI|exact fJ) ?_;rintro W4 ⟨qz,au⟩;have afK:=Hc.out.lt;have as6:=Hr.out.lt;have as3:=Hq.out.lt;replace Hc:=kB Hc au;replace Hr:=kB Hr au;replace Hq:=kB Hq au;have Hz:=az qz;clear qz;obtain⟨c0,c1,c2⟩:=Hc.out.c3;obtain⟨r0,bo,r1,bz⟩:=Hr.out.g2;obtain⟨z0,z1,z2,z3⟩:=Hz.out.c4;replace Hb:=bD Hb au;refine aY rfl rfl (λK hK=>?_);go_simp;with_reducible refine(lK.out _ _ Hz.out).mono ?_
 rintro e w5 ⟨a2,d2,rfl,dX,hq⟩;have au:Bw W4 w5:=by first|exact hq|exact df hq
 obtain⟨Hc,c0,c1,c2⟩:=uw Hc au;obtain⟨Hr,r0,bo,r1,bz⟩:=dZ Hr au;replace Hq:=kB Hq au;obtain⟨Hz,z0,z1,z2,z3⟩:=xC Hz au;replace Hb:=bD Hb au;refine hK _ _ (λ_=>⟨c0,c1,c2⟩) ?_;try simp only[UU]
 iterate 2 (refine pT rfl rfl ?_;try simp only[UU])
 refine aY rfl rfl (λK hK=>?_);go_simp;refine hK _ _ (by first|exact λh=>absurd h zd|exact λ_=>⟨c0,c1,c2⟩ |exact λ_=>⟨(by first|exact c0|exact aQ zf c0|exact aQ zf (aQ zf c0) |exact aQ zf (aQ zf (aQ zf c0))),(by first|exact c1|exact aQ zf c1|exact aQ zf (aQ zf c1) |exact aQ zf (aQ zf (aQ zf c1))),(by first|exact c2|exact aQ zf c2|exact aQ zf (aQ zf c2) |exact aQ zf (aQ zf (aQ zf c2)))⟩) ?_;try simp only[UU]
 refine aY rfl rfl (λK hK=>?_);go_simp;refine hK _ _ (λh=>absurd h zd) ?_;try simp only[UU]
 simp only[bP];go_wp2;have h9:=dX.store Hr.out zd (ah (V:Int)) (.slice a2 C.length d2);refine eH (λw9=>bI w9 a2 d2 C/\aH w9 (w.heap.size+1) 24 [ah (V:Int),.slice a2 C.length d2]/\Bw w w9) ⟨h9,(Hr.out.set 0 _).set 1 _,(Hb.out.setCell zp _).setCell zp _⟩ ?_;rintro w9 ⟨q1,q2,q3⟩;obtain⟨p0,p1⟩:=q2.c2;exact bodyPost_ret (v:=.tuple #[.agg #[ah (V:Int),.slice a2 C.length d2],ah 0]) (by simp[results,Tryz.results35,go_sem,p0,p1]) rfl ⟨_,_,rfl,q1,q3⟩
end Go.Proofs.YtnjfebkelecgaaaGreatDoor
namespace Go.Proofs.YtnjfebkelecgaaaGreatDoor
def kv :List (List Raw):=[[canon (dI 0),canon (dI 0)],[canon (dI 4),canon (dI 0)],[canon (dI 0),canon (dI 2)]]
def oP :List aM:=bW [(dV 2 0,canon 1)]
def AU :List aM:=bW [(dV 2 1,canon 1)]
def wI :List aM:=bW (iE oP AU)
def yC :List aM:=dL 2 (dI 1) oI 0
def se :List aM:=bW (eu (dI 8) oP)
def tL :List Dyadic:=fD 2 1 (kv.map λr=>r.map aJ) (fR oP)
def tM :List Dyadic:=fD 2 2 (kv.map λr=>r.map aJ) (fR wI)
def AR :List Dyadic:=fD 2 2 (kv.map λr=>r.map aJ) (fR yC)
def LU :List Raw:=[canon (Dyadic.ofIntWithPrec 1 2),canon (Dyadic.ofIntWithPrec 1 2),canon (Dyadic.ofIntWithPrec 1 1)]
def LW :tL=[0,4,0].map dI:=by decide+kernel
def LZ :tM=[0,0,0,0,8,0].map dI:=by decide+kernel
def aaA :AR=[1,2,2,1,2,1].map dI:=by decide+kernel
def amC :eU kv=0:=by decide+kernel
def amE :mF 2 oP kv 1=0:=by decide+kernel
def amF :mF 2 wI kv 2=0:=by decide+kernel
def amD :mF 2 yC kv 2=0:=by decide+kernel
def amz :Mb (λk=>aJ (LU.getD k (false,[],0))) 2 2 tM=dI 1:=by decide+kernel
def amA :wK 2 (jz 2 (gy kv) 2) (bZ 3 1) tL 3=se:=by decide+kernel
def amB :bZ 3 2=[[2,0,0],[1,1,0],[1,0,1],[0,2,0],[0,1,1],[0,0,2]]:=by decide+kernel
end Go.Proofs.YtnjfebkelecgaaaGreatDoor
namespace Go.Proofs.YtnjfebkelecgaaaGreatDoor
open Go.RowKit
def aoI (ns:List Nat)(h:∀n∈ns,n<4096):∀d∈ns.map dI,Sm 12 d:=λd hd=>by obtain⟨n,hn,rfl⟩:=List.mem_map.1 hd;exact Dp n (h n hn)
def Gs :dW 2 2 1 oP:=⟨Ph (B:=1) zd Sm.one zd,gB.clean (ts:=[(dV 2 0,canon 1)]) (λt ht=>by simp at ht;subst ht;exact⟨Kq 2 0,Xj 2 0⟩)⟩
def RQ :dW 2 2 1 AU:=⟨Ph (B:=1) zd Sm.one zd,gB.clean (ts:=[(dV 2 1,canon 1)]) (λt ht=>by simp at ht;subst ht;exact⟨Kq 2 1,Xj 2 1⟩)⟩
def amy :dW 2 2004 2 wI:=dW.mul Gs RQ zd zd (by decide+kernel) zd
def amx :dW 2 25 0 yC:=Mk zd (Dp 1 zd) zd
def LV :oP.length=1:=by decide+kernel
def aaz :AU.length=1:=by decide+kernel
def aay :wI.length=1:=by decide+kernel
def aaw :yC.length=1:=by decide+kernel
def LS :se.length=1:=by decide+kernel
def aax :Rw 2 12 kv:=by
 refine⟨rfl,by decide,λr hr c hc=>?_⟩;have:∃n,n<=4/\c=canon (dI n):=by
  simp only[kv,List.mem_cons,List.not_mem_nil,or_false]at hr;rcases hr with rfl|rfl|rfl<;>simp only[List.mem_cons,List.not_mem_nil,or_false]at hc<;>rcases hc with rfl|rfl
  . exact⟨0,by decide,rfl⟩
  . exact⟨0,by decide,rfl⟩
  . exact⟨4,by decide,rfl⟩
  . exact⟨0,by decide,rfl⟩
  . exact⟨0,by decide,rfl⟩
  . exact⟨2,by decide,rfl⟩
 obtain⟨n,hn,rfl⟩:=this;exact(Dp n zo).fit zd
def One (C:List aM)(e:Ending)(w w':World):Prop:=∃a c,e=.returned (.tuple #[.agg #[ah 2,.slice a 1 c],ah 0])/\bI w' a c C/\Bw w w'
def amO (w:World):Cl 33 #[ah 2,ah 0] w λe w'=>One oP e w w':=(ag3 2 0 w zd zd).mono λe w' ⟨a,c,h1,h2,h3⟩=>⟨a,c,by rw[h1,show(bW [(dV 2 0,canon 1)]).length=1 from LV];rfl,h2,h3⟩
def amQ (w:World):Cl 33 #[ah 2,ah 1] w λe w'=>One AU e w w':=(ag3 2 1 w zd zd).mono λe w' ⟨a,c,h1,h2,h3⟩=>⟨a,c,by rw[h1,show(bW [(dV 2 1,canon 1)]).length=1 from aaz];rfl,h2,h3⟩
def abC {V B d:Nat}{ts:List aM}(h:dW V B d ts)(hB:B<=16384):∀t∈ts,eI t.2/\Sm B (aJ t.2):=λt ht=>by have h1:=(h.1.2 t ht).2;refine⟨?_,h1⟩;rw[(h.1.1.1.2 t ht).2];exact h1.aCl hB
def amP (a a':Option Addr)(c c':Nat)(w:World)(ha:bI w a c oP)(ha':bI w a' c' AU):Cl 34 #[.agg #[ah 2,.slice a 1 c],.agg #[ah 2,.slice a' 1 c']] w λe w'=>One wI e w w':=
 (awv 2 2 1 1 1 1 a a' c c' oP AU wI w LV aaz Gs.2 RQ.2 zd zd (abC Gs zd) (abC RQ zd) zd zd zd zd ha.1 ha'.1 rfl).mono λe w' ⟨a,c,h1,h2,h3⟩=>⟨a,c,by rw[h1,aay];rfl,h2,h3⟩
def amL (D:Dyadic)(hD:dI 1=D)(w:World):Cl 35 #[ah 2,.agg #[aj (aK (dN D)),ai (nt (dN D).natAbs),ah (dE D)]] w λe w'=>One yC e w w':=by subst hD;exact(avH 2 12 _ _ _ (dI 1) oI w zd (ke.canon (Dp 1 zd) zd) zd (cJ _)).mono λe w' ⟨a,c,h1,h2,h3⟩=>⟨a,c,by rw[h1,show(dL 2 (dI 1) oI 0).length=1 from aaw];rfl,h2,h3⟩
def amJ (D:Dyadic)(hD:dI 8=D)(a:Option Addr)(c:Nat)(w:World)(ha:bI w a c oP):Cl 37 #[.agg #[ah 2,.slice a 1 c],.agg #[aj (aK (dN D)),ai (nt (dN D).natAbs),ah (dE D)]] w λe w'=>One se e w w':=by subst hD;have h:=awk 2 a c oP (aK (dN (dI 8))) (nt (dN (dI 8)).natAbs) (dE (dI 8)) (dI 8) 12 w (Gs.1.mono zd) ha ((Dp 8 zd).aCl zd) (by rw[show aJ (aK (dN (dI 8)),nt (dN (dI 8)).natAbs,dE (dI 8))=dI 8 from cJ _];exact Dp 8 zd) zd (cJ _);rw[LV]at h;exact h.mono λe w' ⟨a,c,h1,h2,h3⟩=>⟨a,c,by rw[h1,show(bW (eu (dI 8) oP)).length=1 from LS];rfl,h2,h3⟩
def Ma (w:World):Cl 38 #[] w λe w'=>∃a c,e=.returned (.slice a 3 c)/\(3<=c/\bQ w' a kv)/\Bw w w':=(aoz (dI 0) (dI 4) (dI 2) rfl rfl rfl w).mono λ_ _ ⟨a,c,h1,h2,h3,h4⟩=>⟨a,c,h1,⟨h2,h3⟩,h4⟩
def KA (D:Int)(N:Nat)(cs:List Dyadic)(e:Ending)(w w':World):Prop:=∃b:Nat,e=.returned (.tuple #[.agg #[ah 2,ah D,.slice (some ⟨b,0,none⟩) N N],ah 0])/\At w' (some ⟨b,0,none⟩) (dC cs)/\Bw w w'
def RS (D N B d:Nat)(ts:List aM)(cs:List Dyadic)(hp:dW 2 B d ts)(hB:B<=90000)(h1:ts.length=1)(hD:D<=5)(ht:mF 2 ts kv D=0)(hN:cnt 2 D=N)(hcs:fD 2 D (kv.map λr=>r.map aJ) (fR ts)=cs)(a a':Option Addr)(c c':Nat)(w:World)(ha:bI w a c ts)(hc:3<=c')(ha':bQ w a' kv)(hT:aR w):
 Cl 11 #[.agg #[ah 2,.slice a 1 c],.slice a' 3 c',ah (D:Int)] w λe w'=>KA D N cs e w w':=by
 have h:=axK 2 D 2 rfl a 1 c ts a' 3 c' kv (B+12) N (D:Int) rfl w h1 zd ha.1 (λt ht=>(hp.1.2 t ht).mono zo) rfl zd hc ha' (λr hr x hx=>(aax.2.2 r hr x hx).mono zo) zo zo hT hD ht hN;rw[hcs]at h;exact h.mono λ_ _ ⟨b,h1,h2,h3⟩=>⟨_,h1,h2,h3⟩
def amG (a a':Option Addr)(c c':Nat)(w:World)(ha:bI w a c oP)(hc:3<=c')(ha':bQ w a' kv)(hT:aR w):Cl 11 #[.agg #[ah 2,.slice a 1 c],.slice a' 3 c',ah 1] w λe w'=>KA 1 3 tL e w w':=RS 1 3 2 1 oP tL Gs zd LV zd amE (by decide+kernel) rfl a a' c c' w ha hc ha' hT
def amH (a a':Option Addr)(c c':Nat)(w:World)(ha:bI w a c wI)(hc:3<=c')(ha':bQ w a' kv)(hT:aR w):Cl 11 #[.agg #[ah 2,.slice a 1 c],.slice a' 3 c',ah 2] w λe w'=>KA 2 6 tM e w w':=RS 2 6 2004 2 wI tM amy zd aay zd amF (by decide+kernel) rfl a a' c c' w ha hc ha' hT
def amI (a a':Option Addr)(c c':Nat)(w:World)(ha:bI w a c yC)(hc:3<=c')(ha':bQ w a' kv)(hT:aR w):Cl 11 #[.agg #[ah 2,.slice a 1 c],.slice a' 3 c',ah 2] w λe w'=>KA 2 6 AR e w w':=RS 2 6 25 0 yC AR amx zd aaw zd amD (by decide+kernel) rfl a a' c c' w ha hc ha' hT
def SR {w:World}{b b':Nat}{cs:List Dyadic}{t:TypeId}{k:IntKind}{v:Int}{r:List Value}(h:At w (some ⟨b,0,none⟩) (dC cs))(hc:cs≠[])(hb:aH w b' t (.int k v::r)):b≠b':=by
 rintro rfl;cases cs with
 |nil=>exact hc rfl
 | cons c cs=>
   rcases h with h|⟨b2,o,e,h⟩
   . cases h
   . simp only[Option.some.injEq,Addr.mk.injEq,and_true]at e;obtain⟨rfl,rfl⟩:=e;have h1:=h 0 (by rw[Mm];simp);have h2:=hb.cell 0;rw[Nat.zero_add,h2]at h1;cases h1
def At.aCv {w:World}{b o b':Nat}{cs:List Value}(h:At w (some ⟨b,o,none⟩) cs)(hn:b≠b')(u v x:Value):At (((w.setCell ⟨b',0,none⟩ u).setCell ⟨b',1,none⟩ v).setCell ⟨b',2,none⟩ x) (some ⟨b,o,none⟩) cs:=
 h.chg (Y:=λk=>k=b') ((((Chg.refl (λk=>k=b') w).set (a:=⟨b',0,none⟩) rfl u).set (a:=⟨b',1,none⟩) rfl v).set (a:=⟨b',2,none⟩) rfl x) (λ_ _ e h=>by cases e;exact hn h)
def aaB (ns:List Nat)(cs:List Dyadic)(h:cs=ns.map dI)(hn:∀n∈ns,n<4096):∀x∈cs.map canon,Fit 12 x:=λx hx=>by obtain⟨d,hd,rfl⟩:=List.mem_map.1 hx;subst h;exact(aoI ns hn d hd).fit zd
def afT (cs:List Dyadic):(cs.map canon).map aJ=cs:=by rw[List.map_map,show aJ∘canon=id from funext cJ,List.map_id]
def amN (Q H D:Dyadic)(hQ:Dyadic.ofIntWithPrec ((1:Nat):Int) (-(-2))=Q)(hH:Dyadic.ofIntWithPrec ((1:Nat):Int) (-(-1))=H)(hD:dI 1=D)(a:Option Addr)(b:Nat)(w:World)(ha:At w a (dC tM))(hb:aH w b 48 [aj (aK (dN Q)),ai (nt (dN Q).natAbs),ah (dE Q),aj (aK (dN Q)),ai (nt (dN Q).natAbs),ah (dE Q),aj (aK (dN H)),ai (nt (dN H).natAbs),ah (dE H)])(hT:aR w):
 Cv 19 #[.agg #[ah 2,ah 2,.slice a 6 6],.slice (some ⟨b,0,none⟩) 3 3] w (.tuple #[cw D,ah 0]):=by
 subst hQ hH hD;refine awE 2 2 6 3 12 a 6 (tM.map canon) (some ⟨b,0,none⟩) 3 LU (λk=>aJ (LU.getD k (false,[],0))) tM (dI 1) w zd zd rfl zd (by decide+kernel) zd (by rw[LZ];rfl) (afT _) (aaB _ _ LZ zd) rfl (λk h=>by simp[h]) ?_ zd (by rw[<-sk];exact ha) (At.aCi hb) hT amz;intro x hx;simp only[LU,List.mem_cons,List.not_mem_nil,or_false]at hx;rcases hx with rfl|rfl|rfl
 . exact Sm.fit ⟨2^10,by decide+kernel,by decide⟩ zd
 . exact Sm.fit ⟨2^10,by decide+kernel,by decide⟩ zd
 . exact Sm.fit ⟨2^11,by decide+kernel,by decide⟩ zd
def amM (a a':Option Addr)(c':Nat)(w:World)(ha:At w a (dC tL))(hc:3<=c')(ha':bQ w a' kv)(hT:aR w):Cl 27 #[.agg #[ah 2,ah 1,.slice a 3 3],.slice a' 3 c'] w λe w'=>One se e w w':=
 (awF 2 1 3 3 12 12 a 3 (tL.map canon) tL a' c' kv se w zd zd rfl zd (by decide+kernel) zd (by rw[LW];rfl) (afT _) (aaB _ _ LW zd) zd zd aax hc ha' amC (by rw[<-sk];exact ha) hT amA).mono λe w' ⟨a,c,h1,h2,h3⟩=>⟨a,c,by rw[h1,LS];rfl,h2,h3⟩
def amK (w:World):Cl 21 #[ah 2,ah 2] w λe w'=>∃a c,e=.returned (.slice a 6 c)/\At w' a [.string ⟨#[2,0,0]⟩,.string ⟨#[1,1,0]⟩,.string ⟨#[1,0,1]⟩,.string ⟨#[0,2,0]⟩,.string ⟨#[0,1,1]⟩,.string ⟨#[0,0,2]⟩]/\Bw w w':=by refine(Ke 2 2 6 zd zd zd (by decide+kernel) zd w).mono λe w' ⟨a,c,h1,h2,_,h4⟩=>⟨a,c,h1,?_,h4⟩;rw[amB]at h2;exact h2
def RR (D:Int)(ns:List Nat)(N:Nat)(cs:List Dyadic)(hN:ns.length=N)(hl:N<=1000)(hn:∀n∈ns,n<=1000000)(hcs:cs=ns.map dI)(vs:List Value)(hvs:(ns.map λ(n:Nat)=>Value.int .i64 (n:Int))=vs)(a:Option Addr)(b:Nat)(t:TypeId)(w:World)(ha:At w a (dC cs))(hb:aH w b t vs):Cv 39 #[.agg #[ah 2,ah D,.slice a N N],ah 0,ah D,.slice (some ⟨b,0,none⟩) N N] w (aj true):=
 is16 D a ns N N (some ⟨b,0,none⟩) N w hN hl hn (by rw[<-hcs];exact ha) (by rw[hvs];exact At.aCi hb)
end Go.Proofs.YtnjfebkelecgaaaGreatDoor
namespace Go.Proofs.YtnjfebkelecgaaaGreatDoor
open Go.RowKit
attribute [local go_sem ↓] Go.wp_at_zero Go.wp_at_succ
def amZ (w:World)(hT:aR w):Cv 8 #[] w (aj true):=by
 obtain⟨D1,h1⟩:∃D,dI 1=D:=⟨_,rfl⟩;obtain⟨D8,h8⟩:∃D,dI 8=D:=⟨_,rfl⟩;obtain⟨DQ,UY⟩:∃D,Dyadic.ofIntWithPrec ((1:Nat):Int) (-(-2))=D:=⟨_,rfl⟩;obtain⟨DH,Ul⟩:∃D,Dyadic.ofIntWithPrec ((1:Nat):Int) (-(-1))=D:=⟨_,rfl⟩;have Jb:tL≠[]/\tM≠[]/\AR≠[]:=by rw[LW,LZ,aaA];exact⟨by decide,by decide,by decide⟩
 have N1:Hid (∀W,Cv 36 #[ah 1,ah 0] W (cw D1)):=λW=>zS 1 0 D1 h1 W zd zd;have N8:Hid (∀W,Cv 36 #[ah 8,ah 0] W (cw D8)):=λW=>zS 8 0 D8 h8 W zd zd;have NQ:Hid (∀W,Cv 36 #[ah 1,ah (-2)] W (cw DQ)):=λW=>zS 1 (-2) DQ UY W zd zd;have NH:Hid (∀W,Cv 36 #[ah 1,ah (-1)] W (cw DH)):=λW=>zS 1 (-1) DH Ul W zd zd;obtain⟨KO,KE,KV,IA,IB,IC⟩:=fw (λW=>amL D1 h1 W) (λa c W=>amJ D8 h8 a c W) (amN DQ DH D1 UY Ul h1) (RR 1 [0,4,0] 3 tL rfl zd zd LW [ah 0,ah 4,ah 0] rfl) (RR 2 [0,0,0,0,8,0] 6 tM rfl zd zd LZ [ah 0,ah 0,ah 0,ah 0,ah 8,ah 0] rfl) (RR 2 [1,2,2,1,2,1] 6 AR rfl zd zd aaA [ah 1,ah 2,ah 2,ah 1,ah 2,ah 1] rfl);have KS:Hid (∀a a' c c' W,bI W a c se->bI W a' c' se->Cv 15 #[.agg #[ah 2,.slice a 1 c],.agg #[ah 2,.slice a' 1 c']] W (aj true)):=λa a' c c' W h h'=>by have h9:=agZ 2 se a a' c c' W (by rw[LS];decide) h.1 h'.1;rw[LS]at h9;exact h9
 obtain⟨js,QG⟩:=aU hT Jb;clear h1 h8 UY Ul hT Jb;have Hb:=hbz w;go_enter Tryz.func8,Tryz.ntmps8;go_wp2_with fail;refine(amO _).mono ?_;rintro e w1 ⟨a1,c1,rfl,hp1,au⟩;obtain⟨ag,aC⟩:=qX au (Hb.an trivial);have EX:Hid (bI w1 a1 c1 oP):=hp1;clear hp1;obtain⟨W1,azZ,bi,ag,aC⟩:=cM w1 (EX.an ag) 24 [ah 2,.slice a1 1 c1];go_wp2_with fail;refine(amQ _).mono ?_;rintro e w2 ⟨a2,c2,rfl,hp2,au⟩;obtain⟨ag,aC⟩:=qX au ag;have HPY:Hid (bI w2 a2 c2 AU):=hp2;clear hp2;obtain⟨W2,nV,bi,ag,aC⟩:=cM w2 (HPY.an ag) 24 [ah 2,.slice a2 1 c2];go_wp2_with fail;refine(amP a1 a2 c1 c2 _ ag.2.2.2.1.out ag.2.1.out).mono ?_;rintro e w3 ⟨a3,c3,rfl,sJ,au⟩;obtain⟨ag,aC⟩:=qX au ag;have Am:Hid (bI w3 a3 c3 wI):=sJ;clear sJ;obtain⟨W3,DK,bi,ag,aC⟩:=cM w3 (Am.an ag) 24 [ah 2,.slice a3 1 c3];go_wp2_with fail;refine aZ ag (N1.out _) λw4 ag aC=>?_;go_wp2_with fail;refine(KO.out _).mono ?_;rintro e w5 ⟨a4,c4,rfl,zw,au⟩;obtain⟨ag,aC⟩:=qX au ag;have vR:Hid (bI w5 a4 c4 yC):=zw;clear zw;obtain⟨W5,yN,bi,ag,aC⟩:=cM w5 (vR.an ag) 24 [ah 2,.slice a4 1 c4];have HT5:Hid (aR W5):=js.out.below ag.2.2.2.2.2.2.2.2.1.out;have fV:=ag.2.2.2.2.2.2.2.2.1;have Hb:=hbz W5;go_upto_region 5 with fail
 go_cut[9,10] (λs9 pF wx=>∃(g:Nat) (a:Option Addr) (c:Nat),s9=.pointer (some ⟨g,0,none⟩)/\pF=ah 0/\aH wx g 24 [ah 2,.slice a 1 c]/\bI wx a c se/\Bw W5 wx);case first=>
  have sZ:=ag.2.2.2.2.2.2.2.1;obtain⟨Ho,vR,Hz,Am,_,_,Hx,EX,_,_⟩:=ag;obtain⟨x0,x1⟩:=Hx.out.c2;obtain⟨z0,z1⟩:=Hz.out.c2;obtain⟨o0,o1⟩:=Ho.out.c2;have fy:∀w',dJ W5 w'->aV w' (w1.heap.size) 0 (ah 2)/\aV w' (w1.heap.size) 1 (.slice a1 1 c1):=λw' h=>⟨cell_later h x0,cell_later h x1⟩;refine uI (λw'=>dJ W5 w') (λi=>Nat.blt i 8) 6 24 [ah 0,.slice none 0 0] [(0,true),(1,false),(2,false),(3,true),(4,true),(5,true)] [(7,false),(8,false)] zk zk rfl rfl rfl zk zk zc zc (λK a w h=>uy rfl rfl (λK' hK=>by go_simp;exact hK _ _ h)) ?_;clear x0 x1 z0 z1 o0 o1 EX Hx Am Hz vR Ho;intro W5f au;replace Hb:=az (aO Hb.out au);refine⟨Hb.out,?_⟩;refine jZ rfl rfl (v:=?_) (λw' hw'=>?_) ?_;rotate_left;(focus have hw':=fy w' hw';obtain⟨q0,q1⟩:=hw';go_simp;try with_reducible rfl);try simp only[UU]
  refine jN rfl rfl (λK hK=>?_);go_simp;with_reducible refine(N8.out _).mono ?_
  rintro e w9 ⟨rfl,hq⟩;refine hK _ _ hq (λw6 au hb2=>?_);replace Hb:=az (aO Hb.out au);refine⟨Hb.out,?_⟩;clear au hb2 hq hK K;try simp only[UU]
  refine jN rfl rfl (λK hK=>?_);go_simp;with_reducible refine(KE.out a1 c1 _ (sZ.out.below Hb.out)).mono ?_
  rintro e w9 ⟨a9,c9,rfl,jm,hq⟩;refine hK _ _ hq (λw7 au hb2=>?_);have qZ:=az (jm.below hb2);clear jm;replace Hb:=az (aO Hb.out au);refine⟨Hb.out,?_⟩;clear au hb2 hq hK K;have HZ:=qZ;clear qZ;try simp only[UU]
  iterate 3 (refine jZ rfl rfl (v:=?_) (λw' hw'=>?_) ?_;rotate_left;(focus go_simp;try with_reducible rfl);try simp only[UU])
  intro e_b hb0 qx;have He:=az qx;clear qx;obtain⟨e0,fe0,e1,fe1⟩:=He.out.g2;try simp only[U1]
  try simp only[Act.put,U2,U3]
  refine aY rfl rfl (λK hK=>?_);go_simp;refine hK _ _ (λ_=>by first|exact((Hb.out.setCell zp _).setCell zp _) |exact(((Hb.out.setCell zp _).setCell zp _).setCell zp _)) ?_;try simp only[UU]
  refine aY rfl rfl (λK hK=>?_);go_simp;refine hK _ _ (λh=>absurd h zd) ?_;try simp only[UU]
  simp only[bP];go_wp2_with fail;go_meet;exact⟨e_b,a9,c9,rfl,rfl,(He.out.set 0 _).set 1 _,HZ.out.store He.out zd _ _,(Hb.out.setCell zp _).setCell zp _⟩
 obtain⟨ge,ae,ce,rfl,rfl,hbe,hpe,qb⟩:=hcut;obtain⟨w6,Ca⟩:∃u,u=wc:=⟨_,rfl⟩;subst Ca;obtain⟨ag,aC⟩:=qX qb (Hb.an ag);obtain⟨Hb,He⟩:=aU (aO fV.out qb) hbe;obtain⟨ag,aC⟩:=qZ (He.an ag);have uM:Hid (bI w6 ae ce se):=hpe;clear hbe hpe qb fV HT5;have Yl:Hid (aR w6):=js.out.below Hb.out;have mH:=Hb;replace Hb:=hbz w6;go_upto_region 6 with fail
 go_cut[11,12] (λs9 pF wx=>∃(g b:Nat),s9=.pointer (some ⟨g,0,none⟩)/\pF=ah 0/\aH wx g 34 [ah 2,ah 1,.slice (some ⟨b,0,none⟩) 3 3]/\At wx (some ⟨b,0,none⟩) (dC tL)/\Bw w6 wx);case first=>
  have sZ:=ag.2.2.2.2.2.2.2.2.2.1;obtain⟨He,_,Ho,vR,Hz,Am,_,_,Hx,EX,_,_⟩:=ag;obtain⟨x0,x1⟩:=Hx.out.c2;obtain⟨z0,z1⟩:=Hz.out.c2;obtain⟨o0,o1⟩:=Ho.out.c2;obtain⟨e0,e1⟩:=He.out.c2;have fy:∀w',dJ w6 w'->aV w' (w1.heap.size) 0 (ah 2)/\aV w' (w1.heap.size) 1 (.slice a1 1 c1):=λw' h=>⟨cell_later h x0,cell_later h x1⟩;refine uI (λw'=>dJ w6 w') (λi=>Nat.blt i 8) 6 34 [ah 0,ah 0,.slice none 0 0] [(0,true),(1,false),(2,false),(3,true),(4,true),(5,true)] [(7,false),(8,false)] zk zk rfl rfl rfl zk zk zc zc (λK a w h=>uy rfl rfl (λK' hK=>by go_simp;exact hK _ _ h)) ?_;clear x0 x1 z0 z1 o0 o1 e0 e1 EX Hx Am Hz vR Ho He uM;intro w6f au;replace Hb:=az (aO Hb.out au);refine⟨Hb.out,?_⟩;refine jZ rfl rfl (v:=?_) (λw' hw'=>?_) ?_;rotate_left;(focus have hw':=fy w' hw';obtain⟨q0,q1⟩:=hw';go_simp;try with_reducible rfl);try simp only[UU]
  refine jN rfl rfl (λK hK=>?_);go_simp;with_reducible refine(Ma _).mono ?_
  rintro e w9 ⟨aS,cS,rfl,⟨hc3,ht⟩,hq⟩;refine hK _ _ hq (λwa au hb2=>?_);have qS:=az (ht.below hb2);clear ht;replace Hb:=az (aO Hb.out au);refine⟨Hb.out,?_⟩;clear au hb2 hq hK K;have HS:=qS;clear qS;try simp only[UU]
  refine jN rfl rfl (λK hK=>?_);go_simp;with_reducible refine(amG a1 aS c1 cS _ (sZ.out.below Hb.out) hc3 HS.out (Yl.out.below Hb.out)).mono ?_
  rintro e w9 ⟨bf,rfl,hf,hq⟩;refine hK _ _ hq (λwd au hb2=>?_);have qF:=az (hf.below hb2);clear hf;replace Hb:=az (aO Hb.out au);replace HS:=az (HS.out.below au);refine⟨Hb.out,?_⟩;clear au hb2 hq hK K;have HF:=qF;clear qF;try simp only[UU]
  iterate 3 (refine jZ rfl rfl (v:=?_) (λw' hw'=>?_) ?_;rotate_left;(focus go_simp;try with_reducible rfl);try simp only[UU])
  intro wV hb0 qx;have Hh:=az qx;clear qx;obtain⟨h0,My,h1,Mz,h2,SI⟩:=Hh.out.g3;try simp only[U1]
  try simp only[Act.put,U2,U3]
  refine aY rfl rfl (λK hK=>?_);go_simp;refine hK _ _ (λ_=>by first|exact((Hb.out.setCell zp _).setCell zp _) |exact(((Hb.out.setCell zp _).setCell zp _).setCell zp _)) ?_;try simp only[UU]
  refine aY rfl rfl (λK hK=>?_);go_simp;refine hK _ _ (λh=>absurd h zd) ?_;try simp only[UU]
  simp only[bP];go_wp2_with fail;go_meet;exact⟨wV,bf,rfl,rfl,((Hh.out.set 0 _).set 1 _).set 2 _,HF.out.aCv (SR HF.out QG.out.1 Hh.out) _ _ _,((Hb.out.setCell zp _).setCell zp _).setCell zp _⟩
 obtain⟨gp,bp,rfl,rfl,dS,yX,qb⟩:=hcut;obtain⟨w7,pq⟩:∃u,u=wc:=⟨_,rfl⟩;subst pq;obtain⟨ag,aC⟩:=qX qb (Hb.an<|uM.an ag);obtain⟨Hb,Hp⟩:=aU (aO mH.out qb) dS;obtain⟨ag,aC⟩:=qZ (Hp.an ag);have xZ:Hid (At w7 (some ⟨bp,0,none⟩) (dC tL)):=yX;clear dS yX qb mH Yl;have Ym:Hid (aR w7):=js.out.below Hb.out;have Aj:=Hb;replace Hb:=hbz w7;go_upto_region 7 with fail
 go_cut[13,14] (λs9 pF wx=>∃(g b:Nat),s9=.pointer (some ⟨g,0,none⟩)/\pF=ah 0/\aH wx g 34 [ah 2,ah 2,.slice (some ⟨b,0,none⟩) 6 6]/\At wx (some ⟨b,0,none⟩) (dC tM)/\Bw w7 wx);case first=>
  have sZ:=ag.2.2.2.2.2.2.2.2.1;obtain⟨Hp,_,uM,He,_,Ho,vR,Hz,Am,_,_,_,_,_,_⟩:=ag;obtain⟨z0,z1⟩:=Hz.out.c2;obtain⟨o0,o1⟩:=Ho.out.c2;obtain⟨e0,e1⟩:=He.out.c2;obtain⟨p0,p1,p2⟩:=Hp.out.c3;have fy:∀w',dJ w7 w'->aV w' (w3.heap.size) 0 (ah 2)/\aV w' (w3.heap.size) 1 (.slice a3 1 c3):=λw' h=>⟨cell_later h z0,cell_later h z1⟩;refine uI (λw'=>dJ w7 w') (λi=>Nat.blt i 8) 6 34 [ah 0,ah 0,.slice none 0 0] [(0,true),(1,false),(2,false),(3,true),(4,true),(5,true)] [(7,false),(8,false)] zk zk rfl rfl rfl zk zk zc zc (λK a w h=>uy rfl rfl (λK' hK=>by go_simp;exact hK _ _ h)) ?_;clear z0 z1 o0 o1 e0 e1 p0 p1 p2 Am Hz vR Ho He uM Hp xZ;intro w7f au;replace Hb:=az (aO Hb.out au);refine⟨Hb.out,?_⟩;refine jZ rfl rfl (v:=?_) (λw' hw'=>?_) ?_;rotate_left;(focus have hw':=fy w' hw';obtain⟨q0,q1⟩:=hw';go_simp;try with_reducible rfl);try simp only[UU]
  refine jN rfl rfl (λK hK=>?_);go_simp;with_reducible refine(Ma _).mono ?_
  rintro e w9 ⟨aS,cS,rfl,⟨hc3,ht⟩,hq⟩;refine hK _ _ hq (λwa au hb2=>?_);have qS:=az (ht.below hb2);clear ht;replace Hb:=az (aO Hb.out au);refine⟨Hb.out,?_⟩;clear au hb2 hq hK K;have HS:=qS;clear qS;try simp only[UU]
  refine jN rfl rfl (λK hK=>?_);go_simp;with_reducible refine(amH a3 aS c3 cS _ (sZ.out.below Hb.out) hc3 HS.out (Ym.out.below Hb.out)).mono ?_
  rintro e w9 ⟨bf,rfl,hf,hq⟩;refine hK _ _ hq (λwd au hb2=>?_);have qF:=az (hf.below hb2);clear hf;replace Hb:=az (aO Hb.out au);replace HS:=az (HS.out.below au);refine⟨Hb.out,?_⟩;clear au hb2 hq hK K;have HF:=qF;clear qF;try simp only[UU]
  iterate 3 (refine jZ rfl rfl (v:=?_) (λw' hw'=>?_) ?_;rotate_left;(focus go_simp;try with_reducible rfl);try simp only[UU])
  intro wV hb0 qx;have Hh:=az qx;clear qx;obtain⟨h0,My,h1,Mz,h2,SI⟩:=Hh.out.g3;try simp only[U1]
  try simp only[Act.put,U2,U3]
  refine aY rfl rfl (λK hK=>?_);go_simp;refine hK _ _ (λ_=>by first|exact((Hb.out.setCell zp _).setCell zp _) |exact(((Hb.out.setCell zp _).setCell zp _).setCell zp _)) ?_;try simp only[UU]
  refine aY rfl rfl (λK hK=>?_);go_simp;refine hK _ _ (λh=>absurd h zd) ?_;try simp only[UU]
  simp only[bP];go_wp2_with fail;go_meet;exact⟨wV,bf,rfl,rfl,((Hh.out.set 0 _).set 1 _).set 2 _,HF.out.aCv (SR HF.out QG.out.2.1 Hh.out) _ _ _,((Hb.out.setCell zp _).setCell zp _).setCell zp _⟩
 obtain⟨gq,bq,rfl,rfl,dS,yX,qb⟩:=hcut;obtain⟨w8,pq⟩:∃u,u=wc:=⟨_,rfl⟩;subst pq;obtain⟨ag,aC⟩:=qX qb (Hb.an<|xZ.an ag);obtain⟨Hb,Hq⟩:=aU (aO Aj.out qb) dS;obtain⟨ag,aC⟩:=qZ (Hq.an ag);have CJ:Hid (At w8 (some ⟨bq,0,none⟩) (dC tM)):=yX;clear dS yX qb Aj Ym;have Yn:Hid (aR w8):=js.out.below Hb.out;have XM:=Hb;replace Hb:=hbz w8;go_upto_region 8 with fail
 go_cut[15,16] (λs9 pF wx=>∃(g b:Nat),s9=.pointer (some ⟨g,0,none⟩)/\pF=ah 0/\aH wx g 34 [ah 2,ah 2,.slice (some ⟨b,0,none⟩) 6 6]/\At wx (some ⟨b,0,none⟩) (dC AR)/\Bw w8 wx);case first=>
  have sZ:=ag.2.2.2.2.2.2.2.2.2.1;obtain⟨Hq,_,xZ,Hp,_,uM,He,_,Ho,vR,_,_,_,_,_,_,_,_⟩:=ag;obtain⟨o0,o1⟩:=Ho.out.c2;obtain⟨e0,e1⟩:=He.out.c2;obtain⟨p0,p1,p2⟩:=Hp.out.c3;obtain⟨q0,q1,q2⟩:=Hq.out.c3;have fy:∀w',dJ w8 w'->aV w' (w5.heap.size) 0 (ah 2)/\aV w' (w5.heap.size) 1 (.slice a4 1 c4):=λw' h=>⟨cell_later h o0,cell_later h o1⟩;refine uI (λw'=>dJ w8 w') (λi=>Nat.blt i 8) 6 34 [ah 0,ah 0,.slice none 0 0] [(0,true),(1,false),(2,false),(3,true),(4,true),(5,true)] [(7,false),(8,false)] zk zk rfl rfl rfl zk zk zc zc (λK a w h=>uy rfl rfl (λK' hK=>by go_simp;exact hK _ _ h)) ?_;clear o0 o1 e0 e1 p0 p1 p2 q0 q1 q2 vR Ho He uM Hp xZ Hq CJ;intro w8f au;replace Hb:=az (aO Hb.out au);refine⟨Hb.out,?_⟩;refine jZ rfl rfl (v:=?_) (λw' hw'=>?_) ?_;rotate_left;(focus have hw':=fy w' hw';obtain⟨q0,q1⟩:=hw';go_simp;try with_reducible rfl);try simp only[UU]
  refine jN rfl rfl (λK hK=>?_);go_simp;with_reducible refine(Ma _).mono ?_
  rintro e w9 ⟨aS,cS,rfl,⟨hc3,ht⟩,hq⟩;refine hK _ _ hq (λwa au hb2=>?_);have qS:=az (ht.below hb2);clear ht;replace Hb:=az (aO Hb.out au);refine⟨Hb.out,?_⟩;clear au hb2 hq hK K;have HS:=qS;clear qS;try simp only[UU]
  refine jN rfl rfl (λK hK=>?_);go_simp;with_reducible refine(amI a4 aS c4 cS _ (sZ.out.below Hb.out) hc3 HS.out (Yn.out.below Hb.out)).mono ?_
  rintro e w9 ⟨bf,rfl,hf,hq⟩;refine hK _ _ hq (λwd au hb2=>?_);have qF:=az (hf.below hb2);clear hf;replace Hb:=az (aO Hb.out au);replace HS:=az (HS.out.below au);refine⟨Hb.out,?_⟩;clear au hb2 hq hK K;have HF:=qF;clear qF;try simp only[UU]
  iterate 3 (refine jZ rfl rfl (v:=?_) (λw' hw'=>?_) ?_;rotate_left;(focus go_simp;try with_reducible rfl);try simp only[UU])
  intro wV hb0 qx;have Hh:=az qx;clear qx;obtain⟨h0,My,h1,Mz,h2,SI⟩:=Hh.out.g3;try simp only[U1]
  try simp only[Act.put,U2,U3]
  refine aY rfl rfl (λK hK=>?_);go_simp;refine hK _ _ (λ_=>by first|exact((Hb.out.setCell zp _).setCell zp _) |exact(((Hb.out.setCell zp _).setCell zp _).setCell zp _)) ?_;try simp only[UU]
  refine aY rfl rfl (λK hK=>?_);go_simp;refine hK _ _ (λh=>absurd h zd) ?_;try simp only[UU]
  simp only[bP];go_wp2_with fail;go_meet;exact⟨wV,bf,rfl,rfl,((Hh.out.set 0 _).set 1 _).set 2 _,HF.out.aCv (SR HF.out QG.out.2.2 Hh.out) _ _ _,((Hb.out.setCell zp _).setCell zp _).setCell zp _⟩
 obtain⟨gr,br,rfl,rfl,dS,yX,qb⟩:=hcut;obtain⟨w9,pq⟩:∃u,u=wc:=⟨_,rfl⟩;subst pq;obtain⟨ag,aC⟩:=qX qb (Hb.an<|CJ.an ag);obtain⟨Hb,Hr⟩:=aU (aO XM.out qb) dS;obtain⟨ag,aC⟩:=qZ (Hr.an ag);have KF:Hid (At w9 (some ⟨br,0,none⟩) (dC AR)):=yX;clear dS yX qb XM Yn;have Yo:Hid (aR w9):=js.out.below Hb.out;have pK:=Hb;replace Hb:=hbz w9;go_upto_region 9 with fail
 go_cut[17,18] (λs9 pF wx=>∃(g:Nat),s9=.pointer (some ⟨g,0,none⟩)/\pF=ah 0/\aH wx g 48 (bY D1)/\Bw w9 wx);case first=>
  have sZ:=ag.2.2.1;obtain⟨Hr,_,CJ,Hq,_,xZ,Hp,_,uM,He,_,_,_,_,_,_,_,_,_,_,_⟩:=ag;obtain⟨e0,e1⟩:=He.out.c2;obtain⟨p0,p1,p2⟩:=Hp.out.c3;obtain⟨q0,q1,q2⟩:=Hq.out.c3;obtain⟨r0,r1,r2⟩:=Hr.out.c3;have fy:∀w',dJ w9 w'->aV w' gq 0 (ah 2)/\aV w' gq 1 (ah 2)/\aV w' gq 2 (.slice (some ⟨bq,0,none⟩) 6 6):=λw' h=>⟨cell_later h q0,cell_later h q1,cell_later h q2⟩;refine uI (λw'=>dJ w9 w') (λi=>Nat.blt i 11) 9 48 [aj false,.string ⟨#[]⟩,ah 0] [(0,true),(1,false),(2,false),(3,false),(4,false),(5,false),(6,true),(7,true),(8,true)] [(10,false),(11,false)] zk zk rfl rfl rfl zk zk zc zc (λK a w h=>uy rfl rfl (λK' hK=>by go_simp;exact hK _ _ h)) ?_;clear e0 e1 p0 p1 p2 q0 q1 q2 r0 r1 r2 He uM Hp xZ Hq CJ Hr KF;intro w9f au;replace Hb:=az (aO Hb.out au);refine⟨Hb.out,?_⟩;refine jZ rfl rfl (v:=?_) (λw' hw'=>?_) ?_;rotate_left;(focus have hw':=fy w' hw';obtain⟨q0,q1,q2⟩:=hw';go_simp;try with_reducible rfl);try simp only[UU]
  refine jN rfl rfl (λK hK=>?_);go_simp;with_reducible refine(NQ.out _).mono ?_
  rintro e w9 ⟨rfl,hq⟩;refine hK _ _ hq (λwa au hb2=>?_);replace Hb:=az (aO Hb.out au);refine⟨Hb.out,?_⟩;clear au hb2 hq hK K;try simp only[UU]
  refine jN rfl rfl (λK hK=>?_);go_simp;with_reducible refine(NQ.out _).mono ?_
  rintro e w9 ⟨rfl,hq⟩;refine hK _ _ hq (λwd au hb2=>?_);replace Hb:=az (aO Hb.out au);refine⟨Hb.out,?_⟩;clear au hb2 hq hK K;try simp only[UU]
  refine jN rfl rfl (λK hK=>?_);go_simp;with_reducible refine(NH.out _).mono ?_
  rintro e w9 ⟨rfl,hq⟩;refine hK _ _ hq (λwe au hb2=>?_);replace Hb:=az (aO Hb.out au);refine⟨Hb.out,?_⟩;clear au hb2 hq hK K;try simp only[UU]
  refine jN rfl rfl (λK hK=>?_);go_simp;refine hK _ _ zl (λWf au hb2=>?_);have qs:=(aH.new we 48 [aj (aK (dN DQ)),ai (nt (dN DQ).natAbs),ah (dE DQ),aj (aK (dN DQ)),ai (nt (dN DQ).natAbs),ah (dE DQ),aj (aK (dN DH)),ai (nt (dN DH).natAbs),ah (dE DH)]).below hb2;replace Hb:=az (aO Hb.out au);refine⟨Hb.out,?_⟩;have Hs:=az qs;clear qs au hb2 hK K;try simp only[UU]
  refine jN rfl rfl (λK hK=>?_);go_simp;with_reducible refine(KV.out _ _ _ (sZ.out.below Hb.out) Hs.out (Yo.out.below Hb.out)).mono ?_
  rintro e w9 ⟨rfl,hq⟩;refine hK _ _ hq (λwg au hb2=>?_);replace Hb:=az (aO Hb.out au);replace Hs:=az (Hs.out.below au);refine⟨Hb.out,?_⟩;clear au hb2 hq hK K;try simp only[UU]
  iterate 3 (refine jZ rfl rfl (v:=?_) (λw' hw'=>?_) ?_;rotate_left;(focus go_simp;try with_reducible rfl);try simp only[UU])
  intro wV hb0 qx;have Hh:=az qx;clear qx;obtain⟨h0,My,h1,Mz,h2,SI⟩:=Hh.out.g3;try simp only[U1]
  try simp only[Act.put,U2,U3]
  refine aY rfl rfl (λK hK=>?_);go_simp;refine hK _ _ (λ_=>by first|exact((Hb.out.setCell zp _).setCell zp _) |exact(((Hb.out.setCell zp _).setCell zp _).setCell zp _)) ?_;try simp only[UU]
  refine aY rfl rfl (λK hK=>?_);go_simp;refine hK _ _ (λh=>absurd h zd) ?_;try simp only[UU]
  simp only[bP];go_wp2_with fail;go_meet;exact⟨wV,rfl,rfl,((Hh.out.set 0 _).set 1 _).set 2 _,((Hb.out.setCell zp _).setCell zp _).setCell zp _⟩
 obtain⟨gv,rfl,rfl,dS,qb⟩:=hcut;obtain⟨iI,pq⟩:∃u,u=wc:=⟨_,rfl⟩;subst pq;obtain⟨ag,aC⟩:=qX qb (Hb.an<|KF.an ag);obtain⟨Hb,Hv⟩:=aU (aO pK.out qb) dS;obtain⟨ag,aC⟩:=qZ (Hv.an ag);clear dS qb pK Yo;have Yk:Hid (aR iI):=js.out.below Hb.out;have XL:=Hb;replace Hb:=hbz iI;go_upto_region 10 with fail
 go_cut[19,20] (λs9 pF wx=>∃(g:Nat) (a:Option Addr) (c:Nat),s9=.pointer (some ⟨g,0,none⟩)/\pF=ah 0/\aH wx g 24 [ah 2,.slice a 1 c]/\bI wx a c se/\Bw iI wx);case first=>
  have sZ:=ag.2.2.2.2.2.2.2.2.1;obtain⟨Hv,_,KF,Hr,_,CJ,Hq,_,xZ,Hp,_,uM,He,_,_,_,_,_,_,_,_,_,_,_⟩:=ag;obtain⟨e0,e1⟩:=He.out.c2;obtain⟨p0,p1,p2⟩:=Hp.out.c3;obtain⟨q0,q1,q2⟩:=Hq.out.c3;obtain⟨r0,r1,r2⟩:=Hr.out.c3;obtain⟨v0,v1,v2⟩:=Hv.out.c3;have fy:∀w',dJ iI w'->aV w' gp 0 (ah 2)/\aV w' gp 1 (ah 1)/\aV w' gp 2 (.slice (some ⟨bp,0,none⟩) 3 3):=λw' h=>⟨cell_later h p0,cell_later h p1,cell_later h p2⟩;refine uI (λw'=>dJ iI w') (λi=>Nat.blt i 8) 6 24 [ah 0,.slice none 0 0] [(0,true),(1,false),(2,false),(3,true),(4,true),(5,true)] [(7,false),(8,false)] zk zk rfl rfl rfl zk zk zc zc (λK a w h=>uy rfl rfl (λK' hK=>by go_simp;exact hK _ _ h)) ?_;clear e0 e1 p0 p1 p2 q0 q1 q2 r0 r1 r2 v0 v1 v2 He uM Hp xZ Hq CJ Hr KF Hv;intro ax6 au;replace Hb:=az (aO Hb.out au);refine⟨Hb.out,?_⟩;refine jZ rfl rfl (v:=?_) (λw' hw'=>?_) ?_;rotate_left;(focus have hw':=fy w' hw';obtain⟨q0,q1,q2⟩:=hw';go_simp;try with_reducible rfl);try simp only[UU]
  refine jN rfl rfl (λK hK=>?_);go_simp;with_reducible refine(Ma _).mono ?_
  rintro e w9 ⟨aS,cS,rfl,⟨hc3,ht⟩,hq⟩;refine hK _ _ hq (λwa au hb2=>?_);have qS:=az (ht.below hb2);clear ht;replace Hb:=az (aO Hb.out au);refine⟨Hb.out,?_⟩;clear au hb2 hq hK K;have HS:=qS;clear qS;try simp only[UU]
  refine jN rfl rfl (λK hK=>?_);go_simp;with_reducible refine(amM _ aS cS _ (sZ.out.below Hb.out) hc3 HS.out (Yk.out.below Hb.out)).mono ?_
  rintro e w9 ⟨a9,c9,rfl,jm,hq⟩;refine hK _ _ hq (λwd au hb2=>?_);have qZ:=az (jm.below hb2);clear jm;replace Hb:=az (aO Hb.out au);replace HS:=az (HS.out.below au);refine⟨Hb.out,?_⟩;clear au hb2 hq hK K;have HZ:=qZ;clear qZ;try simp only[UU]
  iterate 3 (refine jZ rfl rfl (v:=?_) (λw' hw'=>?_) ?_;rotate_left;(focus go_simp;try with_reducible rfl);try simp only[UU])
  intro wV hb0 qx;have Hh:=az qx;clear qx;obtain⟨h0,My,h1,Mz⟩:=Hh.out.g2;try simp only[U1]
  try simp only[Act.put,U2,U3]
  refine aY rfl rfl (λK hK=>?_);go_simp;refine hK _ _ (λ_=>by first|exact((Hb.out.setCell zp _).setCell zp _) |exact(((Hb.out.setCell zp _).setCell zp _).setCell zp _)) ?_;try simp only[UU]
  refine aY rfl rfl (λK hK=>?_);go_simp;refine hK _ _ (λh=>absurd h zd) ?_;try simp only[UU]
  simp only[bP];go_wp2_with fail;go_meet;exact⟨wV,a9,c9,rfl,rfl,(Hh.out.set 0 _).set 1 _,HZ.out.store Hh.out zd _ _,(Hb.out.setCell zp _).setCell zp _⟩
 obtain⟨gk,ak,ck,rfl,rfl,dS,jm,qb⟩:=hcut;obtain⟨Pj,pq⟩:∃u,u=wc:=⟨_,rfl⟩;subst pq;obtain⟨ag,aC⟩:=qX qb (Hb.an ag);obtain⟨Hb,Hk⟩:=aU (aO XL.out qb) dS;obtain⟨ag,aC⟩:=qZ (Hk.an ag);have HPK:Hid (bI Pj ak ck se):=jm;clear dS jm qb XL Yk;go_wp2_with fail;refine(amK _).mono ?_;rintro e sQ ⟨al,cl,rfl,hl,au⟩;obtain⟨ag,aC⟩:=qX au (Hb.an<|HPK.an ag);obtain⟨bl,ol,rfl,hc⟩:=hl.resolve_left (by intro h;cases h);have IL:=uu 6 cl 0 0 (rfl:(some ⟨bl,ol,none⟩:Option Addr)=_) zd rfl;have sI:=uu 6 cl 1 1 (rfl:(some ⟨bl,ol,none⟩:Option Addr)=_) zd rfl;have ara:=uu 6 cl 5 5 (rfl:(some ⟨bl,ol,none⟩:Option Addr)=_) zd rfl;rw[Nat.zero_mul,Nat.add_zero]at IL;rw[Nat.mul_one]at sI ara;have FD:Hid (bA sQ bl ol [.string ⟨#[2,0,0]⟩]):=λj hj=>by
  obtain rfl:j=0:=by simp at hj;omega
  exact hc 0 zd
 have FE:Hid (bA sQ bl (ol+1) [.string ⟨#[1,1,0]⟩]):=λj hj=>by
  obtain rfl:j=0:=by simp at hj;omega
  exact hc 1 zd
 have Hlc:Hid (bA sQ bl (ol+5) [.string ⟨#[0,0,2]⟩]):=λj hj=>by
  obtain rfl:j=0:=by simp at hj;omega
  exact hc 5 zd
 obtain⟨ag,aC⟩:=qZ (FD.an<|FE.an<|Hlc.an ag);clear hl hc;go_wp2_with fail;refine dG 999 ag (dD 58 0x73716f6d6b69676563615f5d5b59575553514f4d4b49474543403f3d3b39373533312f2d2b29272423211f1c1a19171513100e0d0b0906040301) ?_;refine bU ?_;refine Aa 2 [ah 0,ah 4,ah 0] ag λyx bi ag=>?_;refine cz ag (IA.out _ _ _ _ ag.2.2.2.2.2.2.2.2.2.2.2.2.2.2.2.2.1.out ag.1.out) λKr ag=>?_;refine bU ?_;refine Aa 2 [ah 0,ah 0,ah 0,ah 0,ah 8,ah 0] ag λW15 bi ag=>?_;refine cz ag (IB.out _ _ _ _ ag.2.2.2.2.2.2.2.2.2.2.2.2.2.2.1.out ag.1.out) λw16 ag=>?_;refine bU ?_;refine Aa 2 [ah 1,ah 2,ah 2,ah 1,ah 2,ah 1] ag λW17 bi ag=>?_;refine cz ag (IC.out _ _ _ _ ag.2.2.2.2.2.2.2.2.2.2.2.2.1.out ag.1.out) λw18 ag=>?_;refine bU ?_;refine cz ag (N1.out _) λxY ag=>?_;refine bU ?_;refine cz ag (KS.out ak ae ck ce _ ag.2.2.2.2.2.2.2.1.out ag.2.2.2.2.2.2.2.2.2.2.2.2.2.2.2.2.2.2.2.2.2.1.out) λw20 ag=>?_;refine bU ?_;refine dF ag λaC=>?_;go_wp2;refine bodyPost_ret (results_tmp rfl _ _ _) rfl ⟨rfl,ag.2.2.2.2.2.2.1.out⟩
def qA {α:Type}(xs:List α)(d:α)(k:Nat)(h:k<xs.length):xs.getD k d=xs[k]:=by simp[h]
def CG (PV d:Int)(ts:List aM)(rows:List (List Raw))(N:Nat)(s s':Value)(w:World):Prop:=
 (∃c:Int,c≠0/\s'=ah c)\/(mF PV ts rows d=0/\∃g b:Nat,s=.pointer (some ⟨g,0,none⟩)/\s'=ah 0/\aH w g 34 [ah PV,ah d,.slice (some ⟨b,0,none⟩) N N]/\At w (some ⟨b,0,none⟩) (dC (fD (rows.length-1) d.toNat (rows.map λr=>r.map aJ) (fR ts))))
def CG.below {PV d:Int}{ts:List aM}{rows:List (List Raw)}{N:Nat}{s s':Value}{w w':World}(h:CG PV d ts rows N s s' w)(hb:Bw w w'):CG PV d ts rows N s s' w':=by
 rcases h with h|⟨h0,g,b,h1,h2,h3,h4⟩
 . exact .inl h
 . exact .inr ⟨h0,g,b,h1,h2,h3.below hb,h4.below hb⟩
instance {PV d:Int} {ts:List aM} {rows:List (List Raw)} {N:Nat} {s s':Value} {w:World}:QTr (CG PV d ts rows N s s' w) w (λW=>CG PV d ts rows N s s' W):=⟨λh _ k=>CG.below h k⟩
end Go.Proofs.YtnjfebkelecgaaaGreatDoor
namespace Go.Proofs.YtnjfebkelecgaaaGreatDoor
def yF :List (List Dyadic)->List Nat->List Nat->Dyadic
 |[],y,x=>if x=y then 1 else 0
 |f::fs,y,x=>sumTo (λj=>f.getD j 0*yF fs (gm y j) x) f.length
def ap9 (V:Nat)(fs:List (List Dyadic)):∀(D:Nat) (cs:List Dyadic) (i:Nat),(∀f∈fs,f.length=V+1)->cs.length=cnt V D->i<cnt V (D+fs.length)->
 (fW V D cs fs).getD i 0=Ah (λy=>yF fs y ((bZ (V+1) (D+fs.length)).getD i [])) (bZ (V+1) D) cs:=by
 induction fs with
 | nil=>
   intro D cs i _ hc hi;simp only[List.length_nil,Nat.add_zero]at hi⊢;have hl:=lv V D;show cs.getD i 0=sumTo (λk=>cs.getD k 0* (if(bZ (V+1) D).getD i []=(bZ (V+1) D).getD k []then 1 else 0)) _
   rw[aho _ i _ zo (λk hk hne=>by
    have hn:=OL V D
    have:(bZ (V+1) D).getD i []≠(bZ (V+1) D).getD k []:=λe=>hne (by
     rw[qA _ _ _ zo,qA _ _ _ hk]at e
     exact((List.getElem_inj hn).1 e).symm)
    rw[if_neg this];grind),if_pos rfl]
   grind
 | cons f fs ih=>
   intro D cs i hf hc hi;have hfl:=hf f (List.mem_cons_self ..);rw[List.length_cons,show D+(fs.length+1)=D+1+fs.length by omega]at hi⊢;rw[fW,ih (D+1) _ i (λg hg=>hf g (List.mem_cons_of_mem _ hg)) (Xi V D cs f) hi];obtain⟨x,hx⟩:=aI ((bZ (V+1) (D+1+fs.length)).getD i []);rw[hx];unfold sP pY;rw[ayD _ _ (OL V (D+1)) _ (ahy (n:=V+1) (λx hx=>((qP V D x).1 hx).1) (λx hx k hk=>ar8 hx k hk)),auq];refine ayE _ _ (λy hy=>?_);obtain⟨h1,_⟩:=(qP V D y).1 hy;unfold Xh;rw[h1];show _=sumTo (λj=>f.getD j 0*yF fs (gm y j) x) f.length
   rw[hfl]
def mE (R:List (List Nat))(c:Dyadic)(f:List Dyadic)(fs:List (List Dyadic))(y:List Nat)(F:List Dyadic)(j:Nat):List Dyadic:=(List.range R.length).map λi=>F.getD i 0+c*sumTo (λk=>f.getD k 0*yF fs (gm y k) (R.getD i [])) j
def mD (R:List (List Nat))(c:Dyadic)(fs:List (List Dyadic))(y:List Nat)(F:List Dyadic):List Dyadic:=(List.range R.length).map λi=>F.getD i 0+c*yF fs y (R.getD i [])
def aw4 (R:List (List Nat))(c:Dyadic)(fs:List (List Dyadic))(y:List Nat)(F:List Dyadic):(mD R c fs y F).length=R.length:=by simp[mD]
def OQ (R:List (List Nat))(c:Dyadic)(f:List Dyadic)(fs:List (List Dyadic))(y:List Nat)(F:List Dyadic)(j:Nat):(mE R c f fs y F j).length=R.length:=by simp[mE]
def WY (R:List (List Nat))(c:Dyadic)(f:List Dyadic)(fs:List (List Dyadic))(y:List Nat)(F:List Dyadic)(h:F.length=R.length):mE R c f fs y F 0=F:=by
 unfold mE;refine List.ext_getElem (by simp[h]) (λi h1 h2=>?_);simp only[List.getElem_map,List.getElem_range];rw[qA _ _ _ h2];show _+c*0=_
 grind
def WX (R:List (List Nat))(c:Dyadic)(f:List Dyadic)(fs:List (List Dyadic))(y:List Nat)(F:List Dyadic)(j:Nat):mD R (c*f.getD j 0) fs (gm y j) (mE R c f fs y F j)=mE R c f fs y F (j+1):=by
 unfold mD;refine List.ext_getElem (by simp[mE]) (λi h1 h2=>?_);have hi:i<R.length:=by simpa using h1
 simp only[List.getElem_map,List.getElem_range];have e:(mE R c f fs y F j).getD i 0=F.getD i 0+c*sumTo (λk=>f.getD k 0*yF fs (gm y k) (R.getD i [])) j:=by rw[qA _ _ _ (by rw[OQ];exact hi)];simp[mE]
 rw[e];simp only[mE,List.getElem_map,List.getElem_range];rw[sumTo];grind
def ahh (R:List (List Nat))(c:Dyadic)(f:List Dyadic)(fs:List (List Dyadic))(y:List Nat)(F:List Dyadic):mE R c f fs y F f.length=mD R c (f::fs) y F:=rfl
def ahg {B:Nat}(R:List (List Nat))(fs:List (List Dyadic)):∀(A C:Nat) (c:Dyadic) (y:List Nat) (F:List Dyadic),(∀f∈fs,f.length<=4/\∀d∈f,Sm B d)->Sm C c->C+B*fs.length<=A->F.length=R.length->(∀d∈F,Sm A d)->∀d∈mD R c fs y F,Sm (A+4^fs.length) d:=by
 induction fs with
 | nil=>
   intro A C c y F _ hc hA hl hF d hd;obtain⟨i,hi,rfl⟩:=List.mem_map.1 hd;have hi2:i<F.length:=by rw[hl];exact List.mem_range.1 hi
   have h1:Sm A (F.getD i 0):=by rw[qA _ _ _ hi2];exact hF _ (List.getElem_mem _)
   refine h1.add ?_;show Sm A (c* (if R.getD i []=y then 1 else 0))
   split
   . rw[show c*1=c by grind];exact hc.mono (by simpa using hA)
   . rw[show c*0=0 by grind];exact Sm.zero _
 | cons f fs ih=>
   intro A C c y F hf hc hA hl hF;have ui:=hf f (List.mem_cons_self ..);have key:∀j,j<=f.length->∀d∈mE R c f fs y F j,Sm (A+j*4^fs.length) d:=by
    intro j;induction j with
    |zero=>intro _;rw[WY _ _ _ _ _ _ hl];simpa using hF
    | succ j ihj=>
      intro hj d hd;rw[<-WX]at hd;have h1:Sm B (f.getD j 0):=by rw[qA _ _ _ zo];exact ui.2 _ (List.getElem_mem _)
      have:=ih (A+j*4^fs.length) (C+B) _ _ _ (λg hg=>hf g (List.mem_cons_of_mem _ hg)) (hc.mul h1) (by rw[List.length_cons,Nat.mul_add,Nat.mul_one]at hA;omega) (OQ ..) (ihj zo) d hd;rwa [Nat.add_mul,Nat.one_mul,<-Nat.add_assoc]
   intro d hd;have h:=key f.length (Nat.le_refl _) d (by rw[ahh];exact hd);refine h.mono ?_;rw[List.length_cons,Nat.pow_succ,Nat.mul_comm (4^_) 4];have:=Nat.mul_le_mul_right (4^fs.length) ui.1;omega
def aw5 {B:Nat}(R:List (List Nat))(f:List Dyadic)(fs:List (List Dyadic))(A C:Nat)(c:Dyadic)(y:List Nat)(F:List Dyadic)(hf:∀g∈f::fs,g.length<=4/\∀d∈g,Sm B d)(hc:Sm C c)(hA:C+B* (fs.length+1)<=A)(hl:F.length=R.length)(hF:∀d∈F,Sm A d)(j:Nat)(hj:j<=f.length):∀d∈mE R c f fs y F j,Sm (A+j*4^fs.length) d:=by
 induction j with
 |zero=>rw[WY _ _ _ _ _ _ hl];simpa using hF
 | succ j ih=>
   intro d hd;rw[<-WX]at hd;have h1:Sm B (f.getD j 0):=by rw[qA _ _ _ zo];exact(hf f (List.mem_cons_self ..)).2 _ (List.getElem_mem _)
   have:=ahg R fs (A+j*4^fs.length) (C+B) _ _ _ (λg hg=>hf g (List.mem_cons_of_mem _ hg)) (hc.mul h1) (by rw[Nat.mul_add,Nat.mul_one]at hA;omega) (OQ ..) (ih zo) d hd;rwa [Nat.add_mul,Nat.one_mul,<-Nat.add_assoc]
def aw6 {V D:Nat}{S:List (List Dyadic)}{c:Dyadic}{es:List Nat}{F:List Dyadic}(hS:S.length=V+1)(he:es.sum<=D)(hF:F.length=cnt V D):
 List.zipWith (·+·) F (kz V D S c es)=mD (bZ (V+1) D) c (jO S es es.length++List.replicate (D-es.sum) (nJ V)) (List.replicate (V+1) 0) F:=by
 obtain⟨fs,ml⟩:=aI (jO S es es.length++List.replicate (D-es.sum) (nJ V));have hfl:∀f∈fs,f.length=V+1:=λf hf=>by
  rw[<-ml]at hf;rcases List.mem_append.1 hf with h|h
  . unfold jO at h;obtain⟨k,_,h⟩:=List.mem_flatMap.1 h;rw[List.eq_of_mem_replicate h];simp[lQ,hS]
  . rw[List.eq_of_mem_replicate h];simp[nJ]
 have hl:fs.length=D:=by rw[<-ml,List.length_append,OP S es es.length (Nat.le_refl _),List.take_length,List.length_replicate];omega
 have hR:=lv V D;unfold kz;rw[ml];have hg:∀i,i<cnt V D->(fW V 0 [c] fs).getD i 0=c*yF fs (List.replicate (V+1) 0) ((bZ (V+1) D).getD i []):=λi hi=>by
  rw[ap9 V fs 0 [c] i hfl (by rw[ry];rfl) (by rw[Nat.zero_add,hl];exact hi),Nat.zero_add,hl,av1];show 0+([c].getD 0 0) *_=_
  rw[show([c]:List Dyadic).getD 0 0=c from rfl];show 0+c*yF fs (List.replicate (V+1) 0) _=_
  grind
 have hgl:(fW V 0 [c] fs).length=cnt V D:=by
  have gen:∀(fs:List (List Dyadic)) (E:Nat) (cs:List Dyadic),cs.length=cnt V E->(fW V E cs fs).length=cnt V (E+fs.length):=by
   intro fs;induction fs with
   |nil=>intro E cs h;exact h
   |cons f fs ih=>intro E cs _;rw[fW,ih (E+1) _ (Xi V E cs f),List.length_cons,show E+1+fs.length=E+(fs.length+1)by omega]
  have:=gen fs 0 [c] (by rw[ry];rfl);rwa [Nat.zero_add,hl]at this
 refine List.ext_getElem (by simp[mD,hR,hF,hgl]) (λi h1 h2=>?_);have hi:i<cnt V D:=by rw[<-hR];simpa[mD]using h2
 rw[List.getElem_zipWith];simp only[mD,List.getElem_map,List.getElem_range];rw[qA F 0 i zo,<-hg i hi,qA _ _ _ zo]
def kw (rows:List (List Raw))(k:Nat):List Raw:=rows.map λr=>r.getD k (false,[],0)
def Af (n:Nat):List Raw:=List.replicate n (canon 1)
def ng (rows:List (List Raw))(es:List Nat)(k:Nat):List (List Raw):=(List.range k).flatMap λj=>List.replicate (es.getD j 0) (kw rows j)
def su (rows:List (List Raw))(es:List Nat)(V D:Nat):List (List Raw):=ng rows es V++List.replicate (D-es.sum) (Af (V+1))
def Mw (rows:List (List Raw))(es:List Nat)(k:Nat):ng rows es (k+1)=ng rows es k++List.replicate (es.getD k 0) (kw rows k):=by unfold ng;rw[List.range_succ,List.flatMap_append];simp
def SE (rows:List (List Raw))(es:List Nat)(k:Nat)(h:k<=es.length):(ng rows es k).length=(es.take k).sum:=by
 induction k with
 |zero=>rfl
 |succ k ih=>rw[Mw,List.length_append,ih zo,List.length_replicate,List.take_succ_eq_append_getElem zo,List.sum_append];simp[List.getD_eq_getElem?_getD,show k<es.length by omega]
def abx (rows:List (List Raw))(es:List Nat)(k j:Nat):∃T,ng rows es (k+j)=ng rows es k++T:=by
 induction j with
 |zero=>exact⟨[],by simp⟩
 |succ j ih=>obtain⟨T,hT⟩:=ih;exact⟨T++List.replicate (es.getD (k+j) 0) (kw rows (k+j)),by rw[<-Nat.add_assoc,Mw,hT,List.append_assoc]⟩
def apw (rows:List (List Raw))(es:List Nat)(V D k t:Nat)(hk:k<V)(ht:t<es.getD k 0):(su rows es V D).getD ((ng rows es k).length+t) []=kw rows k:=by obtain⟨T,hT⟩:=abx rows es (k+1) (V-(k+1));rw[show k+1+(V-(k+1))=V by omega]at hT;unfold su;rw[hT,Mw,List.append_assoc,List.append_assoc,List.getD_eq_getElem?_getD,List.getElem?_append_right zo,Nat.add_sub_cancel_left,List.getElem?_append_left (by rw[List.length_replicate];exact ht),List.getElem?_replicate,if_pos ht];rfl
def apx (rows:List (List Raw))(es:List Nat)(V D m:Nat)(he:es.length=V)(h1:es.sum<=m)(h2:m<D):(su rows es V D).getD m []=Af (V+1):=by
 have hl:(ng rows es V).length=es.sum:=by rw[SE rows es V zo,List.take_of_length_le zo]
 unfold su;rw[List.getD_eq_getElem?_getD,List.getElem?_append_right zo];simp[show m-(ng rows es V).length<D-es.sum by omega]
def apy (rows:List (List Raw))(es:List Nat)(V D:Nat)(he:es.length=V)(h:es.sum<=D):(su rows es V D).length=D:=by
 have hl:(ng rows es V).length=es.sum:=by rw[SE rows es V zo,List.take_of_length_le zo]
 unfold su;rw[List.length_append,List.length_replicate,hl];omega
def aou (rows:List (List Raw))(k:Nat):(kw rows k).map aJ=lQ (rows.map λr=>r.map aJ) k:=by
 unfold kw lQ;rw[List.map_map,List.map_map];refine List.map_congr_left (λr _=>?_);show aJ (r.getD k (false,[],0))=(r.map aJ).getD k 0
 rw[List.getD_eq_getElem?_getD,List.getD_eq_getElem?_getD,List.getElem?_map];cases r[k]? with
 |none=>show aJ (false,[],0)=0;rw[<-anU,cJ]
 |some x=>rfl
def apA (rows:List (List Raw))(es:List Nat)(V D:Nat)(he:es.length=V):((su rows es V D).map λr=>r.map aJ)=jO (rows.map λr=>r.map aJ) es es.length++List.replicate (D-es.sum) (nJ V):=by
 unfold su;rw[List.map_append,List.map_replicate];congr 1
 . rw[he];unfold ng jO;rw[List.map_flatMap];congr 1;funext k
   rw[List.map_replicate,aou]
 . congr 1;unfold Af nJ;rw[List.map_replicate,cJ]
def aot {rows:List (List Raw)}{k V:Nat}(hr:∀r∈rows,r.length=V)(hk:k<V){P:Raw->Prop}(hP:∀r∈rows,∀x∈r,P x):∀x∈kw rows k,P x:=λx hx=>by obtain⟨r,hr2,rfl⟩:=List.mem_map.1 hx;have h:=hr r hr2;rw[List.getD_eq_getElem?_getD,List.getElem?_eq_getElem zo];exact hP r hr2 _ (List.getElem_mem _)
def apz {rows:List (List Raw)}{es:List Nat}{V D:Nat}(hL:rows.length=V+1)(hr:∀r∈rows,r.length=V){P:Raw->Prop}(hP:∀r∈rows,∀x∈r,P x)(h1:P (canon 1)):∀r∈su rows es V D,r.length=V+1/\∀x∈r,P x:=λr hr2=>by
 rcases List.mem_append.1 hr2 with h|h
 . obtain⟨k,hk,h⟩:=List.mem_flatMap.1 h;obtain rfl:=List.eq_of_mem_replicate h;exact⟨by simp[kw,hL],aot hr (List.mem_range.1 hk) hP⟩
 . obtain rfl:=List.eq_of_mem_replicate h;exact⟨by simp[Af],λx hx=>by rw[List.eq_of_mem_replicate hx];exact h1⟩
end Go.Proofs.YtnjfebkelecgaaaGreatDoor
namespace Go.Proofs.YtnjfebkelecgaaaGreatDoor
open Go.RowKit
attribute [local go_sem ↓] Go.wp_at_zero Go.wp_at_succ
def yB (y:List Nat):List UInt8:=y.map UInt8.ofNat
def amY {W:World}{b o:Nat}{l:List UInt8}(h:At W (some ⟨b,o,none⟩) (fF l))(hl:l≠[])(cap:Nat):(convert 84 9 (.slice (some ⟨b,o,none⟩) l.length cap)).run Tryz.prog W=.ok (.string (bs l)) W:=by
 have h2:∀j,j<l.length->W.cell? ⟨b,o+j,none⟩=(fF l)[j]?:=by
  rcases h with h|⟨b',o',e,hc⟩
  . exfalso;apply hl;simpa[fF]using h
  . cases e
    exact λj hj=>hc j (by simpa[fF]using hj)
 have:=run_convert_bytes_arg (P:=Tryz.prog) W 84 5 Tryz.underlying84 Tryz.underlying5 b o l.length cap (l.map λu=>(u.toNat:Int)) zm (λi hi=>by rw[h2 i (by simpa using hi)];simp[fF,show i<l.length by simpa using hi]) 9 Tryz.underlying9
 rw[this];unfold strOfNums bs;rw[List.map_map];have e:(l.map ((λn:Int=>UInt8.ofNat n.toNat)∘λu:UInt8=>(u.toNat:Int)))=l:=by
  conv=>rhs;rw[<-List.map_id l]
  exact List.map_congr_left (λu _=>by simp)
 rw[e]
def ayx {x y:List Nat}(hx:∀a∈x,a<=255)(hy:∀a∈y,a<=255)(h1:yB x=yB y):x=y:=by
 have h2:(yB x).map UInt8.toNat=(yB y).map UInt8.toNat:=by rw[h1]
 have key:∀z:List Nat,(∀a∈z,a<=255)->(yB z).map UInt8.toNat=z:=by
  intro z hz;unfold yB;rw[List.map_map];conv=>rhs;rw[<-List.map_id z]
  refine List.map_congr_left (λa ha=>?_);have:=hz a ha;simp;omega
 rw[key x hx,key y hy]at h2;exact h2
def lw (R:List (List Nat))(c:Dyadic)(y:List Nat)(F:List Dyadic)(i:Nat):List Dyadic:=(List.range R.length).map λk=>F.getD k 0+(if k<i/\R.getD k []=y then c else 0)
def Ab (R:List (List Nat))(c:Dyadic)(y:List Nat)(F:List Dyadic)(i:Nat):(lw R c y F i).length=R.length:=by simp[lw]
def Cw (R:List (List Nat))(c:Dyadic)(y:List Nat)(F:List Dyadic)(i k:Nat)(h:k<(lw R c y F i).length):(lw R c y F i)[k]=F.getD k 0+(if k<i/\R.getD k []=y then c else 0):=by simp[lw]
def aw3 (R:List (List Nat))(c:Dyadic)(y:List Nat)(F:List Dyadic)(h:F.length=R.length):lw R c y F 0=F:=by refine List.ext_getElem (by rw[Ab,h]) (λi h1 h2=>?_);rw[Cw,qA _ _ _ h2,if_neg zo];grind
def awZ (R:List (List Nat))(c:Dyadic)(y:List Nat)(F:List Dyadic):lw R c y F R.length=mD R c [] y F:=by
 refine List.ext_getElem (by rw[Ab,aw4]) (λi h1 h2=>?_);have hi:i<R.length:=by rw[Ab]at h1;exact h1
 rw[Cw];simp only[mD,List.getElem_map,List.getElem_range];show _=_+c* (if R.getD i []=y then 1 else 0)
 by_cases e:R.getD i []=y
 . rw[if_pos ⟨hi,e⟩,if_pos e];grind
 . rw[if_neg (λh=>e h.2),if_neg e];grind
def aw1 (R:List (List Nat))(c:Dyadic)(y:List Nat)(F:List Dyadic)(i:Nat)(h:R.getD i []≠y):lw R c y F (i+1)=lw R c y F i:=by
 refine List.ext_getElem (by rw[Ab,Ab]) (λk h1 h2=>?_);rw[Cw,Cw];by_cases e:k<i/\R.getD k []=y
 . rw[if_pos e,if_pos ⟨by omega,e.2⟩]
 . rw [if_neg e,if_neg (fun h3=>e ⟨by
    have:k≠i:=λh4=>h (h4▸h3.2)
    omega,h3.2⟩)]
def aw0 (R:List (List Nat))(c:Dyadic)(y:List Nat)(F:List Dyadic)(i:Nat)(hi:i<(lw R c y F i).length)(h:R.getD i []=y):lw R c y F (i+1)=(lw R c y F i).set i ((lw R c y F i)[i]+c):=by
 refine List.ext_getElem (by rw[List.length_set,Ab,Ab]) (λk h1 h2=>?_);rw[Cw,List.getElem_set];by_cases e:i=k
 . subst e;rw[if_pos rfl,Cw,if_pos ⟨by omega,h⟩,if_neg zo];grind
 . rw[if_neg e,Cw];by_cases e2:k<i/\R.getD k []=y
   . rw[if_pos e2,if_pos ⟨by omega,e2.2⟩]
   . rw[if_neg e2,if_neg (λh3=>e2 ⟨by omega,h3.2⟩)]
def aw2 {R:List (List Nat)}{c:Dyadic}{y:List Nat}{F:List Dyadic}{A:Nat}(hl:F.length=R.length)(hF:∀d∈F,Sm A d)(hc:Sm A c)(i:Nat):∀d∈lw R c y F i,Sm (A+1) d:=λd hd=>by
 obtain⟨k,hk,rfl⟩:=List.mem_map.1 hd;have hk2:k<F.length:=by rw[hl];exact List.mem_range.1 hk
 refine Sm.add ?_ ?_
 . rw[qA _ _ _ hk2];exact hF _ (List.getElem_mem _)
 . split
   . exact hc
   . exact Sm.zero _
def Rz (ob:Nat)(G:List Dyadic)(w:World)(e:Ending)(w':World):Prop:=(∃r,e=.returned r)/\aH w' ob 48 (dC G)/\Chg (λb=>b=ob) w w'
def aw8 (R:List (List Nat))(ob N cl n1 ac fc:Nat)(al aa fa:Option Addr)(F:List Dyadic)(y:List Nat)(s:Bool)(m:List UInt8)(e:Int)(A:Nat)(w:World)(hR:R.length=N)(hN:N<=512)(tX:∀x∈R,∀a∈x,a<=255)(hF:F.length=N)(hy:y.length=n1)(iB:0<n1)(hn8:n1<=8)(hy2:∀a∈y,a<=255)
 (hB:aH w ob 48 (dC F)) (hL:∀W',Chg (λb=>b=ob) w W'->At W' al (R.map mZ)) (hA:∀W',Chg (λb=>b=ob) w W'->At W' aa (fF (yB y)))
 (hx:eI (s,m,e)) (hc:Sm A (aJ (s,m,e))) (sB:∀d∈F,Sm A d) (wP:A+1<=16384):
 Cl 51 #[.slice (some ⟨ob,0,none⟩) N N,.slice al N cl,.agg #[aj s,ai m,ah e],.slice fa 0 fc,.slice aa n1 ac] w (Rz ob (mD R (aJ (s,m,e)) [] y F) w):=by
 obtain⟨ba,oa,rfl⟩:∃ba oa,aa=some ⟨ba,oa,none⟩:=by
  rcases hA w (Chg.refl _ _)with h|⟨b,o,h,_⟩
  . exfalso
    have:=congrArg List.length h;simp[fF,yB,hy]at this;omega
  . exact⟨b,o,h⟩
 have Ce:(yB y).length=n1:=by simp[yB,hy]
 obtain⟨v,hv⟩:=aI (bs (yB y));have hcv:∀W',Chg (λb=>b=ob) w W'->(convert 84 9 (.slice (some ⟨ba,oa,none⟩) n1 ac)).run Tryz.prog W'=.ok (.string v) W':=λW' h=>by have:=amY (hA W' h) (by intro h0;rw[h0]at Ce;simp at Ce;omega) ac;rwa [Ce,hv]at this
 have lob:=hB.lt;obtain⟨X,hX⟩:=aI (aJ (s,m,e));rw[hX]at hc⊢;obtain⟨HB,HL,Le,Hx,Hc,XT,HR,PD,HF,kj,Hv,HX⟩:=fu hB hL hcv hx hc sB hR tX hF hy2 hv hX;clear hB hL hA hcv hx hc sB hR tX hF hy2 hv hy Ce hX;obtain⟨W,cP,ag,aC⟩:=gz w 48 [aj s,ai m,ah e];go_enter Tryz.func51,Tryz.ntmps51;go_wp2_with fail;have vw:Chg (λb=>b=ob) w W:=Chg.of_below ag.1.out;have Bl:=HB.out.below ag.1.out;obtain⟨KZ,CI⟩:=aU vw Bl;have Pe:=ag.1.out.size;have Ek:=ag.2.1;clear vw Bl;go_loopw[10] (λx wr=>∃i:Nat,i<=N/\x=ah (i:Int)/\aH wr ob 48 (dC (lw R X y F i))/\Chg (λb=>b=ob) W wr) (λx _=>N-(intOf x).toNat);case atStart=>exact⟨0,Nat.zero_le _,rfl,by rw[aw3 R X y F (by rw[HF.out,HR.out])];exact CI.out,Chg.refl _ _⟩
 case round=>
  clear CI;obtain⟨i,hi,rfl,pB,pb⟩:=hrel;by_cases hlt:i<N
  . have yY:i<R.length:=by rw[HR.out];exact hlt
    have hcw:Chg (λb=>b=ob) w wr:=KZ.out.trans pb (λb h=>.inl h);obtain⟨b,o,rfl,hce⟩:=(show At wr al (R.flatMap λx=>[mZ x])by rw[Bd];exact HL.out wr hcw).elem (f:=λx=>[mZ x]) (sz:=1) (λ_=>rfl) zd i yY;obtain⟨x,hx⟩:=aI (R[i]);have jK:R.getD i []=x:=by rw[qA _ _ _ yY,hx]
    obtain⟨u,hu⟩:=aI (ex x);have Oc:=PD.out _ (List.getElem_mem yY);rw[hx]at Oc;have bC:=uu N cl i (i:Int) (rfl:(some ⟨b,o,none⟩:Option Addr)=_) hlt rfl;rw[Nat.mul_one]at bC;have e0:wr.cell? ⟨b,o+i,none⟩=some (.string u):=by have:=hce 0 zd;rw[Nat.mul_one,Nat.add_zero,hx]at this;rw[<-hu];exact this
    have e1:wr.drew.cell? ⟨b,o+i,none⟩=some (.string u):=e0;have aqY:=Le.out wr hcw;have Ni:=Le.out wr.drew hcw.drew;obtain⟨aX,eQ,akk⟩:=cE pb pB hcw;clear hce pb pB hcw hx;by_cases hxy:x=y
    . have zH:u=v:=by rw[<-hu,<-Hv.out,hxy];rfl
      subst zH;clear hu Oc;go_wp2;go_region
      go_wp2_with fail;refine eO (λu=>aH u ob 48 (dC (lw R X y F i))/\Chg (λb=>b=ob) W u) ⟨eQ.out.drew,aX.out.drew⟩ ?_;rintro wd ⟨qB,qb⟩;have hil:i<(lw R X y F i).length:=by rw[Ab];exact yY
      have hg:=bA.num qB i hil;have hput:=aw0 R X y F i hil (by rw[jK,hxy]);have mg:=aw2 (A:=A) (R:=R) (c:=X) (y:=y) (by rw[HF.out,HR.out]) XT.out Hc.out i _ (List.getElem_mem hil);obtain⟨D,hD⟩:=aI ((lw R X y F i)[i]);rw[hD]at hg hput mg;obtain⟨S,hS⟩:=aI (D+X);rw[hS]at hput;have hpl:=λW=>OM (aK (dN D)) (nt (dN D).natAbs) (dE D) s m e S (by show aJ (canon D)+_=S;rw[cJ,HX.out];exact hS) W (mg.aCl wP) Hx.out;have VA:=nD N N i (i:Int) (rfl:(some ⟨ob,0,none⟩:Option Addr)=_) hlt rfl;rw[Nat.zero_add]at VA;have hk2:=qb.blk Ek.out (show ¬(w.heap.size=ob)by omega);have Hk:=az hk2;have Hg:Hid (bA wd ob (i*3) (bY D)):=hg;obtain⟨oM,QO,fA,AE⟩:=dP hpl hput qb qB;clear hk2 hg hpl hput qb qB mg hD hS hil e0 e1 aqY Ni akk eQ aX bC jK hxy;have Hb:=hbz wd;obtain⟨ag,aC⟩:=qZ (Hk.an<|Hg.an trivial);obtain⟨Hk,Hg,_⟩:=ag;obtain⟨k0,k1,k2⟩:=Hk.out.c3;obtain⟨g0,g1,g2⟩:=Hg.out.w3;refine ez (λw'=>aV w' (w.heap.size) 0 (aj s)/\aV w' (w.heap.size) 1 (ai m)/\aV w' (w.heap.size) 2 (ah e)/\aV w' ob (i*3) (aj (aK (dN D)))/\aV w' ob (i*3+1) (ai (nt (dN D).natAbs))/\aV w' ob (i*3+2) (ah (dE D))) (λi=>Nat.blt i 9) [(0,true),(1,true),(2,true),(3,true),(4,true),(5,true),(6,true),(7,false),(8,true),(9,false)] zk zk rfl zk zc ⟨k0,k1,k2,g0,g1,g2⟩ ?_;iterate 7 (refine pT rfl rfl ?_ (by intro w' ⟨q0,q1,q2,q3,q4,q5⟩;go_simp;try with_reducible rfl);try simp only[UU])
      refine aY rfl rfl (λK hK=>?_);go_simp;with_reducible refine(oM.out _).mono ?_
      rintro e w7 ⟨rfl,hq⟩;have au:Bw wd w7:=by first|exact hq|exact df hq
      obtain⟨Hk,k0,k1,k2⟩:=uw Hk au;replace Hg:=kW Hg au;obtain⟨g0,g1,g2⟩:=Hg.out.w3;replace Hb:=bD Hb au;refine hK _ _ (λ_=>⟨k0,k1,k2,g0,g1,g2⟩) ?_;try simp only[UU]
      refine pT rfl rfl ?_;try simp only[UU]
      refine aY rfl rfl (λK hK=>?_);go_simp;have ma:=AE.out.below Hb.out;have z0:w7.frozen? ⟨ob,i*3,none⟩=false:=ma.free _;have z1:w7.frozen? ⟨ob,i*3+1,none⟩=false:=ma.free _;have z2:w7.frozen? ⟨ob,i*3+2,none⟩=false:=ma.free _;have hB4:=((ma.set (i*3) (aj (aK (dN S)))).set (i*3+1) (ai (nt (dN S).natAbs))).set (i*3+2) (ah (dE S));rw[Sn,<-QO.out]at hB4;obtain⟨ER,Hq7⟩:=aU hB4 (fA.out.aCk Hb.out);clear ma hB4;go_simp;refine hK _ _ (λh=>absurd h zd) ?_;try simp only[UU]
      simp only[bP];go_wp2;go_roundw;case rel=>exact⟨i+1,by omega,by go_num,ER.out,((Hq7.out.set rfl _).set rfl _).set rfl _⟩
      case measure=>exact bH
    . have zH:(u.toList==v.toList)=false:=by rw[beq_eq_false_iff_ne,<-hu,<-Hv.out,fL,fL];exact λh=>hxy (ayx Oc kj.out h)
      clear hu Oc;go_wp2;go_region
      go_wp2;go_roundw;case rel=>exact⟨i+1,by omega,by go_num,by rw[aw1 R X y F i (by rw[jK];exact hxy)];exact eQ.out.drew,aX.out.drew⟩
      case measure=>exact bH
  . obtain rfl:i=N:=by omega
    have hcw:Chg (λb=>b=ob) w wr:=KZ.out.trans pb (λb h=>.inl h);have hall:lw R X y F i=mD R X [] y F:=by rw[<-HR.out];exact awZ R X y F
    rw[hall]at pB;obtain⟨eQ,Fq⟩:=aU pB hcw;clear pB pb hcw hall;go_wp2;exact bodyPost_ret (results_none rfl _ _ _) rfl ⟨⟨_,rfl⟩,eQ.out,Fq.out⟩
def am0 (y:List Nat)(j:Nat)(h:j<y.length)(h2:y.getD j 0+1<=255):∀{v:Value} {h':j<(fF (yB y)).length},v=(fF (yB y))[j]->some v=some (.int .u8 ((y.getD j 0:Nat):Int)):=by
 intro v h' e;rw[e];have e2:y.getD j 0=y[j]:=by simp[h]
 rw[e2]at h2⊢;simp[fF,yB];omega
def am1 (y:List Nat)(j:Nat)(h2:y.getD j 0+1<=255):(fF (yB y)).set j (.int .u8 (((y.getD j 0:Nat):Int)+1))=fF (yB (gm y j)):=by
 have e:((UInt8.ofNat (y.getD j 0+1)).toNat:Int)=((y.getD j 0:Nat):Int)+1:=by rw[UInt8.toNat_ofNat'];omega
 rw[<-e,anN];unfold yB gm;rw[List.map_set]
def bQ.tail {w:World}{b o:Nat}{r:List Raw}{rows:List (List Raw)}(h:bQ w (some ⟨b,o,none⟩) (r::rows)):bQ w (some ⟨b,o+1,none⟩) rows:=by
 obtain⟨vals,hl,ha,hp⟩:=h;obtain⟨v0,vs,rfl⟩:∃v vs,vals=v::vs:=by
  cases vals with
  |nil=>simp at hl
  |cons v vs=>exact⟨v,vs,rfl⟩
 refine⟨vs,by simpa using hl,?_,λi h1 h2=>hp (i+1) zi zi⟩;rcases ha with h0|⟨b',o',e,hc⟩
 . cases h0
 . cases e
   exact .inr ⟨b,o+1,rfl,λj hj=>by have:=hc (j+1) zi;rw[show o+1+j=o+(j+1)by omega];simpa using this⟩
def aw7 (R:List (List Nat))(ob N cl n1:Nat)(al:Option Addr)(hR:R.length=N)(hN:N<=512)(tX:∀x∈R,∀a∈x,a<=255)(iB:0<n1)(dv:n1<=4)(GL:List (List Raw)):
 ∀(C:Nat) (fa:Option Addr) (d fc ac:Nat) (aa:Option Addr) (F:List Dyadic) (y:List Nat) (s:Bool) (m:List UInt8) (e:Int) (A:Nat) (w:World),GL.length=d->d<=fc->d<=20->(∀r∈GL,r.length=n1/\∀x∈r,eI x/\Sm 192 (aJ x))->F.length=N->y.length=n1->n1<=ac->(∀a∈y,a+d<=255)->
  aH w ob 48 (dC F)->(∀W',Chg (λb=>b=ob) w W'->At W' al (R.map mZ))->(∀W',Chg (λb=>b=ob) w W'->bQ W' fa GL)->(∀W',Chg (λb=>b=ob) w W'->At W' aa (fF (yB y)))->
  eI (s,m,e)->Sm C (aJ (s,m,e))->C+192*d<=A->(∀x∈F,Sm A x)->A+4^d<=16384->
  Cl 51 #[.slice (some ⟨ob,0,none⟩) N N,.slice al N cl,.agg #[aj s,ai m,ah e],.slice fa d fc,.slice aa n1 ac] w (Rz ob (mD R (aJ (s,m,e)) (GL.map λr=>r.map aJ) y F) w):=by
 induction GL with
 |nil=>intro C fa d fc ac aa F y s m e A w hd Nn Nk hrows hF hy TJ hy2 hB hL hT hA hx hc Tb sB wP;simp only[List.length_nil]at hd;subst hd;exact aw8 R ob N cl n1 ac fc al aa fa F y s m e A w hR hN tX hF hy iB zo (λa ha=>by have:=hy2 a ha;omega) hB hL hA hx (hc.mono zo) sB (by simpa using wP)
 | cons r fr ih=>
   intro C fa d fc ac aa F y s m e A w hd Nn Nk hrows hF hy TJ hy2 hB hL hT hA hx hc Tb sB wP;obtain⟨d1,rfl⟩:∃k,d=k+1:=⟨fr.length,by simpa using hd.symm⟩;have hd1:fr.length=d1:=by simpa using hd
   obtain⟨i0,hi,hz0,hz1,hz2⟩:=info_parts Tryz.aCz;have hr:=hrows r (List.mem_cons_self ..);obtain⟨b,o,_,_,hab,_,_⟩:=(hT w (Chg.refl _ _)).row 0 zm;subst hab;obtain⟨f,hf⟩:=aI (r.map aJ);obtain⟨fs,ml⟩:=aI (fr.map λr=>r.map aJ);have hfl:f.length=n1:=by rw[<-hf,List.length_map,hr.1]
   have Ui:fs.length=d1:=by rw[<-ml,List.length_map,hd1]
   have Uh:∀g∈f::fs,g.length<=4/\∀d∈g,Sm 192 d:=λg hg=>by
    have:g∈(r::fr).map λr=>r.map aJ:=by rw[List.map_cons,hf,ml];exact hg
    obtain⟨r',hr',rfl⟩:=List.mem_map.1 this;have h2:=hrows r' hr';refine⟨by rw[List.length_map,h2.1];exact dv,λd hd=>?_⟩;obtain⟨x,hx,rfl⟩:=List.mem_map.1 hd;exact(h2.2 x hx).2
   obtain⟨X,hX⟩:=aI (aJ (s,m,e));rw[hX]at hc⊢;obtain⟨FA,hFA⟩:∃FA:Option Addr,(if fc=1 then some ⟨b,o,none⟩else some ⟨b,o+1,none⟩)=FA:=⟨_,rfl⟩;have jC:∀W',Chg (λb=>b=ob) w W'->bQ W' FA fr:=λW' h=>by
    rw[<-hFA];split
    . have:fr=[]:=List.eq_nil_of_length_eq_zero zo;subst this;exact⟨[],rfl,.inl rfl,λi h1=>by simp at h1⟩
    . exact(hT W' h).tail
   have hrow:∀W',Chg (λb=>b=ob) w W'->∃a1 c1,W'.cell? ⟨b,o,none⟩=some (.slice a1 n1 c1)/\At W' a1 (r.flatMap bK):=λW' h=>by
    obtain⟨b',o',a1,c1,e1,h1,h2⟩:=(hT W' h).row 0 zm;cases e1
    exact⟨a1,c1,by simpa[hr.1]using h1,by simpa using h2⟩
   have hsm:=aw5 R f fs A C X y F Uh hc (by rw[Ui];exact Tb) (by rw[hF,hR]) sB;have hih:∀(j:Nat) (hj:j<n1) (W:World) (g cq:Nat),Chg (λb=>b=ob) w W->aH W ob 48 (dC (mE R X f fs y F j))->g≠ob->At W (some ⟨g,0,none⟩) (fF (yB (gm y j)))->n1<=cq->
    Cl 51 #[.slice (some ⟨ob,0,none⟩) N N,.slice al N cl,cw (X*f.getD j 0),.slice FA d1 (fc-1),.slice (some ⟨g,0,none⟩) n1 cq] W (Rz ob (mE R X f fs y F (j+1)) W):=λj hj W g cq hcW Bl hg hat Nh=>by
    have h1:Sm 192 (f.getD j 0):=by rw[qA _ _ _ zo];exact(Uh f (List.mem_cons_self ..)).2 _ (List.getElem_mem _)
    have zw:(j+1) *4^d1<=4*4^d1:=Nat.mul_le_mul_right _ zo;rw[Nat.add_mul,Nat.one_mul]at zw;rw[Nat.pow_succ]at wP;have hp1:1<=4^d1:=Nat.pow_pos zd;have hsj:=hsm j zo;rw[Ui]at hsj;have fM:Sm (C+192) (X*f.getD j 0):=hc.mul h1
    have hgl:g<W.heap.size:=hat.lt (by
     intro h0;have h9:=congrArg List.length h0
     simp[fF,yB,gm,hy]at h9;omega)
    have h:=ih (C+192) FA d1 (fc-1) cq (some ⟨g,0,none⟩) (mE R X f fs y F j) (gm y j) (aK (dN (X*f.getD j 0))) (nt (dN (X*f.getD j 0)).natAbs) (dE (X*f.getD j 0)) (A+j*4^d1) W hd1 zo zo (λr hr=>hrows r (List.mem_cons_of_mem _ hr)) (by rw[OQ,hR]) (by rw[Vw,hy]) Nh (λa ha=>by
     obtain⟨k,hk,rfl⟩:=List.mem_iff_getElem.1 ha;have hk2:k<y.length:=by rw[Vw]at hk;exact hk
     have h3:=hy2 _ (List.getElem_mem hk2);have h4:(gm y j)[k]<=y[k]+1:=by
      simp only[gm,List.getElem_set];split
      . rename_i e;subst e;rw[List.getD_eq_getElem?_getD,List.getElem?_eq_getElem hk2];exact Nat.le_refl _
      . omega
     omega) Bl (λW' h=>hL W' (hcW.trans h (λb h=>.inl h))) (λW' h=>jC W' (hcW.trans h (λb h=>.inl h))) (λW' h=>by
     rcases hat with h0|⟨b',o',e',hcs⟩
     . exact .inl h0
     . cases e'
       exact .inr ⟨g,0,rfl,λk hk=>(by rw[<-hcs k hk];exact World.cell?_of_block (h.block g hgl hg))⟩) (fM.aCl zo) (by show Sm _ (aJ (canon _));rw[cJ];exact fM) zo hsj zo
    have e1:aJ (aK (dN (X*f.getD j 0)),nt (dN (X*f.getD j 0)).natAbs,dE (X*f.getD j 0))=X*f.getD j 0:=cJ _;rw[e1,ml,WX]at h;exact h
   have lob:=hB.lt;have hrl:=hr.1;have hrx:=hr.2;have DF:=WY R X f fs y F (by rw[hF,hR]);have Bp:mE R X f fs y F n1=mD R X (f::fs) y F:=by rw[<-hfl];exact ahh R X f fs y F
   have hfj:∀j (h:j<r.length),f.getD j 0=aJ r[j]:=λj h=>by rw[<-hf,qA _ _ _ (by simpa using h),List.getElem_map]
   have Od:(fF (yB y)).length=n1*1:=by simp[fF,yB,hy]
   have hy3:∀j (h:j<n1),y.getD j 0+1<=255:=λj h=>by rw[List.getD_eq_getElem?_getD,List.getElem?_eq_getElem zo];have:=hy2 _ (List.getElem_mem (show j<y.length by omega));simp;omega
   have mn:(r::fr).map (λr=>r.map aJ)=f::fs:=by rw[List.map_cons,hf,ml]
   rw[mn];have adC:aa=none->ac=0:=λh=>by
    rcases hA w (Chg.refl _ _)with h1|⟨b,o,h1,_⟩
    . rw[h1]at Od;simp at Od;omega
    . rw[h]at h1;cases h1
   obtain⟨HB,mO,Hih,HA,HX,Hx,PC,KG,Hfj,Hyl,Rq,Hrx⟩:=fu hB hrow hih hA hX hx DF Bp hfj Od hy3 hrx;obtain⟨Hrl,Hy,Hi,cV,cW,cC⟩:=fw hrl hy hi hz0 hz1 hz2;have HSA:Hid (Sl aa n1 ac):=⟨TJ,adC⟩;clear hB hrow hih hA hX hx DF Bp hfj Od hy3 hrx hi hz0 hz1 hz2 hT jC hL hrows hr Uh hfl Ui hsm hy hy2 hF sB hc hd hd1 Tb wP hR tX hf ml mn hrl TJ adC ih Nk;have hdd:((d1:Int)+1==0)=false:=by simp;omega
   have ixf:=xz (d1+1) fc 0 0 (rfl:(some ⟨b,o,none⟩:Option Addr)=_) zo rfl;rw[Nat.zero_mul,Nat.add_zero]at ixf;obtain⟨W,cP,ag,aC⟩:=gz w 48 [aj s,ai m,ah e];go_enter Tryz.func51,Tryz.ntmps51;go_wp2_with fail;have vw:Chg (λb=>b=ob) w W:=Chg.of_below ag.1.out;have Bl:=HB.out.below ag.1.out;obtain⟨KZ,CI⟩:=aU vw Bl;have Pe:=ag.1.out.size;have Ek:=ag.2.1;clear vw Bl HB;go_loopw[11] (λx wr=>∃j:Nat,j<=n1/\x=ah (j:Int)/\aH wr ob 48 (dC (mE R X f fs y F j))/\Chg (λb=>b=ob) W wr) (λx _=>n1-(intOf x).toNat);case atStart=>exact⟨0,Nat.zero_le _,rfl,by rw[PC.out];exact CI.out,Chg.refl _ _⟩
   case round=>
    clear CI;obtain⟨j,hj,rfl,pB,pb⟩:=hrel;have hcw:Chg (λb=>b=ob) w wr:=KZ.out.trans pb (λb h=>.inl h);obtain⟨a1,c1,e0,jf⟩:=mO.out wr hcw;by_cases hlt:j<n1
    . have vD:j<r.length:=by rw[Hrl.out];exact hlt
      obtain⟨s2,m2,e2,NS⟩:=na (r[j]);obtain⟨bu,ou,rfl,u0,u1,u2⟩:=jf.num j vD NS;have Vo:=Hrx.out _ (List.getElem_mem vD);rw[NS]at Vo;have hD:aJ (s,m,e) *aJ (s2,m2,e2)=X*f.getD j 0:=by rw[HX.out,Hfj.out j vD,NS]
      have hti:=λW=>OO s m e s2 m2 e2 (X*f.getD j 0) hD W Hx.out Vo.1;obtain⟨P,hP⟩:=aI (X*f.getD j 0);have hi2:=Hih.out j hlt;rw[hP]at hti hi2;obtain⟨c,hc⟩:∃c:Int,((y.getD j 0:Nat):Int)=c:=⟨_,rfl⟩;have hwc:IntKind.u8.wrap (c+1)=c+1:=by have:=Rq.out j hlt;rw[IntKind.wrap_u8];omega
      have KW:Hid (some ((fF (yB y))[j]'(by rw[Hyl.out];omega))=some (.int .u8 c)):=by show _=_;rw[<-hc];exact am0 y j (by rw[Hy.out];exact hlt) (Rq.out j hlt) rfl
      obtain⟨Hti,Hi2,Fp,Fq,eQ,aX⟩:=fw hti hi2 hc hcw pB pb;have He:Hid (bA wr b o [.slice (some ⟨bu,ou,none⟩) n1 c1]):=λk hk=>by
       obtain rfl:k=0:=by simp at hk;omega
       exact e0
      have Hu:Hid (bA wr bu (ou+j*3) [aj s2,ai m2,ah e2]):=iR u0 u1 u2;have oK:=az (pb.blk Ek.out (show ¬(w.heap.size=ob)by omega));have fQ:=pb.size;have eZ:=az (HA.out wr hcw);clear hti hi2 hc hcw pB pb Vo hD NS jf u0 u1 u2 hP;go_wp2_with (at_builtin;refine qR rfl _ _ 84 rfl wr.heap.size 5 i0 _ 1 1 Tryz.underlying84 Hi.out cV.out cW.out cC.out rfl zd _ 0 [] rfl (World.ownsRow_made wr #[] 0 (Nat.le_refl _) (Nat.zero_le _) zm) aa n1 ac (fF (yB y)) rfl HSA.out Hyl.out (eZ.out.below ((Below.refl _ wr).alloc (Nat.le_refl _) _)) (by simp[fF,Value.oneCell']) (by unfold maxLen;omega) zo zm ?_;intro v1 w1 dh hg1 un;have hb1:=((Below.refl _ wr).alloc (Nat.le_refl _) (.cells #[] 5)).grown hg1 zm (λk hk=>by have h9:wr.heap.size=k:=Option.some.inj hk;omega);rw[Nat.zero_add,List.nil_append]at dh;obtain⟨g,cq,rfl,hgb,hgl,nZ⟩:=xK dh zo;have c0:w1.cell? ⟨g,j,none⟩=some (.int .u8 c):=(nK dh j _).trans KW.out;have fz:=pz dh j;have ixg:=rK n1 cq j (j:Int) (rfl:(some ⟨g,0,none⟩:Option Addr)=_) hlt rfl;rw[Nat.mul_one,Nat.zero_add]at ixg;obtain⟨lL,cm⟩:=aU dh hb1;clear dh hb1 hg1 un);refine eO (λu=>u.ownsRow wr.heap.size 5 1 (.slice (some ⟨g,0,none⟩) n1 cq) n1 (fF (yB (gm y j)))/\Bw wr u) ⟨?_,cm.out.setCell hgb _⟩ ?_
      . have h:=mr lL.out j (.int .u8 (c+1));have e9:=am1 y j (Rq.out j hlt);rw[Fp.out]at e9;rw[e9]at h;exact h
      rintro wd ⟨Jg,jg⟩;have ac3:At wd (some ⟨g,0,none⟩) (fF (yB (gm y j))):=by obtain⟨a9,c9,e9,h9,_⟩:=dm Jg;cases e9;exact h9
      have Hk:=az (oK.out.below jg);have yf:Hid (bA wd b o [.slice (some ⟨bu,ou,none⟩) n1 c1]):=He.out.below jg;have Hv:Hid (bA wd bu (ou+j*3) [aj s2,ai m2,ah e2]):=Hu.out.below jg;obtain⟨Hod,ju,Hgg,Qm⟩:=dP ac3 jg (show g≠ob by have:=eQ.out.lt;omega) nZ;have ixv:=nD n1 c1 j (j:Int) (rfl:(some ⟨bu,ou,none⟩:Option Addr)=_) hlt rfl;clear Jg ac3 jg lL cm c0 fz ixg e0 nZ hgb hgl hwc oK He Hu;have Hb:=hbz wd;obtain⟨ag,aC⟩:=qZ (Hk.an<|yf.an<|Hv.an trivial);have h1d:(1:Int)<=(d1:Int)+1:=by omega
      obtain⟨Hk,yf,Hv,_⟩:=ag;obtain⟨k0,k1,k2⟩:=Hk.out.c3;have Ny:=yf.out.w1;obtain⟨v0,v1,v2⟩:=Hv.out.w3;refine ez (λw'=>aV w' (w.heap.size) 0 (aj s)/\aV w' (w.heap.size) 1 (ai m)/\aV w' (w.heap.size) 2 (ah e)/\aV w' b o (.slice (some ⟨bu,ou,none⟩) n1 c1)/\aV w' bu (ou+j*3) (aj s2)/\aV w' bu (ou+j*3+1) (ai m2)/\aV w' bu (ou+j*3+2) (ah e2)) (λi=>Nat.blt i 13) [(0,true),(1,true),(2,true),(3,true),(4,true),(5,true),(6,true),(7,true),(8,true),(10,true),(11,true),(12,true),(9,false),(13,false)] zk zk rfl zk zc ⟨k0,k1,k2,Ny,v0,v1,v2⟩ ?_;iterate 12 (refine pT rfl rfl ?_ (by intro w' ⟨q0,q1,q2,q3,q4,q5,q6⟩;go_simp;try with_reducible rfl);try simp only[UU])
      refine aY rfl rfl (λK hK=>?_);go_simp;with_reducible refine(Hti.out _).mono ?_
      rintro e w7 ⟨rfl,hq⟩;have au:Bw wd w7:=by first|exact hq|exact df hq
      clear k0 k1 k2 Ny v0 v1 v2;obtain⟨Hk,k0,k1,k2⟩:=uw Hk au;replace yf:=kW yf au;replace Hv:=kW Hv au;have Ny:=yf.out.w1;obtain⟨v0,v1,v2⟩:=Hv.out.w3;replace Hb:=bD Hb au;refine hK _ _ (λ_=>⟨k0,k1,k2,Ny,v0,v1,v2⟩) ?_;try simp only[UU]
      refine aY rfl rfl (λK hK=>?_);go_simp;have DV:=Chg.aCk (Chg.aCk Fq.out ju.out) Hb.out;have GP:=(eQ.out.below ju.out).below Hb.out;have Br:=Chg.aCk (Chg.aCk aX.out ju.out) Hb.out;obtain⟨Hc7,Aj,HW7⟩:=cE DV GP Br;clear DV GP Br;with_reducible refine(Hi2.out _ g cq Hc7.out Aj.out Hgg.out (Hod.out.below Hb.out) Qm.out).mono ?_
      rintro e9 w9 ⟨⟨r9,rfl⟩,yI,GQ⟩;obtain⟨pK,Ps⟩:=aU yI (HW7.out.trans GQ (λb h=>.inl h));clear yI GQ;refine hK _ _ (λh=>absurd h zd) ?_;try simp only[UU]
      simp only[bP];go_wp2;go_roundw;case rel=>exact⟨j+1,by omega,by go_num,pK.out,Ps.out⟩
      case measure=>exact bH
    . obtain rfl:j=n1:=by omega
      rw[KG.out]at pB;obtain⟨eQ,Fq⟩:=aU pB hcw;clear pB pb hcw jf;go_wp2;exact bodyPost_ret (results_none rfl _ _ _) rfl ⟨⟨_,rfl⟩,eQ.out,Fq.out⟩
end Go.Proofs.YtnjfebkelecgaaaGreatDoor
