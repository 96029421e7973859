/- ogeelaw24: of. -/
import Derived.Test.YtbkopgdpcijfbaaGreatDoorZ7
import Derived.Test.YtbkopgdpcijfbaaGreatDoorZ30
import Derived.Deep.AppendLies
set_option linter.all false
set_option maxRecDepth 100000
set_option maxHeartbeats 16000000
namespace Go.Proofs.YtbkopgdpcijfbaaGreatDoor
open Go.RowKit
attribute [local go_sem ↓] Go.wp_at_zero Go.wp_at_succ
def vY (ns:List Nat)(M:Nat):List Pr:=(List.range M).map λi=>(dJ (ns.getD (2*i) 0),dJ (ns.getD (2*i+1) 0))
def apu (ns:List Nat)(M k:Nat)(hk:k<M):(((vY ns M).map fg).take (k+1)).flatMap cK=(((vY ns M).map fg).take k).flatMap cK++cK (fg (dJ (ns.getD (2*k) 0),dJ (ns.getD (2*k+1) 0))):=by rw[List.take_succ_eq_append_getElem (by simpa[vY]using hk),List.flatMap_append];simp[vY]
def aib (ns:List Nat)(M N:Nat)(a:Option Addr)(cap:Nat)(w:World)(hN:ns.length=N)(hM:2*M=N)(hl:M<=1000)(hs:∀n∈ns,n<=1000000)(ha:At w a (om (ns.map λ(n:Nat)=>(n:Int)))):
 Cl 43 #[.slice a N cap] w λe w'=>∃a2 c2,e=.returned (.slice a2 M c2)/\At w' a2 (((vY ns M).map fg).flatMap cK)/\Bw w w':=by
 obtain⟨j0,hj,hy0,hy1,hy2⟩:=info_parts Tryz.aGx;have hnx:=apu ns M;obtain⟨S,hS⟩:=aB ((vY ns M).map fg);have nU:S.length=M:=by rw[<-hS];simp[vY]
 rw[hS];simp only[hS]at hnx;obtain⟨Hj,nK,rX,rY,Ha,Hs,HN,Qi,uy,HM⟩:=yC hj hy0 hy1 hy2 ha hs hN nU hnx hM;clear hj hy0 hy1 hy2 ha hs hN nU hnx hS hM;have hNM:N<=2000:=by have:=HM.out;omega
 have Hb:=hbz w;go_enter Tryz.func43,Tryz.ntmps43;go_wp2_with fail;go_loopw[3,4] (λs3 x wr=>∃(k:Nat) (v:Value),k<=M/\x=af (2* (k:Int))/\v=s3/\wr.ownsRow w.heap.size 119 6 v k ((S.take k).flatMap cK)/\Bw w wr) (λ_ x _=>N-(intOf x).toNat);case atStart=>exact⟨0,_,Nat.zero_le _,rfl,rfl,World.ownsRow_nil _ _ _ _,Hb.out⟩
 case round=>
  clear Hb;obtain⟨k,v,hk,rfl,rfl,ho,pb⟩:=hrel;by_cases hlt:k<M
  . have hM:=HM.out;have hi1:2*k<ns.length:=by rw[HN.out];omega
    have hi2:2*k+1<ns.length:=by rw[HN.out];omega
    obtain⟨x1,hx1⟩:∃x,ns[2*k]=x:=⟨_,rfl⟩;obtain⟨x2,hx2⟩:∃x,ns[2*k+1]=x:=⟨_,rfl⟩;obtain⟨X1,hX1⟩:∃X,dJ x1=X:=⟨_,rfl⟩;obtain⟨X2,tJ⟩:∃X,dJ x2=X:=⟨_,rfl⟩;have hsk:=uy.out k hlt;rw[show ns.getD (2*k) 0=x1 by rw[<-hx1];simp[hi1],show ns.getD (2*k+1) 0=x2 by rw[<-hx2];simp[hi2],hX1,tJ]at hsk;have agp:(S.take (k+1)).flatMap cK=(S.take k).flatMap cK++[ag (az (dN X1)),ah (nt (dN X1).natAbs),af (dE X1),ag (az (dN X2)),ah (nt (dN X2).natAbs),af (dE X2)]:=hsk;have gA:=λW=>(kC x1 X1 hX1 W (by rw[<-hx1];exact Hs.out _ (List.getElem_mem hi1)));have oh:=λW=>(kC x2 X2 tJ W (by rw[<-hx2];exact Hs.out _ (List.getElem_mem hi2)));obtain⟨b,o,hab,hc1⟩:=(Ha.out.below pb).ig (2*k) (by simpa using hi1);obtain⟨b',o',nY,hc2⟩:=(Ha.out.below pb).ig (2*k+1) (by simpa using hi2);have lbb:b<w.heap.size:=by obtain⟨b3,o3,h3,hw3⟩:=Ha.out.ig (2*k) (by simpa using hi1);rw[hab]at h3;simp only[Option.some.injEq,Addr.mk.injEq,and_true]at h3;rw[h3.1];exact World.block_lt_of_cell? w _ hw3
    subst hab;simp only[Option.some.injEq,Addr.mk.injEq,and_true]at nY;obtain⟨rfl,rfl⟩:=nY;have hg1:(ns.map λ(n:Nat)=>(n:Int)).getD (2*k) 0=(x1:Int):=by rw[<-hx1];simp[hi1]
    have hg2:(ns.map λ(n:Nat)=>(n:Int)).getD (2*k+1) 0=(x2:Int):=by rw[<-hx2];simp[hi2]
    rw[hg1]at hc1;rw[hg2]at hc2;obtain⟨i1,ae8⟩:=aB (2*k);obtain⟨i2,ae9⟩:=aB (2*k+1);have pE:=Kg N cap i1 (2* (k:Int)) (rfl:(some ⟨b,o,none⟩:Option Addr)=_) zo zo;have kv:=Kg N cap i2 (2* (k:Int)+1) (rfl:(some ⟨b,o,none⟩:Option Addr)=_) zo zo;rw[Nat.mul_one]at pE kv;rw[ae8]at hc1;rw[ae9]at hc2;have Hp:Hid (aZ wr b (o+i1) [af (x1:Int)]):=λj hj=>by
     obtain rfl:j=0:=by simp at hj;omega
     exact hc1
    have Hq:Hid (aZ wr b (o+i2) [af (x2:Int)]):=λj hj=>by
     obtain rfl:j=0:=by simp at hj;omega
     exact hc2
    have Vn:2* (k:Int)+1<(N:Int):=by omega
    have JB:decide (2* (k:Int)+1<(N:Int))=true:=by simpa using Vn
    have auC:IntKind.i64.wrap (2* (k:Int)+1)=2* (k:Int)+1:=by rw[IntKind.wrap_i64];omega
    obtain⟨y1,agL⟩:∃y:Int,(x1:Int)=y:=⟨_,rfl⟩;obtain⟨y2,agM⟩:∃y:Int,(x2:Int)=y:=⟨_,rfl⟩;rw[agL]at Hp gA;rw[agM]at Hq oh;obtain⟨DI,Hn2,Ho,bo,ze⟩:=gT gA oh ho pb agp;have kD:=pb.size;clear gA oh ho pb hsk agp hx1 hx2 hX1 tJ hc1 hc2 agL agM ae8 ae9 hi1 hi2 hM hg1 hg2;have Hb:=hbz wr;go_wp2_with fail;obtain⟨ae,ak⟩:=qZ (Hp.an<|Hq.an trivial);obtain⟨Hp,Hq,_⟩:=ae;have p0:=Hp.out.w1;have q0:=Hq.out.w1;refine fh (λw'=>aH w' b (o+i1) (af y1)/\aH w' b (o+i2) (af y2)) (λi=>Nat.blt i 100000) [(0,true),(1,true),(2,true),(3,true),(4,true),(6,true),(7,true),(8,true),(9,true),(10,true),(5,false),(11,false),(12,true),(13,false),(14,false),(15,true)] zk zk rfl zk zc ⟨p0,q0⟩ ?_;iterate 10 (refine pT rfl rfl ?_ (by intro w' ⟨q0,q1⟩;go_simp;try with_reducible rfl);try simp only[UU])
    refine aM rfl rfl (λK hK=>?_);go_simp;with_reducible refine(DI.out _).mono ?_
    rintro e w4 ⟨rfl,hq⟩;have ai:Bw wr w4:=by first|exact hq|exact cu hq
    replace Hp:=kW Hp ai;replace Hq:=kW Hq ai;have p0:=Hp.out.w1;have q0:=Hq.out.w1;replace Hb:=aW Hb ai;refine hK _ _ (λ_=>⟨p0,q0⟩) ?_;try simp only[UU]
    refine aM rfl rfl (λK hK=>?_);go_simp;with_reducible refine(Hn2.out _).mono ?_
    rintro e w5 ⟨rfl,hq⟩;have ai:Bw w4 w5:=by first|exact hq|exact cu hq
    replace Hp:=kW Hp ai;replace Hq:=kW Hq ai;have p0:=Hp.out.w1;have q0:=Hq.out.w1;replace Hb:=aW Hb ai;refine hK _ _ (λ_=>⟨p0,q0⟩) ?_;try simp only[UU]
    refine pT rfl rfl ?_;try simp only[UU]
    refine aM rfl rfl (λK hK=>?_);go_simp;refine hK _ _ (λ_=>⟨aU p0,aU q0⟩) ?_;try simp only[UU]
    refine cB (λW6=>ar W6 (w5.heap.size) 119 [ag (az (dN X1)),ah (nt (dN X1).natAbs),af (dE X1),ag (az (dN X2)),ah (nt (dN X2).natAbs),af (dE X2)]/\Bw w5 W6) (by first|exact iX|exact iY) ?_;rintro W6 ⟨qc,ai⟩;replace Hp:=kW Hp ai;replace Hq:=kW Hq ai;have Hc:=aj qc;clear qc;have p0:=Hp.out.w1;have q0:=Hq.out.w1;obtain⟨c0,c1,c2,c3,c4,c5⟩:=Hc.out.c6;replace Hb:=aW Hb ai;refine aM rfl rfl (λK hK=>?_);have bW:=ownsRow_below Ho.out Hb.out;have jq:=Hb.out.size;refine wp_append_own _ _ _ 58 rfl w.heap.size 119 j0 _ 6 64 Tryz.underlying58 Hj.out nK.out rX.out rY.out rfl zd v k ((S.take k).flatMap cK) rfl bW ⟨w5.heap.size,0,none⟩ 1 1 [ag (az (dN X1)),ah (nt (dN X1).natAbs),af (dE X1),ag (az (dN X2)),ah (nt (dN X2).natAbs),af (dE X2)] rfl rfl (ji Hc.out) zy zx zo zo ?_;intro v' w8 gm cF _;obtain⟨g',cq,rfl⟩:=ownsRow_succ gm;have nb:∀b,b<w.heap.size->some b≠v.ownBlock:=λb hb e=>by have:=eo bW b e.symm;omega
    refine hK _ _ (λ_=>⟨eF cF p0 (nb _ zp),eF cF q0 (nb _ zp)⟩) ?_;try simp only[UU]
    have mW:=(aI bo.out Hb.out).grown cF zo (λj e=>eo bW j e);have nI:=aj mW;rw[<-ze.out]at gm;have rS:=aj gm;refine pT rfl rfl ?_;try simp only[UU]
    simp only[bH];clear nb bW gm cF mW p0 q0 c0 c1 c2 c3 c4 c5;go_wp2;go_roundw;case rel=>exact⟨k+1,_,by omega,by go_num,rfl,rS.out,nI.out⟩
    case measure=>exact bC
  . obtain rfl:k=M:=by omega
    have hM:=HM.out;rw[List.take_of_length_le (by rw[Qi.out];exact Nat.le_refl _)]at ho;obtain⟨a2,c2,rfl,hat,_⟩:=dZ ho;obtain⟨dL,bo⟩:=aK hat pb;have Vn:¬2* (k:Int)+1<(N:Int):=by omega
    have JB:decide (2* (k:Int)+1<(N:Int))=false:=by simpa using Vn
    have auC:IntKind.i64.wrap (2* (k:Int)+1)=2* (k:Int)+1:=by rw[IntKind.wrap_i64];omega
    clear hat pb ho;go_wp2;refine bodyPost_ret (results_tmp rfl _ _ _) rfl ⟨a2,⟨c2,rfl⟩,dL.out,bo.out⟩
end Go.Proofs.YtbkopgdpcijfbaaGreatDoor
