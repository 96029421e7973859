/- ogeelaw24: of. -/
import Derived.Test.YtoopepmmepmfnaaGreatDoorZ19
import Derived.Deep.AppendLies
set_option linter.unusedVariables false
set_option linter.unusedSimpArgs false
set_option maxRecDepth 100000
set_option maxHeartbeats 16000000
namespace Go.Proofs.YtoopepmmepmfnaaGreatDoor
open Go.RowKit
attribute [local go_sem ↓] Go.wp_at_zero Go.wp_at_succ
def uk (ns:List Nat)(M:Nat):List Pr:=(List.range M).map λi=>(dJ (ns.getD (2*i) 0),dJ (ns.getD (2*i+1) 0))
theorem air (ns:List Nat)(M k:Nat)(hk:k<M):(((uk ns M).map fw).take (k+1)).flatMap dP=(((uk ns M).map fw).take k).flatMap dP++dP (fw (dJ (ns.getD (2*k) 0),dJ (ns.getD (2*k+1) 0))):=by rw[List.take_succ_eq_append_getElem (by simpa[uk]using hk),List.flatMap_append];simp[uk]
theorem abW (ns:List Nat)(M N:Nat)(a:Option Addr)(cap:Nat)(w:World)(hN:ns.length=N)(hM:2*M=N)(hl:M<=1000)(hs:∀n∈ns,n<=1000000)(ha:At w a (mS (ns.map λ(n:Nat)=>(n:Int)))):
 Calls Tryz.prog 29 #[.slice a N cap] w λe w'=>∃a2 c2,e=.returned (.slice a2 M c2)/\At w' a2 (((uk ns M).map fw).flatMap dP)/\Bw w w':=by
 obtain⟨j0,hj,hy0,hy1,hy2⟩:=info_parts Tryz.axa;have hnx:=air ns M;obtain⟨S,hS⟩:=aG ((uk ns M).map fw);have gT:S.length=M:=by rw[<-hS];simp[uk]
 rw[hS];simp only[hS]at hnx;obtain⟨Hj,jA,kz,kC,Ha,Hs,HN,Ea,nE,HM⟩:=tM hj hy0 hy1 hy2 ha hs hN gT hnx hM;clear hj hy0 hy1 hy2 ha hs hN gT hnx hS hM;have hNM:N<=2000:=by have:=HM.out;omega
 have Hb:Hid (Bw w w):=Below.refl _ _;go_enter Tryz.func29,Tryz.ntmps29;go_wp2_with fail;go_loopw[3,4] (λs3 x wr=>∃(k:Nat) (v:Value),k<=M/\x=af (2* (k:Int))/\v=s3/\wr.ownsRow w.heap.size 61 6 v k ((S.take k).flatMap dP)/\Bw w wr) (λ_ x _=>N-(intOf x).toNat);case atStart=>exact⟨0,_,Nat.zero_le _,rfl,rfl,World.ownsRow_nil _ _ _ _,Hb.out⟩
 case round=>
  clear Hb;obtain⟨k,v,hk,rfl,rfl,ho,pb⟩:=hrel;by_cases hlt:k<M
  . have hM:=HM.out;have hi1:2*k<ns.length:=by rw[HN.out];omega
    have hi2:2*k+1<ns.length:=by rw[HN.out];omega
    obtain⟨x1,hx1⟩:∃x,ns[2*k]=x:=⟨_,rfl⟩;obtain⟨x2,hx2⟩:∃x,ns[2*k+1]=x:=⟨_,rfl⟩;obtain⟨X1,hX1⟩:∃X,dJ x1=X:=⟨_,rfl⟩;obtain⟨X2,pX⟩:∃X,dJ x2=X:=⟨_,rfl⟩;have hsk:=nE.out k hlt;rw[show ns.getD (2*k) 0=x1 by rw[<-hx1];simp[hi1],show ns.getD (2*k+1) 0=x2 by rw[<-hx2];simp[hi2],hX1,pX]at hsk;have aar:(S.take (k+1)).flatMap dP=(S.take k).flatMap dP++[ag (au (dN X1)),ah (nt (dN X1).natAbs),af (dE X1),ag (au (dN X2)),ah (nt (dN X2).natAbs),af (dE X2)]:=hsk;have gj:=λW=>(ku x1 X1 hX1 W (by rw[<-hx1];exact Hs.out _ (List.getElem_mem hi1)));have tF:=λW=>(ku x2 X2 pX W (by rw[<-hx2];exact Hs.out _ (List.getElem_mem hi2)));obtain⟨b,o,hab,hc1⟩:=(Ha.out.below pb).ig (2*k) (by simpa using hi1);obtain⟨b',o',jk,hc2⟩:=(Ha.out.below pb).ig (2*k+1) (by simpa using hi2);have lbb:b<w.heap.size:=by obtain⟨b3,o3,h3,hw3⟩:=Ha.out.ig (2*k) (by simpa using hi1);rw[hab]at h3;simp only[Option.some.injEq,Addr.mk.injEq,and_true]at h3;rw[h3.1];exact World.block_lt_of_cell? w _ hw3
    subst hab;simp only[Option.some.injEq,Addr.mk.injEq,and_true]at jk;obtain⟨rfl,rfl⟩:=jk;have hg1:(ns.map λ(n:Nat)=>(n:Int)).getD (2*k) 0=(x1:Int):=by rw[<-hx1];simp[hi1]
    have hg2:(ns.map λ(n:Nat)=>(n:Int)).getD (2*k+1) 0=(x2:Int):=by rw[<-hx2];simp[hi2]
    rw[hg1]at hc1;rw[hg2]at hc2;obtain⟨i1,Zq⟩:=aG (2*k);obtain⟨i2,Zr⟩:=aG (2*k+1);have nQ:=aaR N cap i1 (2* (k:Int)) (rfl:(some ⟨b,o,none⟩:Option Addr)=_) zo zo;have kJ:=aaR N cap i2 (2* (k:Int)+1) (rfl:(some ⟨b,o,none⟩:Option Addr)=_) zo zo;rw[Nat.mul_one]at nQ kJ;rw[Zq]at hc1;rw[Zr]at hc2;have Hp:Hid (bH wr b (o+i1) [af (x1:Int)]):=λj hj=>by
     obtain rfl:j=0:=by simp at hj;omega
     exact hc1
    have Hq:Hid (bH wr b (o+i2) [af (x2:Int)]):=λj hj=>by
     obtain rfl:j=0:=by simp at hj;omega
     exact hc2
    have Le:2* (k:Int)+1<(N:Int):=by omega
    have nU:decide (2* (k:Int)+1<(N:Int))=true:=by simpa using Le
    have amj:IntKind.i64.wrap (2* (k:Int)+1)=2* (k:Int)+1:=by rw[IntKind.wrap_i64];omega
    obtain⟨y1,aaK⟩:∃y:Int,(x1:Int)=y:=⟨_,rfl⟩;obtain⟨y2,aaL⟩:∃y:Int,(x2:Int)=y:=⟨_,rfl⟩;rw[aaK]at Hp gj;rw[aaL]at Hq tF;obtain⟨BN,Hn2,Ho,bu,uh⟩:=gJ gj tF ho pb aar;have iy:=pb.size;clear gj tF ho pb hsk aar hx1 hx2 hX1 pX hc1 hc2 aaK aaL Zq Zr hi1 hi2 hM hg1 hg2;have Hb:Hid (Bw wr wr):=Below.refl _ _;go_wp2_with fail;have p0:=Hp.out.w1;have q0:=Hq.out.w1;refine bR (λw'=>aC w' b (o+i1) (af y1)/\aC w' b (o+i2) (af y2)) (λi=>Nat.blt i 100000) [(0,true),(1,true),(2,true),(3,true),(4,true),(6,true),(7,true),(8,true),(9,true),(10,true),(5,false),(11,false),(12,true),(13,false),(14,false),(15,true)] zk zk rfl zk zc ⟨p0,q0⟩ ?_;iterate 10 (refine pT rfl rfl ?_ (by intro w' ⟨q0,q1⟩;go_simp;try with_reducible rfl);try simp only[UU])
    refine aI rfl rfl (λK hK=>?_);go_simp;with_reducible refine(BN.out _).mono ?_
    rintro e w4 ⟨rfl,hq⟩;have ae:Bw wr w4:=by first|exact hq|exact aW hq
    clear p0 q0;replace Hp:=kW Hp ae;replace Hq:=kW Hq ae;have p0:=Hp.out.w1;have q0:=Hq.out.w1;replace Hb:=aB Hb ae;clear ae;refine hK _ _ (λ_=>⟨p0,q0⟩) ?_;clear hK K;try simp only[UU]
    refine aI rfl rfl (λK hK=>?_);go_simp;with_reducible refine(Hn2.out _).mono ?_
    rintro e w5 ⟨rfl,hq⟩;have ae:Bw w4 w5:=by first|exact hq|exact aW hq
    clear p0 q0;replace Hp:=kW Hp ae;replace Hq:=kW Hq ae;have p0:=Hp.out.w1;have q0:=Hq.out.w1;replace Hb:=aB Hb ae;clear ae;refine hK _ _ (λ_=>⟨p0,q0⟩) ?_;clear hK K;try simp only[UU]
    refine pT rfl rfl ?_;try simp only[UU]
    refine aI rfl rfl (λK hK=>?_);go_simp;refine hK _ _ (λ_=>⟨aL p0,aL q0⟩) ?_;clear hK K;try simp only[UU]
    refine bV (λW6=>ar W6 (w5.heap.size) 61 [ag (au (dN X1)),ah (nt (dN X1).natAbs),af (dE X1),ag (au (dN X2)),ah (nt (dN X2).natAbs),af (dE X2)]/\Bw w5 W6) (by first|exact fe|exact fg) ?_;rintro W6 ⟨qc,ae⟩;clear p0 q0;replace Hp:=kW Hp ae;replace Hq:=kW Hq ae;have Hc:=ai qc;clear qc;have p0:=Hp.out.w1;have q0:=Hq.out.w1;obtain⟨c0,c1,c2,c3,c4,c5⟩:=Hc.out.c6;replace Hb:=aB Hb ae;clear ae;refine aI rfl rfl (λK hK=>?_);have di:=ownsRow_below Ho.out Hb.out;have jR:=Hb.out.size;refine wp_append_own _ _ _ 23 rfl w.heap.size 61 j0 _ 6 64 Tryz.underlying23 Hj.out jA.out kz.out kC.out rfl zd v k ((S.take k).flatMap dP) rfl di ⟨w5.heap.size,0,none⟩ 1 1 [ag (au (dN X1)),ah (nt (dN X1).natAbs),af (dE X1),ag (au (dN X2)),ah (nt (dN X2).natAbs),af (dE X2)] rfl rfl (ic Hc.out) zy zx zo zo ?_;intro v' w8 fB bM _;obtain⟨g',cq,rfl⟩:=ownsRow_succ fB;have nb:∀b,b<w.heap.size->some b≠v.ownBlock:=λb hb e=>by have:=dz di b e.symm;omega
    refine hK _ _ (λ_=>⟨cV bM p0 (nb _ zp),cV bM q0 (nb _ zp)⟩) ?_;clear hK K;try simp only[UU]
    have iA:=(aJ bu.out Hb.out).grown bM zo (λj e=>dz di j e);have gY:=ai iA;rw[<-uh.out]at fB;have jL:=ai fB;refine pT rfl rfl ?_;try simp only[UU]
    simp only[bi];clear nb di fB bM iA p0 q0 c0 c1 c2 c3 c4 c5;go_wp2;go_roundw;case rel=>exact⟨k+1,_,by omega,by go_num,rfl,jL.out,gY.out⟩
    case measure=>simp[intOf];omega
  . obtain rfl:k=M:=by omega
    have hM:=HM.out;rw[List.take_of_length_le (by rw[Ea.out];exact Nat.le_refl _)]at ho;obtain⟨a2,c2,rfl,hat,_⟩:=eo ho;obtain⟨eH,bu⟩:=aO hat pb;have Le:¬2* (k:Int)+1<(N:Int):=by omega
    have nU:decide (2* (k:Int)+1<(N:Int))=false:=by simpa using Le
    have amj:IntKind.i64.wrap (2* (k:Int)+1)=2* (k:Int)+1:=by rw[IntKind.wrap_i64];omega
    clear hat pb ho;go_wp2;refine bodyPost_ret (results_tmp rfl _ _ _) rfl ⟨a2,⟨c2,rfl⟩,eH.out,bu.out⟩
end Go.Proofs.YtoopepmmepmfnaaGreatDoor
