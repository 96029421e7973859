/- Package poly: Check. -/
import Derived.Test.YtoopepmmepmfnaaGreatDoorZ11
import Derived.Test.YtoopepmmepmfnaaGreatDoorZ7
set_option linter.unusedVariables false
set_option linter.unusedSimpArgs false
set_option maxRecDepth 100000
set_option maxHeartbeats 16000000
namespace Go.Proofs.YtoopepmmepmfnaaGreatDoor
open Go.RowKit
attribute [local go_sem ↓] Go.wp_at_zero Go.wp_at_succ
theorem Su (X:Dyadic)(s:Bool)(m:List UInt8)(e:Int)(b:Bool)(h:(canon X==(s,m,e))= !b)(w':World):
 (if au (dN X)=s then if(bs (nt (dN X).natAbs)).toList=(bs m).toList then if dE X=e then Result.ok (Next.value (Value.bool false)) w' else Result.ok (Next.value (Value.bool true)) w' else Result.ok (Next.value (Value.bool true)) w' else Result.ok (Next.value (Value.bool true)) w')=Result.ok (Next.value (Value.bool b)) w':=by
 have ht:∀x y:List UInt8,(bs x).toList=(bs y).toList↔x=y:=λx y=>by rw[gu,gu]
 have hc:(canon X==(s,m,e))=decide (au (dN X)=s/\nt (dN X).natAbs=m/\dE X=e):=by rw[Bool.eq_iff_iff];simp[canon]
 rw[hc]at h;simp only[ht];cases b with
 | false=>
   have h2:au (dN X)=s/\nt (dN X).natAbs=m/\dE X=e:=by simpa using h
   rw[if_pos h2.1,if_pos h2.2.1,if_pos h2.2.2]
 | true=>
   have h2:¬(au (dN X)=s/\nt (dN X).natAbs=m/\dE X=e):=by intro h3;rw[decide_eq_true h3]at h;cases h
   by_cases h3:au (dN X)=s
   . rw[if_pos h3];by_cases h4:nt (dN X).natAbs=m
     . rw[if_pos h4,if_neg (λh5=>h2 ⟨h3,h4,h5⟩)]
     . rw[if_neg h4]
   . rw[if_neg h3]
theorem ab9 (V:Int)(a:Option Addr)(cap N:Nat)(ts:List aM)(w:World)(hN:ts.length=N)(hn:N<=1048576)(ha:At w a (ts.flatMap aX))(hl:∀t∈ts,t.1.length<=9223372036854775807/\Ok t.2)(hT:aH w):
 Calls Tryz.prog 150 #[.agg #[af V,.slice a N cap]] w λe w'=>e=.returned (af (AZ V ts))/\Bw w w':=by
 obtain⟨Ha,Hl,HN,fV⟩:=dx ha hl hN hT;obtain⟨R,hR⟩:=aG (AZ V ts);unfold AZ at hR;rw[hN]at hR;rw[show AZ V ts=R by unfold AZ;rw[hN];exact hR];have HR:=ai hR;clear ha hl hN hR hT;obtain⟨W,cg,Hb,Hp⟩:=fJ w 91 [af V,.slice a N cap];obtain⟨p0,p1⟩:=Hp.out.c2;go_enter Tryz.func150,Tryz.ntmps150;go_wp2_with fail;refine(Kj V _).mono ?_;rintro e w1 ⟨rfl,ae⟩;clear p0 p1;obtain⟨Hp,p0,p1⟩:=aR Hp ae;replace Hb:=aB Hb ae;clear ae;by_cases h1:0<=V/\V<=12
 . by_cases h2:4096<N
   . have h3:(4096:Int)<(N:Int):=by omega
     have hR:=HR.out;rw[if_neg (λh=>h h1),if_pos h2]at hR;clear HR;subst hR;go_wp2;exact bodyPost_ret (v:=af 3) (by simp[results,Tryz.results150,go_sem]) rfl ⟨rfl,df⟩
   . have h3:¬(4096:Int)<(N:Int):=by omega
     have h3d:decide ((4096:Int)<(N:Int))=false:=by simp;omega
     have hR:Hid ((if(List.range N).all (sW V ts)then(0:Int)else 1)=R):=by
      show _=_
      have hR:=HR.out;rw[if_neg (λh=>h h1),if_neg h2]at hR;exact hR
     clear HR;obtain⟨bW,kZ⟩:=aO Hb.out Hp.out;clear Hb Hp p0 p1;have p0:w1.cell? ⟨w.heap.size,0,none⟩=some (af V):=kZ.out.cell 0;have p1:w1.cell? ⟨w.heap.size,1,none⟩=some (.slice a N cap):=kZ.out.cell 1;go_wp2_with fail;go_loopw[16] (λx wr=>∃k:Nat,k<=N/\x=af (k:Int)/\(List.range k).all (sW V ts)=true/\ar wr w.heap.size 91 [af V,.slice a N cap]/\Bw w wr) (λx _=>N-(intOf x).toNat);case atStart=>exact⟨0,Nat.zero_le _,rfl,rfl,kZ.out,bW.out⟩
     case round=>
      clear bW kZ p0 p1;obtain⟨k,hk,rfl,lw,gm,pb⟩:=hrel;by_cases hlt:k<N
      . have hk2:k<ts.length:=by rw[HN.out];exact hlt
        obtain⟨l,s,m,e,hx⟩:∃l s m e,ts[k]=(l,s,m,e):=⟨_,_,_,_,rfl⟩;obtain⟨b,o,hab,dH⟩:=(Ha.out.below pb).term k hk2 hx;have hl2:l.length<=9223372036854775807/\Ok (s,m,e):=by have:=Hl.out _ (List.getElem_mem hk2);rw[hx]at this;exact this
        have WY:ts.getD k default=(l,s,m,e):=by simp[hk2,hx]
        have Zo:(List.range (k+1)).all (sW V ts)=sW V ts k:=by rw[List.range_succ,List.all_append,lw];simp
        have hbad:sW V ts k=false->R=1:=by intro h;rw[<-hR.out,if_neg];intro h5;rw[List.all_eq_true]at h5;have:=h5 k (List.mem_range.2 hlt);rw[h]at this;cases this
        have xD:sW V ts k=(Fi V l (s,m,e)&&(k==0||Op.bytesLess (bs (ts.getD (k-1) default).1).toList (bs l).toList)):=by unfold sW;rw[WY]
        have bK:=kP N cap k (k:Int) hab hlt rfl;obtain⟨X,hX⟩:=aG (az (s,m,e));obtain⟨sg,gU⟩:=aG (bA X);have hgt:Fi V l (s,m,e)=(gp l V&& !(sg==0)&&(canon X==(s,m,e))):=by unfold Fi;rw[hX,gU]
        rw[hgt]at xD;obtain⟨VB,nD,bu,yO,UR,BC,HX⟩:=jT dH hl2 pb xD Zo hbad hX;have jM:Hid (bA (az (s,m,e))=sg):=by show _=_;rw[hX];exact gU
        have Hp:=ai gm;have HU:Hid (aH wr):=fV.out.below pb;clear dH hl2 xD Zo hbad hX gU hgt WY gm hx;have mD:=ai hab;clear hab;have Hb:Hid (Bw wr wr):=Below.refl _ _;have sz:=pb.size;have pQ:Hid (bH wr b (o+k*4) [ah l,ag s,ah m,af e]):=VB.out;obtain⟨p0,p1⟩:=Hp.out.c2;obtain⟨wD,wE,wF,wG⟩:=pQ.out.w4;have HU:Hid (aH wr):=HU.out;have P0:=wD;have P1:=wE;have P2:=wF;have P3:=wG;have anp:=Hp.out.lt;obtain⟨W4,lU,ae,Ht⟩:=cd wr 93 [ah l,ag s,ah m,af e];clear p0 p1;replace Hp:=kB Hp ae;clear wD wE wF wG;replace pQ:=kW pQ ae;replace HU:=kT HU ae;obtain⟨p0,p1⟩:=Hp.out.c2;obtain⟨wD,wE,wF,wG⟩:=pQ.out.w4;obtain⟨t0,t1,t2,t3⟩:=Ht.out.c4;replace Hb:=aB Hb ae;clear ae wD wE wF wG pQ VB;cases hmv:gp l V with
        | false=>
          have hr:=BC.out (by rw[yO.out,hmv];rfl);subst hr;have jF:=λW=>LR l V W (by have:=nD.out.1;omega);rw[hmv]at jF;have sH:=ai jF;clear jF;go_wp2_with fail;refine bR (λw'=>aC w' (w.heap.size) 0 (af V)/\aC w' (w.heap.size) 1 (.slice a N cap)/\aC w' (wr.heap.size) 0 (ah l)/\aC w' (wr.heap.size) 1 (ag s)/\aC w' (wr.heap.size) 2 (ah m)/\aC w' (wr.heap.size) 3 (af e)) (λi=>Nat.blt i 100000) [(0,true),(1,true),(2,true),(3,true),(4,false),(5,true),(6,true),(7,true),(8,true),(9,false),(10,true),(11,true),(12,true),(13,true),(14,true),(16,true),(17,true),(15,false),(18,true),(19,true),(20,true),(21,true),(22,true),(23,true),(24,true),(25,true),(26,true),(27,true),(28,true),(29,true),(30,true),(31,true),(32,true),(33,true),(34,true),(35,true)] zk zk rfl zk zc ⟨p0,p1,t0,t1,t2,t3⟩ ?_;iterate 4 (refine pT rfl rfl ?_ (by intro w' ⟨q0,q1,q2,q3,q4,q5⟩;go_simp;try with_reducible rfl);try simp only[UU])
          refine aI rfl rfl (λK hK=>?_);go_simp;with_reducible refine(sH.out _).mono ?_
          rintro e w5 ⟨rfl,hq⟩;have ae:Bw W4 w5:=by first|exact hq|exact aW hq
          clear p0 p1 t0 t1 t2 t3;obtain⟨Hp,p0,p1⟩:=aR Hp ae;replace HU:=kT HU ae;obtain⟨Ht,t0,t1,t2,t3⟩:=dU Ht ae;replace Hb:=aB Hb ae;clear ae;refine hK _ _ (λ_=>⟨p0,p1,t0,t1,t2,t3⟩) ?_;clear hK K;try simp only[UU]
          iterate 2 (refine pT rfl rfl ?_;try simp only[UU])
          refine bF rfl rfl ?_;try simp only[UU]
          refine bF rfl rfl ?_;try simp only[UU]
          refine Dn rfl rfl (λ_=>⟨p0,p1,t0,t1,t2,t3⟩) ?_;try simp only[UU]
          refine bF rfl rfl ?_;try simp only[UU]
          iterate 2 (refine pT rfl rfl ?_;try simp only[UU])
          refine bF rfl rfl ?_;try simp only[UU]
          refine bF rfl rfl ?_;try simp only[UU]
          refine bF rfl rfl ?_;try simp only[UU]
          refine bF rfl rfl ?_;try simp only[UU]
          refine Dn rfl rfl (λ_=>⟨p0,p1,t0,t1,t2,t3⟩) ?_;try simp only[UU]
          refine bF rfl rfl ?_;try simp only[UU]
          iterate 2 (refine pT rfl rfl ?_;try simp only[UU])
          refine bF rfl rfl ?_;try simp only[UU]
          refine bF rfl rfl ?_;try simp only[UU]
          refine bF rfl rfl ?_;try simp only[UU]
          refine bF rfl rfl ?_;try simp only[UU]
          refine bF rfl rfl ?_;try simp only[UU]
          refine bF rfl rfl ?_;try simp only[UU]
          refine bF rfl rfl ?_;try simp only[UU]
          refine bF rfl rfl ?_;try simp only[UU]
          refine bF rfl rfl ?_;try simp only[UU]
          refine bF rfl rfl ?_;try simp only[UU]
          refine bF rfl rfl ?_;try simp only[UU]
          refine bF rfl rfl ?_;try simp only[UU]
          refine bF rfl rfl ?_;try simp only[UU]
          refine bF rfl rfl ?_;try simp only[UU]
          refine pT rfl rfl ?_;try simp only[UU]
          simp only[bi];go_wp2;refine bodyPost_ret (results_tmp rfl _ _ _) rfl ⟨rfl,aJ bu.out Hb.out⟩
        | true=>
          have jF:=λW=>LR l V W (by have:=nD.out.1;omega);rw[hmv]at jF;have sH:=ai jF;clear jF;by_cases hs0:sg=0
          . have hr:=BC.out (by rw[yO.out,hmv,hs0];rfl);subst hr hs0;go_wp2_with fail;refine bR (λw'=>aC w' (w.heap.size) 0 (af V)/\aC w' (w.heap.size) 1 (.slice a N cap)/\aC w' (wr.heap.size) 0 (ah l)/\aC w' (wr.heap.size) 1 (ag s)/\aC w' (wr.heap.size) 2 (ah m)/\aC w' (wr.heap.size) 3 (af e)) (λi=>Nat.blt i 100000) [(0,true),(1,true),(2,true),(3,true),(4,false),(5,true),(6,true),(7,true),(8,true),(9,false),(10,true),(11,true),(12,true),(13,true),(14,true),(16,true),(17,true),(15,false),(18,true),(19,true),(20,true),(21,true),(22,true),(23,true),(24,true),(25,true),(26,true),(27,true),(28,true),(29,true),(30,true),(31,true),(32,true),(33,true),(34,true),(35,true)] zk zk rfl zk zc ⟨p0,p1,t0,t1,t2,t3⟩ ?_;iterate 4 (refine pT rfl rfl ?_ (by intro w' ⟨q0,q1,q2,q3,q4,q5⟩;go_simp;try with_reducible rfl);try simp only[UU])
            refine aI rfl rfl (λK hK=>?_);go_simp;with_reducible refine(sH.out _).mono ?_
            rintro e w5 ⟨rfl,hq⟩;have ae:Bw W4 w5:=by first|exact hq|exact aW hq
            clear p0 p1 t0 t1 t2 t3;obtain⟨Hp,p0,p1⟩:=aR Hp ae;replace HU:=kT HU ae;obtain⟨Ht,t0,t1,t2,t3⟩:=dU Ht ae;replace Hb:=aB Hb ae;clear ae;refine hK _ _ (λ_=>⟨p0,p1,t0,t1,t2,t3⟩) ?_;clear hK K;try simp only[UU]
            iterate 4 (refine pT rfl rfl ?_ (by intro w' ⟨q0,q1,q2,q3,q4,q5⟩;go_simp;try with_reducible rfl);try simp only[UU])
            refine aI rfl rfl (λK hK=>?_);go_simp;with_reducible refine(oV s m e 0 jM.out _ nD.out.2).mono ?_
            rintro e w6 ⟨rfl,hq⟩;have ae:Bw w5 w6:=by first|exact hq|exact aW hq
            clear p0 p1 t0 t1 t2 t3;obtain⟨Hp,p0,p1⟩:=aR Hp ae;replace HU:=kT HU ae;obtain⟨Ht,t0,t1,t2,t3⟩:=dU Ht ae;replace Hb:=aB Hb ae;clear ae;refine hK _ _ (λ_=>⟨p0,p1,t0,t1,t2,t3⟩) ?_;clear hK K;try simp only[UU]
            iterate 3 (refine pT rfl rfl ?_;try simp only[UU])
            refine bF rfl rfl ?_;try simp only[UU]
            refine bF rfl rfl ?_;try simp only[UU]
            refine bF rfl rfl ?_;try simp only[UU]
            refine bF rfl rfl ?_;try simp only[UU]
            refine Dn rfl rfl (λ_=>⟨p0,p1,t0,t1,t2,t3⟩) ?_;try simp only[UU]
            refine bF rfl rfl ?_;try simp only[UU]
            iterate 2 (refine pT rfl rfl ?_;try simp only[UU])
            refine bF rfl rfl ?_;try simp only[UU]
            refine bF rfl rfl ?_;try simp only[UU]
            refine bF rfl rfl ?_;try simp only[UU]
            refine bF rfl rfl ?_;try simp only[UU]
            refine bF rfl rfl ?_;try simp only[UU]
            refine bF rfl rfl ?_;try simp only[UU]
            refine bF rfl rfl ?_;try simp only[UU]
            refine bF rfl rfl ?_;try simp only[UU]
            refine bF rfl rfl ?_;try simp only[UU]
            refine bF rfl rfl ?_;try simp only[UU]
            refine bF rfl rfl ?_;try simp only[UU]
            refine bF rfl rfl ?_;try simp only[UU]
            refine bF rfl rfl ?_;try simp only[UU]
            refine bF rfl rfl ?_;try simp only[UU]
            refine pT rfl rfl ?_;try simp only[UU]
            simp only[bi];go_wp2;refine bodyPost_ret (results_tmp rfl _ _ _) rfl ⟨rfl,aJ bu.out Hb.out⟩
          . have hs1:(sg==0)=false:=by simpa using hs0
            by_cases hc:canon X=(s,m,e)
            . have hcb:(canon X==(s,m,e))=true:=by simpa using hc
              have hne:=Su X s m e false hcb;clear hc;by_cases fY:k=0
              . have hg:=yO.out;rw[hmv,hs1,hcb,fY]at hg;have Er:Hid ((List.range (k+1)).all (sW V ts)=true):=by show _=_;rw[UR.out,fY,hg];rfl
                have hk1:decide (0<k)=false:=by simp;omega
                clear hg hcb fY;go_wp2_with fail;refine bR (λw'=>aC w' (w.heap.size) 0 (af V)/\aC w' (w.heap.size) 1 (.slice a N cap)/\aC w' (wr.heap.size) 0 (ah l)/\aC w' (wr.heap.size) 1 (ag s)/\aC w' (wr.heap.size) 2 (ah m)/\aC w' (wr.heap.size) 3 (af e)) (λi=>Nat.blt i 100000) [(0,true),(1,true),(2,true),(3,true),(4,false),(5,true),(6,true),(7,true),(8,true),(9,false),(10,true),(11,true),(12,true),(13,true),(14,true),(16,true),(17,true),(15,false),(18,true),(19,true),(20,true),(21,true),(22,true),(23,true),(24,true),(25,true),(26,true),(27,true),(28,true),(29,true),(30,true),(31,true),(32,true),(33,true),(34,true),(35,true)] zk zk rfl zk zc ⟨p0,p1,t0,t1,t2,t3⟩ ?_;iterate 4 (refine pT rfl rfl ?_ (by intro w' ⟨q0,q1,q2,q3,q4,q5⟩;go_simp;try with_reducible rfl);try simp only[UU])
                refine aI rfl rfl (λK hK=>?_);go_simp;with_reducible refine(sH.out _).mono ?_
                rintro e w5 ⟨rfl,hq⟩;have ae:Bw W4 w5:=by first|exact hq|exact aW hq
                clear p0 p1 t0 t1 t2 t3;obtain⟨Hp,p0,p1⟩:=aR Hp ae;replace HU:=kT HU ae;obtain⟨Ht,t0,t1,t2,t3⟩:=dU Ht ae;replace Hb:=aB Hb ae;clear ae;refine hK _ _ (λ_=>⟨p0,p1,t0,t1,t2,t3⟩) ?_;clear hK K;try simp only[UU]
                iterate 4 (refine pT rfl rfl ?_ (by intro w' ⟨q0,q1,q2,q3,q4,q5⟩;go_simp;try with_reducible rfl);try simp only[UU])
                refine aI rfl rfl (λK hK=>?_);go_simp;with_reducible refine(oV s m e sg jM.out _ nD.out.2).mono ?_
                rintro e w6 ⟨rfl,hq⟩;have ae:Bw w5 w6:=by first|exact hq|exact aW hq
                clear p0 p1 t0 t1 t2 t3;obtain⟨Hp,p0,p1⟩:=aR Hp ae;replace HU:=kT HU ae;obtain⟨Ht,t0,t1,t2,t3⟩:=dU Ht ae;replace Hb:=aB Hb ae;clear ae;refine hK _ _ (λ_=>⟨p0,p1,t0,t1,t2,t3⟩) ?_;clear hK K;try simp only[UU]
                iterate 7 (refine pT rfl rfl ?_ (by intro w' ⟨q0,q1,q2,q3,q4,q5⟩;go_simp;try with_reducible rfl);try simp only[UU])
                refine aI rfl rfl (λK hK=>?_);go_simp;with_reducible refine(sV s m e X HX.out _ nD.out.2 (by first|exact HU.out|exact aH.drew HU.out|exact aH.alloc HU.out _|exact aH.drew (aH.alloc HU.out _) |exact aH.alloc (aH.drew HU.out) _)).mono ?_
                rintro e w7 ⟨rfl,hq⟩;have ae:Bw w6 w7:=by first|exact hq|exact aW hq
                clear p0 p1 t0 t1 t2 t3;obtain⟨Hp,p0,p1⟩:=aR Hp ae;replace HU:=kT HU ae;obtain⟨Ht,t0,t1,t2,t3⟩:=dU Ht ae;replace Hb:=aB Hb ae;clear ae;refine hK _ _ (λ_=>⟨p0,p1,t0,t1,t2,t3⟩) ?_;clear hK K;try simp only[UU]
                iterate 6 (refine pT rfl rfl ?_;try simp only[UU])
                refine bF rfl rfl ?_;try simp only[UU]
                refine bF rfl rfl ?_;try simp only[UU]
                refine bF rfl rfl ?_;try simp only[UU]
                refine bF rfl rfl ?_;try simp only[UU]
                refine bF rfl rfl ?_;try simp only[UU]
                refine bF rfl rfl ?_;try simp only[UU]
                refine bF rfl rfl ?_;try simp only[UU]
                refine bF rfl rfl ?_;try simp only[UU]
                refine bF rfl rfl ?_;try simp only[UU]
                refine bF rfl rfl ?_;try simp only[UU]
                iterate 2 (refine pT rfl rfl ?_;try simp only[UU])
                simp only[bi];go_wp2;go_roundw;case rel=>exact⟨k+1,by omega,by go_num,Er.out,Hp.out,aJ bu.out Hb.out⟩
                case measure=>simp[intOf];omega
              . have uE:k-1<ts.length:=by omega
                obtain⟨l',s',m',e',hx'⟩:∃l s m e,ts[k-1]=(l,s,m,e):=⟨_,_,_,_,rfl⟩;obtain⟨b',o',jk,Av⟩:=(Ha.out.below (aJ bu.out Hb.out)).term (k-1) uE hx';have hab:=mD.out;rw[hab]at jk;simp only[Option.some.injEq,Addr.mk.injEq,and_true]at jk;obtain⟨rfl,rfl⟩:=jk;have WZ:ts.getD (k-1) default=(l',s',m',e'):=by simp[uE,hx']
                have hg:=yO.out;rw[WZ,hmv,hs1,hcb]at hg;have Zy:(k==0)=false:=by simpa using fY
                rw[Zy]at hg;have hk1:decide (0<k)=true:=by simp;omega
                have QN:IntKind.i64.wrap ((k:Int)-1)=((k-1:Nat):Int):=by rw[IntKind.wrap_i64];omega
                have QJ:=kP N cap (k-1) ((k-1:Nat):Int) hab zo rfl;obtain⟨kp,CL⟩:=aG (k-1);rw[CL]at QJ QN Av;have alO:kp<N:=by omega
                have dS:Hid (bH W4 b (o+kp*4) [ah l',ag s',ah m',af e']):=Av;have asA:=ai CL;clear Av fY Zy hcb WZ hx' CL hab;cases uF:Op.bytesLess (bs l').toList (bs l).toList with
                | true=>
                  have Er:Hid ((List.range (k+1)).all (sW V ts)=true):=by show _=_;rw[UR.out,hg];simpa using uF
                  clear hg;go_wp2_with fail;obtain⟨p0,p1⟩:=Hp.out.c2;obtain⟨t0,t1,t2,t3⟩:=Ht.out.c4;have ju:W4.cell? ⟨b,o+kp*4,none⟩=some (ah l'):=dS.out.cell 0 zm;have HU:Hid (aH W4):=HU.out;refine bR (λw'=>aC w' (w.heap.size) 0 (af V)/\aC w' (w.heap.size) 1 (.slice a N cap)/\aC w' (wr.heap.size) 0 (ah l)/\aC w' (wr.heap.size) 1 (ag s)/\aC w' (wr.heap.size) 2 (ah m)/\aC w' (wr.heap.size) 3 (af e)/\aC w' b (o+kp*4) (ah l')) (λi=>Nat.blt i 100000) [(0,true),(1,true),(2,true),(3,true),(4,false),(5,true),(6,true),(7,true),(8,true),(9,false),(10,true),(11,true),(12,true),(13,true),(14,true),(16,true),(17,true),(15,false),(18,true),(19,true),(20,true),(21,true),(22,true),(23,true),(24,true),(25,true),(26,true),(27,true),(28,true),(29,true),(30,true),(31,true),(32,true),(33,true),(34,true),(35,true)] zk zk rfl zk zc ⟨p0,p1,t0,t1,t2,t3,ju⟩ ?_;iterate 4 (refine pT rfl rfl ?_ (by intro w' ⟨q0,q1,q2,q3,q4,q5,q6⟩;go_simp;try with_reducible rfl);try simp only[UU])
                  refine aI rfl rfl (λK hK=>?_);go_simp;with_reducible refine(sH.out _).mono ?_
                  rintro e w5 ⟨rfl,hq⟩;have ae:Bw W4 w5:=by first|exact hq|exact aW hq
                  clear p0 p1 t0 t1 t2 t3 ju;obtain⟨Hp,p0,p1⟩:=aR Hp ae;obtain⟨Ht,t0,t1,t2,t3⟩:=dU Ht ae;replace dS:=kW dS ae;replace HU:=kT HU ae;have ju:w5.cell? ⟨b,o+kp*4,none⟩=some (ah l'):=dS.out.cell 0 zm;replace Hb:=aB Hb ae;clear ae;refine hK _ _ (λ_=>⟨p0,p1,t0,t1,t2,t3,ju⟩) ?_;clear hK K;try simp only[UU]
                  iterate 4 (refine pT rfl rfl ?_ (by intro w' ⟨q0,q1,q2,q3,q4,q5,q6⟩;go_simp;try with_reducible rfl);try simp only[UU])
                  refine aI rfl rfl (λK hK=>?_);go_simp;with_reducible refine(oV s m e sg jM.out _ nD.out.2).mono ?_
                  rintro e w6 ⟨rfl,hq⟩;have ae:Bw w5 w6:=by first|exact hq|exact aW hq
                  clear p0 p1 t0 t1 t2 t3 ju;obtain⟨Hp,p0,p1⟩:=aR Hp ae;obtain⟨Ht,t0,t1,t2,t3⟩:=dU Ht ae;replace dS:=kW dS ae;replace HU:=kT HU ae;have ju:w6.cell? ⟨b,o+kp*4,none⟩=some (ah l'):=dS.out.cell 0 zm;replace Hb:=aB Hb ae;clear ae;refine hK _ _ (λ_=>⟨p0,p1,t0,t1,t2,t3,ju⟩) ?_;clear hK K;try simp only[UU]
                  iterate 7 (refine pT rfl rfl ?_ (by intro w' ⟨q0,q1,q2,q3,q4,q5,q6⟩;go_simp;try with_reducible rfl);try simp only[UU])
                  refine aI rfl rfl (λK hK=>?_);go_simp;with_reducible refine(sV s m e X HX.out _ nD.out.2 (by first|exact HU.out|exact aH.drew HU.out|exact aH.alloc HU.out _|exact aH.drew (aH.alloc HU.out _) |exact aH.alloc (aH.drew HU.out) _)).mono ?_
                  rintro e w7 ⟨rfl,hq⟩;have ae:Bw w6 w7:=by first|exact hq|exact aW hq
                  clear p0 p1 t0 t1 t2 t3 ju;obtain⟨Hp,p0,p1⟩:=aR Hp ae;obtain⟨Ht,t0,t1,t2,t3⟩:=dU Ht ae;replace dS:=kW dS ae;replace HU:=kT HU ae;have ju:w7.cell? ⟨b,o+kp*4,none⟩=some (ah l'):=dS.out.cell 0 zm;replace Hb:=aB Hb ae;clear ae;refine hK _ _ (λ_=>⟨p0,p1,t0,t1,t2,t3,ju⟩) ?_;clear hK K;try simp only[UU]
                  iterate 18 (refine pT rfl rfl ?_ (by intro w' ⟨q0,q1,q2,q3,q4,q5,q6⟩;go_simp;try with_reducible rfl);try simp only[UU])
                  simp only[bi];go_wp2;go_roundw;case rel=>exact⟨k+1,by omega,by go_num,Er.out,Hp.out,aJ bu.out Hb.out⟩
                  case measure=>simp[intOf];omega
                | false=>
                  have hr:=BC.out (by rw[hg];simpa using uF);subst hr;clear hg;go_wp2_with fail;obtain⟨p0,p1⟩:=Hp.out.c2;obtain⟨t0,t1,t2,t3⟩:=Ht.out.c4;have ju:W4.cell? ⟨b,o+kp*4,none⟩=some (ah l'):=dS.out.cell 0 zm;have HU:Hid (aH W4):=HU.out;refine bR (λw'=>aC w' (w.heap.size) 0 (af V)/\aC w' (w.heap.size) 1 (.slice a N cap)/\aC w' (wr.heap.size) 0 (ah l)/\aC w' (wr.heap.size) 1 (ag s)/\aC w' (wr.heap.size) 2 (ah m)/\aC w' (wr.heap.size) 3 (af e)/\aC w' b (o+kp*4) (ah l')) (λi=>Nat.blt i 100000) [(0,true),(1,true),(2,true),(3,true),(4,false),(5,true),(6,true),(7,true),(8,true),(9,false),(10,true),(11,true),(12,true),(13,true),(14,true),(16,true),(17,true),(15,false),(18,true),(19,true),(20,true),(21,true),(22,true),(23,true),(24,true),(25,true),(26,true),(27,true),(28,true),(29,true),(30,true),(31,true),(32,true),(33,true),(34,true),(35,true)] zk zk rfl zk zc ⟨p0,p1,t0,t1,t2,t3,ju⟩ ?_;iterate 4 (refine pT rfl rfl ?_ (by intro w' ⟨q0,q1,q2,q3,q4,q5,q6⟩;go_simp;try with_reducible rfl);try simp only[UU])
                  refine aI rfl rfl (λK hK=>?_);go_simp;with_reducible refine(sH.out _).mono ?_
                  rintro e w5 ⟨rfl,hq⟩;have ae:Bw W4 w5:=by first|exact hq|exact aW hq
                  clear p0 p1 t0 t1 t2 t3 ju;obtain⟨Hp,p0,p1⟩:=aR Hp ae;obtain⟨Ht,t0,t1,t2,t3⟩:=dU Ht ae;replace dS:=kW dS ae;replace HU:=kT HU ae;have ju:w5.cell? ⟨b,o+kp*4,none⟩=some (ah l'):=dS.out.cell 0 zm;replace Hb:=aB Hb ae;clear ae;refine hK _ _ (λ_=>⟨p0,p1,t0,t1,t2,t3,ju⟩) ?_;clear hK K;try simp only[UU]
                  iterate 4 (refine pT rfl rfl ?_ (by intro w' ⟨q0,q1,q2,q3,q4,q5,q6⟩;go_simp;try with_reducible rfl);try simp only[UU])
                  refine aI rfl rfl (λK hK=>?_);go_simp;with_reducible refine(oV s m e sg jM.out _ nD.out.2).mono ?_
                  rintro e w6 ⟨rfl,hq⟩;have ae:Bw w5 w6:=by first|exact hq|exact aW hq
                  clear p0 p1 t0 t1 t2 t3 ju;obtain⟨Hp,p0,p1⟩:=aR Hp ae;obtain⟨Ht,t0,t1,t2,t3⟩:=dU Ht ae;replace dS:=kW dS ae;replace HU:=kT HU ae;have ju:w6.cell? ⟨b,o+kp*4,none⟩=some (ah l'):=dS.out.cell 0 zm;replace Hb:=aB Hb ae;clear ae;refine hK _ _ (λ_=>⟨p0,p1,t0,t1,t2,t3,ju⟩) ?_;clear hK K;try simp only[UU]
                  iterate 7 (refine pT rfl rfl ?_ (by intro w' ⟨q0,q1,q2,q3,q4,q5,q6⟩;go_simp;try with_reducible rfl);try simp only[UU])
                  refine aI rfl rfl (λK hK=>?_);go_simp;with_reducible refine(sV s m e X HX.out _ nD.out.2 (by first|exact HU.out|exact aH.drew HU.out|exact aH.alloc HU.out _|exact aH.drew (aH.alloc HU.out _) |exact aH.alloc (aH.drew HU.out) _)).mono ?_
                  rintro e w7 ⟨rfl,hq⟩;have ae:Bw w6 w7:=by first|exact hq|exact aW hq
                  clear p0 p1 t0 t1 t2 t3 ju;obtain⟨Hp,p0,p1⟩:=aR Hp ae;obtain⟨Ht,t0,t1,t2,t3⟩:=dU Ht ae;replace dS:=kW dS ae;replace HU:=kT HU ae;have ju:w7.cell? ⟨b,o+kp*4,none⟩=some (ah l'):=dS.out.cell 0 zm;replace Hb:=aB Hb ae;clear ae;refine hK _ _ (λ_=>⟨p0,p1,t0,t1,t2,t3,ju⟩) ?_;clear hK K;try simp only[UU]
                  iterate 18 (refine pT rfl rfl ?_ (by intro w' ⟨q0,q1,q2,q3,q4,q5,q6⟩;go_simp;try with_reducible rfl);try simp only[UU])
                  simp only[bi];go_wp2;refine bodyPost_ret (results_tmp rfl _ _ _) rfl ⟨rfl,aJ bu.out Hb.out⟩
            . have hr:=BC.out (by
               rw[yO.out,hmv,hs1];have:(canon X==(s,m,e))=false:=by simpa using hc
               rw[this];rfl)
              subst hr;have hne:=Su X s m e true (by simpa using hc);clear hc;go_wp2_with fail;refine bR (λw'=>aC w' (w.heap.size) 0 (af V)/\aC w' (w.heap.size) 1 (.slice a N cap)/\aC w' (wr.heap.size) 0 (ah l)/\aC w' (wr.heap.size) 1 (ag s)/\aC w' (wr.heap.size) 2 (ah m)/\aC w' (wr.heap.size) 3 (af e)) (λi=>Nat.blt i 100000) [(0,true),(1,true),(2,true),(3,true),(4,false),(5,true),(6,true),(7,true),(8,true),(9,false),(10,true),(11,true),(12,true),(13,true),(14,true),(16,true),(17,true),(15,false),(18,true),(19,true),(20,true),(21,true),(22,true),(23,true),(24,true),(25,true),(26,true),(27,true),(28,true),(29,true),(30,true),(31,true),(32,true),(33,true),(34,true),(35,true)] zk zk rfl zk zc ⟨p0,p1,t0,t1,t2,t3⟩ ?_;iterate 4 (refine pT rfl rfl ?_ (by intro w' ⟨q0,q1,q2,q3,q4,q5⟩;go_simp;try with_reducible rfl);try simp only[UU])
              refine aI rfl rfl (λK hK=>?_);go_simp;with_reducible refine(sH.out _).mono ?_
              rintro e w5 ⟨rfl,hq⟩;have ae:Bw W4 w5:=by first|exact hq|exact aW hq
              clear p0 p1 t0 t1 t2 t3;obtain⟨Hp,p0,p1⟩:=aR Hp ae;replace HU:=kT HU ae;obtain⟨Ht,t0,t1,t2,t3⟩:=dU Ht ae;replace Hb:=aB Hb ae;clear ae;refine hK _ _ (λ_=>⟨p0,p1,t0,t1,t2,t3⟩) ?_;clear hK K;try simp only[UU]
              iterate 4 (refine pT rfl rfl ?_ (by intro w' ⟨q0,q1,q2,q3,q4,q5⟩;go_simp;try with_reducible rfl);try simp only[UU])
              refine aI rfl rfl (λK hK=>?_);go_simp;with_reducible refine(oV s m e sg jM.out _ nD.out.2).mono ?_
              rintro e w6 ⟨rfl,hq⟩;have ae:Bw w5 w6:=by first|exact hq|exact aW hq
              clear p0 p1 t0 t1 t2 t3;obtain⟨Hp,p0,p1⟩:=aR Hp ae;replace HU:=kT HU ae;obtain⟨Ht,t0,t1,t2,t3⟩:=dU Ht ae;replace Hb:=aB Hb ae;clear ae;refine hK _ _ (λ_=>⟨p0,p1,t0,t1,t2,t3⟩) ?_;clear hK K;try simp only[UU]
              iterate 7 (refine pT rfl rfl ?_ (by intro w' ⟨q0,q1,q2,q3,q4,q5⟩;go_simp;try with_reducible rfl);try simp only[UU])
              refine aI rfl rfl (λK hK=>?_);go_simp;with_reducible refine(sV s m e X HX.out _ nD.out.2 (by first|exact HU.out|exact aH.drew HU.out|exact aH.alloc HU.out _|exact aH.drew (aH.alloc HU.out _) |exact aH.alloc (aH.drew HU.out) _)).mono ?_
              rintro e w7 ⟨rfl,hq⟩;have ae:Bw w6 w7:=by first|exact hq|exact aW hq
              clear p0 p1 t0 t1 t2 t3;obtain⟨Hp,p0,p1⟩:=aR Hp ae;replace HU:=kT HU ae;obtain⟨Ht,t0,t1,t2,t3⟩:=dU Ht ae;replace Hb:=aB Hb ae;clear ae;refine hK _ _ (λ_=>⟨p0,p1,t0,t1,t2,t3⟩) ?_;clear hK K;try simp only[UU]
              iterate 3 (refine pT rfl rfl ?_;try simp only[UU])
              refine bF rfl rfl ?_;try simp only[UU]
              refine bF rfl rfl ?_;try simp only[UU]
              refine bF rfl rfl ?_;try simp only[UU]
              refine bF rfl rfl ?_;try simp only[UU]
              refine bF rfl rfl ?_;try simp only[UU]
              refine bF rfl rfl ?_;try simp only[UU]
              refine bF rfl rfl ?_;try simp only[UU]
              refine bF rfl rfl ?_;try simp only[UU]
              refine bF rfl rfl ?_;try simp only[UU]
              refine bF rfl rfl ?_;try simp only[UU]
              refine bF rfl rfl ?_;try simp only[UU]
              refine bF rfl rfl ?_;try simp only[UU]
              refine bF rfl rfl ?_;try simp only[UU]
              refine bF rfl rfl ?_;try simp only[UU]
              refine pT rfl rfl ?_;try simp only[UU]
              simp only[bi];go_wp2;refine bodyPost_ret (results_tmp rfl _ _ _) rfl ⟨rfl,aJ bu.out Hb.out⟩
      . obtain rfl:k=N:=by omega
        have hr:R=0:=by rw[<-hR.out,if_pos lw]
        subst hr;go_wp2;refine bodyPost_ret (results_tmp rfl _ _ _) rfl ⟨rfl,pb⟩
 . have hR:=HR.out;rw[if_pos h1]at hR;clear HR;subst hR;go_wp2;exact bodyPost_ret (v:=af 1) (by simp[results,Tryz.results150,go_sem]) rfl ⟨rfl,df⟩
end Go.Proofs.YtoopepmmepmfnaaGreatDoor
