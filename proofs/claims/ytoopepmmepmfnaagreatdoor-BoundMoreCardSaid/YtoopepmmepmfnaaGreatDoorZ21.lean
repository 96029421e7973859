/- Package poly: Check. -/
import Derived.Test.YtoopepmmepmfnaaGreatDoorZ11
import Derived.Test.YtoopepmmepmfnaaGreatDoorZ7
set_option linter.unusedVariables false
set_option linter.unusedSimpArgs false
set_option maxRecDepth 100000
set_option maxHeartbeats 16000000
namespace Go.Proofs.YtoopepmmepmfnaaGreatDoor
open Go.RowKit
attribute [local go_sem ↓] Go.wp_at_zero Go.wp_at_succ
theorem WP (X:Dyadic)(s:Bool)(m:List UInt8)(e:Int)(b:Bool)(h:(canon X==(s,m,e))= !b)(w':World):
 (if aj (dN X)=s then if(bs (nt (dN X).natAbs)).toList=(bs m).toList then if dE X=e then Result.ok (Next.value (Value.bool false)) w' else Result.ok (Next.value (Value.bool true)) w' else Result.ok (Next.value (Value.bool true)) w' else Result.ok (Next.value (Value.bool true)) w')=Result.ok (Next.value (Value.bool b)) w':=by
 have ht:∀x y:List UInt8,(bs x).toList=(bs y).toList↔x=y:=λx y=>by rw[iY,iY]
 have hc:(canon X==(s,m,e))=decide (aj (dN X)=s/\nt (dN X).natAbs=m/\dE X=e):=by rw[Bool.eq_iff_iff];simp[canon]
 rw[hc]at h;simp only[ht];cases b with
 | false=>
   have h2:aj (dN X)=s/\nt (dN X).natAbs=m/\dE X=e:=by simpa using h
   rw[if_pos h2.1,if_pos h2.2.1,if_pos h2.2.2]
 | true=>
   have h2:¬(aj (dN X)=s/\nt (dN X).natAbs=m/\dE X=e):=by intro h3;rw[decide_eq_true h3]at h;cases h
   by_cases h3:aj (dN X)=s
   . rw[if_pos h3];by_cases h4:nt (dN X).natAbs=m
     . rw[if_pos h4,if_neg (λh5=>h2 ⟨h3,h4,h5⟩)]
     . rw[if_neg h4]
   . rw[if_neg h3]
theorem Xd (V:Int)(a:Option Addr)(cap N:Nat)(ts:List aI)(w:World)(hN:ts.length=N)(hn:N<=1048576)(ha:At w a (ts.flatMap aM))(hl:∀t∈ts,t.1.length<=9223372036854775807/\Ok t.2)(hT:au w):
 Calls Tryz.prog 150 #[.agg #[.int .i64 V,.slice a N cap]] w λe w'=>e=.returned (.int .i64 (wL V ts))/\Bw w w':=by
 obtain⟨Ha,Hl,HN,bY⟩:=dt ha hl hN hT;obtain⟨R,hR⟩:=az (wL V ts);unfold wL at hR;rw[hN]at hR;rw[show wL V ts=R by unfold wL;rw[hN];exact hR];have HR:=af hR;clear ha hl hN hR hT;obtain⟨W,cL,Hb,Hp⟩:=gX w 91 [.int .i64 V,.slice a N cap];obtain⟨p0,p1⟩:=Hp.out.c2;go_enter Tryz.func150,Tryz.ntmps150;go_wp2_with fail;refine(DU V _).mono ?_;rintro e w1 ⟨rfl,ae⟩;clear p0 p1;replace Hp:=kB Hp ae;obtain⟨p0,p1⟩:=Hp.out.c2;replace Hb:=ak Hb ae;clear ae;by_cases h1:0<=V/\V<=12
 . by_cases h2:4096<N
   . have h3:(4096:Int)<(N:Int):=by omega
     have hR:=HR.out;rw[if_neg (λh=>h h1),if_pos h2]at hR;clear HR;subst hR;go_wp2;refine bodyPost_ret (v:=.int .i64 3) (by simp[results,Tryz.results150,go_sem]) rfl ⟨rfl,?_⟩;(repeat first|exact Hb.out| (refine Below.setCell ?_ (by have:=Hb.out.size;first| (dsimp only;omega) | (show _<=_;omega) | (simp<;>omega)) _) | (refine Below.alloc ?_ zt _) |refine Below.drew ?_)
   . have h3:¬(4096:Int)<(N:Int):=by omega
     have h3d:decide ((4096:Int)<(N:Int))=false:=by simp;omega
     have hR:Hid ((if(List.range N).all (oJ V ts)then(0:Int)else 1)=R):=by
      show _=_
      have hR:=HR.out;rw[if_neg (λh=>h h1),if_neg h2]at hR;exact hR
     clear HR;obtain⟨bZ,gP⟩:=aJ Hb.out Hp.out;clear Hb Hp p0 p1;have p0:w1.cell? ⟨w.heap.size,0,none⟩=some (.int .i64 V):=gP.out.cell 0;have p1:w1.cell? ⟨w.heap.size,1,none⟩=some (.slice a N cap):=gP.out.cell 1;go_wp2_with fail;go_loopw[16] (λx wr=>∃k:Nat,k<=N/\x=.int .i64 (k:Int)/\(List.range k).all (oJ V ts)=true/\ag wr w.heap.size 91 [.int .i64 V,.slice a N cap]/\Bw w wr) (λx _=>N-(intOf x).toNat);case atStart=>exact⟨0,Nat.zero_le _,rfl,rfl,gP.out,bZ.out⟩
     case round=>
      clear bZ gP p0 p1;obtain⟨k,hk,rfl,kD,gV,pb⟩:=hrel;by_cases hlt:k<N
      . have hk2:k<ts.length:=by rw[HN.out];exact hlt
        obtain⟨l,s,m,e,hx⟩:∃l s m e,ts[k]=(l,s,m,e):=⟨_,_,_,_,rfl⟩;obtain⟨b,o,hab,dZ⟩:=(Ha.out.below pb).term k hk2 hx;have hl2:l.length<=9223372036854775807/\Ok (s,m,e):=by have:=Hl.out _ (List.getElem_mem hk2);rw[hx]at this;exact this
        have RB:ts.getD k default=(l,s,m,e):=by simp[hk2,hx]
        have Ue:(List.range (k+1)).all (oJ V ts)=oJ V ts k:=by rw[List.range_succ,List.all_append,kD];simp
        have hbad:oJ V ts k=false->R=1:=by intro h;rw[<-hR.out,if_neg];intro h5;rw[List.all_eq_true]at h5;have:=h5 k (List.mem_range.2 hlt);rw[h]at this;cases this
        have Lu:oJ V ts k=(Ar V l (s,m,e)&&(k==0||Op.bytesLess (bs (ts.getD (k-1) default).1).toList (bs l).toList)):=by unfold oJ;rw[RB]
        have aX:=qj N cap k (k:Int) hab hlt rfl;obtain⟨X,hX⟩:=az (ar (s,m,e));obtain⟨sg,nI⟩:=az (aL X);have hgt:Ar V l (s,m,e)=(fP l V&& !(sg==0)&&(canon X==(s,m,e))):=by unfold Ar;rw[hX,nI]
        rw[hgt]at Lu;obtain⟨Qh,nW,aR,zH,Pz,CI,HX⟩:=jC dZ hl2 pb Lu Ue hbad hX;have og:Hid (aL (ar (s,m,e))=sg):=by show _=_;rw[hX];exact nI
        have Hp:=af gV;have HU:Hid (au wr):=bY.out.below pb;clear dZ hl2 Lu Ue hbad hX nI hgt RB gV hx;have mR:=af hab;clear hab;have Hb:Hid (Bw wr wr):=Below.refl _ _;have sz:=pb.size;have uZ:Hid (bg wr b (o+k*4) [.string (bs l),.bool s,.string (bs m),.int .i64 e]):=Qh.out;obtain⟨p0,p1⟩:=Hp.out.c2;obtain⟨Gc,Gd,Ge,Gf⟩:=uZ.out.w4;have HU:Hid (au wr):=HU.out;have P0:=Gc;have P1:=Gd;have P2:=Ge;have P3:=Gf;have aph:=Hp.out.lt;obtain⟨W4,jP,ae,Ht⟩:=bH wr 93 [.string (bs l),.bool s,.string (bs m),.int .i64 e];clear p0 p1;replace Hp:=kB Hp ae;clear Gc Gd Ge Gf;replace uZ:=kW uZ ae;replace HU:=kT HU ae;obtain⟨p0,p1⟩:=Hp.out.c2;obtain⟨Gc,Gd,Ge,Gf⟩:=uZ.out.w4;obtain⟨t0,t1,t2,t3⟩:=Ht.out.c4;replace Hb:=ak Hb ae;clear ae Gc Gd Ge Gf uZ Qh;cases hmv:fP l V with
        | false=>
          have hr:=CI.out (by rw[zH.out,hmv];rfl);subst hr;have je:=λW=>Fx l V W (by have:=nW.out.1;omega);rw[hmv]at je;have rA:=af je;clear je;go_wp2_with fail;refine cf (λw'=>w'.cell? ⟨w.heap.size,0,none⟩=some (.int .i64 V)/\w'.cell? ⟨w.heap.size,1,none⟩=some (.slice a N cap)/\w'.cell? ⟨wr.heap.size,0,none⟩=some (.string (bs l))/\w'.cell? ⟨wr.heap.size,1,none⟩=some (.bool s)/\w'.cell? ⟨wr.heap.size,2,none⟩=some (.string (bs m))/\w'.cell? ⟨wr.heap.size,3,none⟩=some (.int .i64 e)) (λi=>Nat.blt i 100000) [(0,true),(1,true),(2,true),(3,true),(4,false),(5,true),(6,true),(7,true),(8,true),(9,false),(10,true),(11,true),(12,true),(13,true),(14,true),(16,true),(17,true),(15,false),(18,true),(19,true),(20,true),(21,true),(22,true),(23,true),(24,true),(25,true),(26,true),(27,true),(28,true),(29,true),(30,true),(31,true),(32,true),(33,true),(34,true),(35,true)] zk zk rfl zk zc ⟨p0,p1,t0,t1,t2,t3⟩ ?_;iterate 4 (refine pT rfl rfl ?_ (by intro w' ⟨q0,q1,q2,q3,q4,q5⟩;go_simp;try with_reducible rfl);try simp only[UU])
          refine aF rfl rfl (λK hK=>?_);go_simp;with_reducible refine(rA.out _).mono ?_
          rintro e w5 ⟨rfl,hq⟩;have ae:Bw W4 w5:=by first|exact hq|exact aK hq
          clear p0 p1 t0 t1 t2 t3;replace Hp:=kB Hp ae;replace HU:=kT HU ae;replace Ht:=kB Ht ae;obtain⟨p0,p1⟩:=Hp.out.c2;obtain⟨t0,t1,t2,t3⟩:=Ht.out.c4;replace Hb:=ak Hb ae;clear ae;refine hK _ _ (λ_=>⟨p0,p1,t0,t1,t2,t3⟩) ?_;clear hK K;try simp only[UU]
          iterate 2 (refine pT rfl rfl ?_;try simp only[UU])
          refine bi rfl rfl ?_;try simp only[UU]
          refine bi rfl rfl ?_;try simp only[UU]
          refine wM rfl rfl (λ_=>⟨p0,p1,t0,t1,t2,t3⟩) ?_;try simp only[UU]
          refine bi rfl rfl ?_;try simp only[UU]
          iterate 2 (refine pT rfl rfl ?_;try simp only[UU])
          refine bi rfl rfl ?_;try simp only[UU]
          refine bi rfl rfl ?_;try simp only[UU]
          refine bi rfl rfl ?_;try simp only[UU]
          refine bi rfl rfl ?_;try simp only[UU]
          refine wM rfl rfl (λ_=>⟨p0,p1,t0,t1,t2,t3⟩) ?_;try simp only[UU]
          refine bi rfl rfl ?_;try simp only[UU]
          iterate 2 (refine pT rfl rfl ?_;try simp only[UU])
          refine bi rfl rfl ?_;try simp only[UU]
          refine bi rfl rfl ?_;try simp only[UU]
          refine bi rfl rfl ?_;try simp only[UU]
          refine bi rfl rfl ?_;try simp only[UU]
          refine bi rfl rfl ?_;try simp only[UU]
          refine bi rfl rfl ?_;try simp only[UU]
          refine bi rfl rfl ?_;try simp only[UU]
          refine bi rfl rfl ?_;try simp only[UU]
          refine bi rfl rfl ?_;try simp only[UU]
          refine bi rfl rfl ?_;try simp only[UU]
          refine bi rfl rfl ?_;try simp only[UU]
          refine bi rfl rfl ?_;try simp only[UU]
          refine bi rfl rfl ?_;try simp only[UU]
          refine bi rfl rfl ?_;try simp only[UU]
          refine pT rfl rfl ?_;try simp only[UU]
          simp only[aN];go_wp2;refine bodyPost_ret (results_tmp rfl _ _ _) rfl ⟨rfl,aG aR.out Hb.out⟩
        | true=>
          have je:=λW=>Fx l V W (by have:=nW.out.1;omega);rw[hmv]at je;have rA:=af je;clear je;by_cases hs0:sg=0
          . have hr:=CI.out (by rw[zH.out,hmv,hs0];rfl);subst hr hs0;go_wp2_with fail;refine cf (λw'=>w'.cell? ⟨w.heap.size,0,none⟩=some (.int .i64 V)/\w'.cell? ⟨w.heap.size,1,none⟩=some (.slice a N cap)/\w'.cell? ⟨wr.heap.size,0,none⟩=some (.string (bs l))/\w'.cell? ⟨wr.heap.size,1,none⟩=some (.bool s)/\w'.cell? ⟨wr.heap.size,2,none⟩=some (.string (bs m))/\w'.cell? ⟨wr.heap.size,3,none⟩=some (.int .i64 e)) (λi=>Nat.blt i 100000) [(0,true),(1,true),(2,true),(3,true),(4,false),(5,true),(6,true),(7,true),(8,true),(9,false),(10,true),(11,true),(12,true),(13,true),(14,true),(16,true),(17,true),(15,false),(18,true),(19,true),(20,true),(21,true),(22,true),(23,true),(24,true),(25,true),(26,true),(27,true),(28,true),(29,true),(30,true),(31,true),(32,true),(33,true),(34,true),(35,true)] zk zk rfl zk zc ⟨p0,p1,t0,t1,t2,t3⟩ ?_;iterate 4 (refine pT rfl rfl ?_ (by intro w' ⟨q0,q1,q2,q3,q4,q5⟩;go_simp;try with_reducible rfl);try simp only[UU])
            refine aF rfl rfl (λK hK=>?_);go_simp;with_reducible refine(rA.out _).mono ?_
            rintro e w5 ⟨rfl,hq⟩;have ae:Bw W4 w5:=by first|exact hq|exact aK hq
            clear p0 p1 t0 t1 t2 t3;replace Hp:=kB Hp ae;replace HU:=kT HU ae;replace Ht:=kB Ht ae;obtain⟨p0,p1⟩:=Hp.out.c2;obtain⟨t0,t1,t2,t3⟩:=Ht.out.c4;replace Hb:=ak Hb ae;clear ae;refine hK _ _ (λ_=>⟨p0,p1,t0,t1,t2,t3⟩) ?_;clear hK K;try simp only[UU]
            iterate 4 (refine pT rfl rfl ?_ (by intro w' ⟨q0,q1,q2,q3,q4,q5⟩;go_simp;try with_reducible rfl);try simp only[UU])
            refine aF rfl rfl (λK hK=>?_);go_simp;with_reducible refine(lj s m e 0 og.out _ nW.out.2).mono ?_
            rintro e w6 ⟨rfl,hq⟩;have ae:Bw w5 w6:=by first|exact hq|exact aK hq
            clear p0 p1 t0 t1 t2 t3;replace Hp:=kB Hp ae;replace HU:=kT HU ae;replace Ht:=kB Ht ae;obtain⟨p0,p1⟩:=Hp.out.c2;obtain⟨t0,t1,t2,t3⟩:=Ht.out.c4;replace Hb:=ak Hb ae;clear ae;refine hK _ _ (λ_=>⟨p0,p1,t0,t1,t2,t3⟩) ?_;clear hK K;try simp only[UU]
            iterate 3 (refine pT rfl rfl ?_;try simp only[UU])
            refine bi rfl rfl ?_;try simp only[UU]
            refine bi rfl rfl ?_;try simp only[UU]
            refine bi rfl rfl ?_;try simp only[UU]
            refine bi rfl rfl ?_;try simp only[UU]
            refine wM rfl rfl (λ_=>⟨p0,p1,t0,t1,t2,t3⟩) ?_;try simp only[UU]
            refine bi rfl rfl ?_;try simp only[UU]
            iterate 2 (refine pT rfl rfl ?_;try simp only[UU])
            refine bi rfl rfl ?_;try simp only[UU]
            refine bi rfl rfl ?_;try simp only[UU]
            refine bi rfl rfl ?_;try simp only[UU]
            refine bi rfl rfl ?_;try simp only[UU]
            refine bi rfl rfl ?_;try simp only[UU]
            refine bi rfl rfl ?_;try simp only[UU]
            refine bi rfl rfl ?_;try simp only[UU]
            refine bi rfl rfl ?_;try simp only[UU]
            refine bi rfl rfl ?_;try simp only[UU]
            refine bi rfl rfl ?_;try simp only[UU]
            refine bi rfl rfl ?_;try simp only[UU]
            refine bi rfl rfl ?_;try simp only[UU]
            refine bi rfl rfl ?_;try simp only[UU]
            refine bi rfl rfl ?_;try simp only[UU]
            refine pT rfl rfl ?_;try simp only[UU]
            simp only[aN];go_wp2;refine bodyPost_ret (results_tmp rfl _ _ _) rfl ⟨rfl,aG aR.out Hb.out⟩
          . have hs1:(sg==0)=false:=by simpa using hs0
            by_cases hc:canon X=(s,m,e)
            . have hcb:(canon X==(s,m,e))=true:=by simpa using hc
              have hne:=WP X s m e false hcb;clear hc;by_cases eY:k=0
              . have hg:=zH.out;rw[hmv,hs1,hcb,eY]at hg;have Iw:Hid ((List.range (k+1)).all (oJ V ts)=true):=by show _=_;rw[Pz.out,eY,hg];rfl
                have hk1:decide (0<k)=false:=by simp;omega
                clear hg hcb eY;go_wp2_with fail;refine cf (λw'=>w'.cell? ⟨w.heap.size,0,none⟩=some (.int .i64 V)/\w'.cell? ⟨w.heap.size,1,none⟩=some (.slice a N cap)/\w'.cell? ⟨wr.heap.size,0,none⟩=some (.string (bs l))/\w'.cell? ⟨wr.heap.size,1,none⟩=some (.bool s)/\w'.cell? ⟨wr.heap.size,2,none⟩=some (.string (bs m))/\w'.cell? ⟨wr.heap.size,3,none⟩=some (.int .i64 e)) (λi=>Nat.blt i 100000) [(0,true),(1,true),(2,true),(3,true),(4,false),(5,true),(6,true),(7,true),(8,true),(9,false),(10,true),(11,true),(12,true),(13,true),(14,true),(16,true),(17,true),(15,false),(18,true),(19,true),(20,true),(21,true),(22,true),(23,true),(24,true),(25,true),(26,true),(27,true),(28,true),(29,true),(30,true),(31,true),(32,true),(33,true),(34,true),(35,true)] zk zk rfl zk zc ⟨p0,p1,t0,t1,t2,t3⟩ ?_;iterate 4 (refine pT rfl rfl ?_ (by intro w' ⟨q0,q1,q2,q3,q4,q5⟩;go_simp;try with_reducible rfl);try simp only[UU])
                refine aF rfl rfl (λK hK=>?_);go_simp;with_reducible refine(rA.out _).mono ?_
                rintro e w5 ⟨rfl,hq⟩;have ae:Bw W4 w5:=by first|exact hq|exact aK hq
                clear p0 p1 t0 t1 t2 t3;replace Hp:=kB Hp ae;replace HU:=kT HU ae;replace Ht:=kB Ht ae;obtain⟨p0,p1⟩:=Hp.out.c2;obtain⟨t0,t1,t2,t3⟩:=Ht.out.c4;replace Hb:=ak Hb ae;clear ae;refine hK _ _ (λ_=>⟨p0,p1,t0,t1,t2,t3⟩) ?_;clear hK K;try simp only[UU]
                iterate 4 (refine pT rfl rfl ?_ (by intro w' ⟨q0,q1,q2,q3,q4,q5⟩;go_simp;try with_reducible rfl);try simp only[UU])
                refine aF rfl rfl (λK hK=>?_);go_simp;with_reducible refine(lj s m e sg og.out _ nW.out.2).mono ?_
                rintro e w6 ⟨rfl,hq⟩;have ae:Bw w5 w6:=by first|exact hq|exact aK hq
                clear p0 p1 t0 t1 t2 t3;replace Hp:=kB Hp ae;replace HU:=kT HU ae;replace Ht:=kB Ht ae;obtain⟨p0,p1⟩:=Hp.out.c2;obtain⟨t0,t1,t2,t3⟩:=Ht.out.c4;replace Hb:=ak Hb ae;clear ae;refine hK _ _ (λ_=>⟨p0,p1,t0,t1,t2,t3⟩) ?_;clear hK K;try simp only[UU]
                iterate 7 (refine pT rfl rfl ?_ (by intro w' ⟨q0,q1,q2,q3,q4,q5⟩;go_simp;try with_reducible rfl);try simp only[UU])
                refine aF rfl rfl (λK hK=>?_);go_simp;with_reducible refine(oH s m e X HX.out _ nW.out.2 (by first|exact HU.out|exact au.drew HU.out|exact au.alloc HU.out _|exact au.drew (au.alloc HU.out _) |exact au.alloc (au.drew HU.out) _)).mono ?_
                rintro e w7 ⟨rfl,hq⟩;have ae:Bw w6 w7:=by first|exact hq|exact aK hq
                clear p0 p1 t0 t1 t2 t3;replace Hp:=kB Hp ae;replace HU:=kT HU ae;replace Ht:=kB Ht ae;obtain⟨p0,p1⟩:=Hp.out.c2;obtain⟨t0,t1,t2,t3⟩:=Ht.out.c4;replace Hb:=ak Hb ae;clear ae;refine hK _ _ (λ_=>⟨p0,p1,t0,t1,t2,t3⟩) ?_;clear hK K;try simp only[UU]
                iterate 6 (refine pT rfl rfl ?_;try simp only[UU])
                refine bi rfl rfl ?_;try simp only[UU]
                refine bi rfl rfl ?_;try simp only[UU]
                refine bi rfl rfl ?_;try simp only[UU]
                refine bi rfl rfl ?_;try simp only[UU]
                refine bi rfl rfl ?_;try simp only[UU]
                refine bi rfl rfl ?_;try simp only[UU]
                refine bi rfl rfl ?_;try simp only[UU]
                refine bi rfl rfl ?_;try simp only[UU]
                refine bi rfl rfl ?_;try simp only[UU]
                refine bi rfl rfl ?_;try simp only[UU]
                iterate 2 (refine pT rfl rfl ?_;try simp only[UU])
                simp only[aN];go_wp2;go_roundw;case rel=>exact⟨k+1,by omega,by go_num,Iw.out,Hp.out,aG aR.out Hb.out⟩
                case measure=>simp[intOf];omega
              . have yc:k-1<ts.length:=by omega
                obtain⟨l',s',m',e',hx'⟩:∃l s m e,ts[k-1]=(l,s,m,e):=⟨_,_,_,_,rfl⟩;obtain⟨b',o',jQ,Mo⟩:=(Ha.out.below (aG aR.out Hb.out)).term (k-1) yc hx';have hab:=mR.out;rw[hab]at jQ;simp only[Option.some.injEq,Addr.mk.injEq,and_true]at jQ;obtain⟨rfl,rfl⟩:=jQ;have RD:ts.getD (k-1) default=(l',s',m',e'):=by simp[yc,hx']
                have hg:=zH.out;rw[RD,hmv,hs1,hcb]at hg;have Um:(k==0)=false:=by simpa using eY
                rw[Um]at hg;have hk1:decide (0<k)=true:=by simp;omega
                have hkw:IntKind.i64.wrap ((k:Int)-1)=((k-1:Nat):Int):=by rw[IntKind.wrap_i64];omega
                have agx:=qj N cap (k-1) ((k-1:Nat):Int) hab zo rfl;obtain⟨kp,LB⟩:=az (k-1);rw[LB]at agx hkw Mo;have anQ:kp<N:=by omega
                have cZ:Hid (bg W4 b (o+kp*4) [.string (bs l'),.bool s',.string (bs m'),.int .i64 e']):=Mo;have amu:=af LB;clear Mo eY Um hcb RD hx' LB hab;cases hlt9:Op.bytesLess (bs l').toList (bs l).toList with
                | true=>
                  have Iw:Hid ((List.range (k+1)).all (oJ V ts)=true):=by show _=_;rw[Pz.out,hg];simpa using hlt9
                  clear hg;go_wp2_with fail;obtain⟨p0,p1⟩:=Hp.out.c2;obtain⟨t0,t1,t2,t3⟩:=Ht.out.c4;have gY:W4.cell? ⟨b,o+kp*4,none⟩=some (.string (bs l')):=cZ.out.cell 0 zm;have HU:Hid (au W4):=HU.out;refine cf (λw'=>w'.cell? ⟨w.heap.size,0,none⟩=some (.int .i64 V)/\w'.cell? ⟨w.heap.size,1,none⟩=some (.slice a N cap)/\w'.cell? ⟨wr.heap.size,0,none⟩=some (.string (bs l))/\w'.cell? ⟨wr.heap.size,1,none⟩=some (.bool s)/\w'.cell? ⟨wr.heap.size,2,none⟩=some (.string (bs m))/\w'.cell? ⟨wr.heap.size,3,none⟩=some (.int .i64 e)/\w'.cell? ⟨b,o+kp*4,none⟩=some (.string (bs l'))) (λi=>Nat.blt i 100000) [(0,true),(1,true),(2,true),(3,true),(4,false),(5,true),(6,true),(7,true),(8,true),(9,false),(10,true),(11,true),(12,true),(13,true),(14,true),(16,true),(17,true),(15,false),(18,true),(19,true),(20,true),(21,true),(22,true),(23,true),(24,true),(25,true),(26,true),(27,true),(28,true),(29,true),(30,true),(31,true),(32,true),(33,true),(34,true),(35,true)] zk zk rfl zk zc ⟨p0,p1,t0,t1,t2,t3,gY⟩ ?_;iterate 4 (refine pT rfl rfl ?_ (by intro w' ⟨q0,q1,q2,q3,q4,q5,q6⟩;go_simp;try with_reducible rfl);try simp only[UU])
                  refine aF rfl rfl (λK hK=>?_);go_simp;with_reducible refine(rA.out _).mono ?_
                  rintro e w5 ⟨rfl,hq⟩;have ae:Bw W4 w5:=by first|exact hq|exact aK hq
                  clear p0 p1 t0 t1 t2 t3 gY;replace Hp:=kB Hp ae;replace Ht:=kB Ht ae;replace cZ:=kW cZ ae;replace HU:=kT HU ae;obtain⟨p0,p1⟩:=Hp.out.c2;obtain⟨t0,t1,t2,t3⟩:=Ht.out.c4;have gY:w5.cell? ⟨b,o+kp*4,none⟩=some (.string (bs l')):=cZ.out.cell 0 zm;replace Hb:=ak Hb ae;clear ae;refine hK _ _ (λ_=>⟨p0,p1,t0,t1,t2,t3,gY⟩) ?_;clear hK K;try simp only[UU]
                  iterate 4 (refine pT rfl rfl ?_ (by intro w' ⟨q0,q1,q2,q3,q4,q5,q6⟩;go_simp;try with_reducible rfl);try simp only[UU])
                  refine aF rfl rfl (λK hK=>?_);go_simp;with_reducible refine(lj s m e sg og.out _ nW.out.2).mono ?_
                  rintro e w6 ⟨rfl,hq⟩;have ae:Bw w5 w6:=by first|exact hq|exact aK hq
                  clear p0 p1 t0 t1 t2 t3 gY;replace Hp:=kB Hp ae;replace Ht:=kB Ht ae;replace cZ:=kW cZ ae;replace HU:=kT HU ae;obtain⟨p0,p1⟩:=Hp.out.c2;obtain⟨t0,t1,t2,t3⟩:=Ht.out.c4;have gY:w6.cell? ⟨b,o+kp*4,none⟩=some (.string (bs l')):=cZ.out.cell 0 zm;replace Hb:=ak Hb ae;clear ae;refine hK _ _ (λ_=>⟨p0,p1,t0,t1,t2,t3,gY⟩) ?_;clear hK K;try simp only[UU]
                  iterate 7 (refine pT rfl rfl ?_ (by intro w' ⟨q0,q1,q2,q3,q4,q5,q6⟩;go_simp;try with_reducible rfl);try simp only[UU])
                  refine aF rfl rfl (λK hK=>?_);go_simp;with_reducible refine(oH s m e X HX.out _ nW.out.2 (by first|exact HU.out|exact au.drew HU.out|exact au.alloc HU.out _|exact au.drew (au.alloc HU.out _) |exact au.alloc (au.drew HU.out) _)).mono ?_
                  rintro e w7 ⟨rfl,hq⟩;have ae:Bw w6 w7:=by first|exact hq|exact aK hq
                  clear p0 p1 t0 t1 t2 t3 gY;replace Hp:=kB Hp ae;replace Ht:=kB Ht ae;replace cZ:=kW cZ ae;replace HU:=kT HU ae;obtain⟨p0,p1⟩:=Hp.out.c2;obtain⟨t0,t1,t2,t3⟩:=Ht.out.c4;have gY:w7.cell? ⟨b,o+kp*4,none⟩=some (.string (bs l')):=cZ.out.cell 0 zm;replace Hb:=ak Hb ae;clear ae;refine hK _ _ (λ_=>⟨p0,p1,t0,t1,t2,t3,gY⟩) ?_;clear hK K;try simp only[UU]
                  iterate 18 (refine pT rfl rfl ?_ (by intro w' ⟨q0,q1,q2,q3,q4,q5,q6⟩;go_simp;try with_reducible rfl);try simp only[UU])
                  simp only[aN];go_wp2;go_roundw;case rel=>exact⟨k+1,by omega,by go_num,Iw.out,Hp.out,aG aR.out Hb.out⟩
                  case measure=>simp[intOf];omega
                | false=>
                  have hr:=CI.out (by rw[hg];simpa using hlt9);subst hr;clear hg;go_wp2_with fail;obtain⟨p0,p1⟩:=Hp.out.c2;obtain⟨t0,t1,t2,t3⟩:=Ht.out.c4;have gY:W4.cell? ⟨b,o+kp*4,none⟩=some (.string (bs l')):=cZ.out.cell 0 zm;have HU:Hid (au W4):=HU.out;refine cf (λw'=>w'.cell? ⟨w.heap.size,0,none⟩=some (.int .i64 V)/\w'.cell? ⟨w.heap.size,1,none⟩=some (.slice a N cap)/\w'.cell? ⟨wr.heap.size,0,none⟩=some (.string (bs l))/\w'.cell? ⟨wr.heap.size,1,none⟩=some (.bool s)/\w'.cell? ⟨wr.heap.size,2,none⟩=some (.string (bs m))/\w'.cell? ⟨wr.heap.size,3,none⟩=some (.int .i64 e)/\w'.cell? ⟨b,o+kp*4,none⟩=some (.string (bs l'))) (λi=>Nat.blt i 100000) [(0,true),(1,true),(2,true),(3,true),(4,false),(5,true),(6,true),(7,true),(8,true),(9,false),(10,true),(11,true),(12,true),(13,true),(14,true),(16,true),(17,true),(15,false),(18,true),(19,true),(20,true),(21,true),(22,true),(23,true),(24,true),(25,true),(26,true),(27,true),(28,true),(29,true),(30,true),(31,true),(32,true),(33,true),(34,true),(35,true)] zk zk rfl zk zc ⟨p0,p1,t0,t1,t2,t3,gY⟩ ?_;iterate 4 (refine pT rfl rfl ?_ (by intro w' ⟨q0,q1,q2,q3,q4,q5,q6⟩;go_simp;try with_reducible rfl);try simp only[UU])
                  refine aF rfl rfl (λK hK=>?_);go_simp;with_reducible refine(rA.out _).mono ?_
                  rintro e w5 ⟨rfl,hq⟩;have ae:Bw W4 w5:=by first|exact hq|exact aK hq
                  clear p0 p1 t0 t1 t2 t3 gY;replace Hp:=kB Hp ae;replace Ht:=kB Ht ae;replace cZ:=kW cZ ae;replace HU:=kT HU ae;obtain⟨p0,p1⟩:=Hp.out.c2;obtain⟨t0,t1,t2,t3⟩:=Ht.out.c4;have gY:w5.cell? ⟨b,o+kp*4,none⟩=some (.string (bs l')):=cZ.out.cell 0 zm;replace Hb:=ak Hb ae;clear ae;refine hK _ _ (λ_=>⟨p0,p1,t0,t1,t2,t3,gY⟩) ?_;clear hK K;try simp only[UU]
                  iterate 4 (refine pT rfl rfl ?_ (by intro w' ⟨q0,q1,q2,q3,q4,q5,q6⟩;go_simp;try with_reducible rfl);try simp only[UU])
                  refine aF rfl rfl (λK hK=>?_);go_simp;with_reducible refine(lj s m e sg og.out _ nW.out.2).mono ?_
                  rintro e w6 ⟨rfl,hq⟩;have ae:Bw w5 w6:=by first|exact hq|exact aK hq
                  clear p0 p1 t0 t1 t2 t3 gY;replace Hp:=kB Hp ae;replace Ht:=kB Ht ae;replace cZ:=kW cZ ae;replace HU:=kT HU ae;obtain⟨p0,p1⟩:=Hp.out.c2;obtain⟨t0,t1,t2,t3⟩:=Ht.out.c4;have gY:w6.cell? ⟨b,o+kp*4,none⟩=some (.string (bs l')):=cZ.out.cell 0 zm;replace Hb:=ak Hb ae;clear ae;refine hK _ _ (λ_=>⟨p0,p1,t0,t1,t2,t3,gY⟩) ?_;clear hK K;try simp only[UU]
                  iterate 7 (refine pT rfl rfl ?_ (by intro w' ⟨q0,q1,q2,q3,q4,q5,q6⟩;go_simp;try with_reducible rfl);try simp only[UU])
                  refine aF rfl rfl (λK hK=>?_);go_simp;with_reducible refine(oH s m e X HX.out _ nW.out.2 (by first|exact HU.out|exact au.drew HU.out|exact au.alloc HU.out _|exact au.drew (au.alloc HU.out _) |exact au.alloc (au.drew HU.out) _)).mono ?_
                  rintro e w7 ⟨rfl,hq⟩;have ae:Bw w6 w7:=by first|exact hq|exact aK hq
                  clear p0 p1 t0 t1 t2 t3 gY;replace Hp:=kB Hp ae;replace Ht:=kB Ht ae;replace cZ:=kW cZ ae;replace HU:=kT HU ae;obtain⟨p0,p1⟩:=Hp.out.c2;obtain⟨t0,t1,t2,t3⟩:=Ht.out.c4;have gY:w7.cell? ⟨b,o+kp*4,none⟩=some (.string (bs l')):=cZ.out.cell 0 zm;replace Hb:=ak Hb ae;clear ae;refine hK _ _ (λ_=>⟨p0,p1,t0,t1,t2,t3,gY⟩) ?_;clear hK K;try simp only[UU]
                  iterate 18 (refine pT rfl rfl ?_ (by intro w' ⟨q0,q1,q2,q3,q4,q5,q6⟩;go_simp;try with_reducible rfl);try simp only[UU])
                  simp only[aN];go_wp2;refine bodyPost_ret (results_tmp rfl _ _ _) rfl ⟨rfl,aG aR.out Hb.out⟩
            . have hr:=CI.out (by
               rw[zH.out,hmv,hs1];have:(canon X==(s,m,e))=false:=by simpa using hc
               rw[this];rfl)
              subst hr;have hne:=WP X s m e true (by simpa using hc);clear hc;go_wp2_with fail;refine cf (λw'=>w'.cell? ⟨w.heap.size,0,none⟩=some (.int .i64 V)/\w'.cell? ⟨w.heap.size,1,none⟩=some (.slice a N cap)/\w'.cell? ⟨wr.heap.size,0,none⟩=some (.string (bs l))/\w'.cell? ⟨wr.heap.size,1,none⟩=some (.bool s)/\w'.cell? ⟨wr.heap.size,2,none⟩=some (.string (bs m))/\w'.cell? ⟨wr.heap.size,3,none⟩=some (.int .i64 e)) (λi=>Nat.blt i 100000) [(0,true),(1,true),(2,true),(3,true),(4,false),(5,true),(6,true),(7,true),(8,true),(9,false),(10,true),(11,true),(12,true),(13,true),(14,true),(16,true),(17,true),(15,false),(18,true),(19,true),(20,true),(21,true),(22,true),(23,true),(24,true),(25,true),(26,true),(27,true),(28,true),(29,true),(30,true),(31,true),(32,true),(33,true),(34,true),(35,true)] zk zk rfl zk zc ⟨p0,p1,t0,t1,t2,t3⟩ ?_;iterate 4 (refine pT rfl rfl ?_ (by intro w' ⟨q0,q1,q2,q3,q4,q5⟩;go_simp;try with_reducible rfl);try simp only[UU])
              refine aF rfl rfl (λK hK=>?_);go_simp;with_reducible refine(rA.out _).mono ?_
              rintro e w5 ⟨rfl,hq⟩;have ae:Bw W4 w5:=by first|exact hq|exact aK hq
              clear p0 p1 t0 t1 t2 t3;replace Hp:=kB Hp ae;replace HU:=kT HU ae;replace Ht:=kB Ht ae;obtain⟨p0,p1⟩:=Hp.out.c2;obtain⟨t0,t1,t2,t3⟩:=Ht.out.c4;replace Hb:=ak Hb ae;clear ae;refine hK _ _ (λ_=>⟨p0,p1,t0,t1,t2,t3⟩) ?_;clear hK K;try simp only[UU]
              iterate 4 (refine pT rfl rfl ?_ (by intro w' ⟨q0,q1,q2,q3,q4,q5⟩;go_simp;try with_reducible rfl);try simp only[UU])
              refine aF rfl rfl (λK hK=>?_);go_simp;with_reducible refine(lj s m e sg og.out _ nW.out.2).mono ?_
              rintro e w6 ⟨rfl,hq⟩;have ae:Bw w5 w6:=by first|exact hq|exact aK hq
              clear p0 p1 t0 t1 t2 t3;replace Hp:=kB Hp ae;replace HU:=kT HU ae;replace Ht:=kB Ht ae;obtain⟨p0,p1⟩:=Hp.out.c2;obtain⟨t0,t1,t2,t3⟩:=Ht.out.c4;replace Hb:=ak Hb ae;clear ae;refine hK _ _ (λ_=>⟨p0,p1,t0,t1,t2,t3⟩) ?_;clear hK K;try simp only[UU]
              iterate 7 (refine pT rfl rfl ?_ (by intro w' ⟨q0,q1,q2,q3,q4,q5⟩;go_simp;try with_reducible rfl);try simp only[UU])
              refine aF rfl rfl (λK hK=>?_);go_simp;with_reducible refine(oH s m e X HX.out _ nW.out.2 (by first|exact HU.out|exact au.drew HU.out|exact au.alloc HU.out _|exact au.drew (au.alloc HU.out _) |exact au.alloc (au.drew HU.out) _)).mono ?_
              rintro e w7 ⟨rfl,hq⟩;have ae:Bw w6 w7:=by first|exact hq|exact aK hq
              clear p0 p1 t0 t1 t2 t3;replace Hp:=kB Hp ae;replace HU:=kT HU ae;replace Ht:=kB Ht ae;obtain⟨p0,p1⟩:=Hp.out.c2;obtain⟨t0,t1,t2,t3⟩:=Ht.out.c4;replace Hb:=ak Hb ae;clear ae;refine hK _ _ (λ_=>⟨p0,p1,t0,t1,t2,t3⟩) ?_;clear hK K;try simp only[UU]
              iterate 3 (refine pT rfl rfl ?_;try simp only[UU])
              refine bi rfl rfl ?_;try simp only[UU]
              refine bi rfl rfl ?_;try simp only[UU]
              refine bi rfl rfl ?_;try simp only[UU]
              refine bi rfl rfl ?_;try simp only[UU]
              refine bi rfl rfl ?_;try simp only[UU]
              refine bi rfl rfl ?_;try simp only[UU]
              refine bi rfl rfl ?_;try simp only[UU]
              refine bi rfl rfl ?_;try simp only[UU]
              refine bi rfl rfl ?_;try simp only[UU]
              refine bi rfl rfl ?_;try simp only[UU]
              refine bi rfl rfl ?_;try simp only[UU]
              refine bi rfl rfl ?_;try simp only[UU]
              refine bi rfl rfl ?_;try simp only[UU]
              refine bi rfl rfl ?_;try simp only[UU]
              refine pT rfl rfl ?_;try simp only[UU]
              simp only[aN];go_wp2;refine bodyPost_ret (results_tmp rfl _ _ _) rfl ⟨rfl,aG aR.out Hb.out⟩
      . obtain rfl:k=N:=by omega
        have hr:R=0:=by rw[<-hR.out,if_pos kD]
        subst hr;go_wp2;refine bodyPost_ret (results_tmp rfl _ _ _) rfl ⟨rfl,pb⟩
 . have hR:=HR.out;rw[if_pos h1]at hR;clear HR;subst hR;go_wp2;refine bodyPost_ret (v:=.int .i64 1) (by simp[results,Tryz.results150,go_sem]) rfl ⟨rfl,?_⟩;(repeat first|exact Hb.out| (refine Below.setCell ?_ (by have:=Hb.out.size;first| (dsimp only;omega) | (show _<=_;omega) | (simp<;>omega)) _) | (refine Below.alloc ?_ zt _) |refine Below.drew ?_)
end Go.Proofs.YtoopepmmepmfnaaGreatDoor
