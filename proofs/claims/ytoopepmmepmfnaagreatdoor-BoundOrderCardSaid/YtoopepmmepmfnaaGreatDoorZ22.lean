/- Package poly: Check. -/
import Derived.Test.YtoopepmmepmfnaaGreatDoorZ11
import Derived.Test.YtoopepmmepmfnaaGreatDoorZ7
set_option linter.unusedVariables false
set_option linter.unusedSimpArgs false
set_option maxRecDepth 100000
set_option maxHeartbeats 16000000
namespace Go.Proofs.YtoopepmmepmfnaaGreatDoor
open Go.RowKit
attribute [local go_sem ↓] Go.wp_at_zero Go.wp_at_succ
theorem XM (X:Dyadic)(s:Bool)(m:List UInt8)(e:Int)(b:Bool)(h:(canon X==(s,m,e))= !b)(w':World):
 (if ai (dN X)=s then if(bs (nt (dN X).natAbs)).toList=(bs m).toList then if dE X=e then Result.ok (Next.value (Value.bool false)) w' else Result.ok (Next.value (Value.bool true)) w' else Result.ok (Next.value (Value.bool true)) w' else Result.ok (Next.value (Value.bool true)) w')=Result.ok (Next.value (Value.bool b)) w':=by
 have ht:∀x y:List UInt8,(bs x).toList=(bs y).toList↔x=y:=λx y=>by rw[ji,ji]
 have hc:(canon X==(s,m,e))=decide (ai (dN X)=s/\nt (dN X).natAbs=m/\dE X=e):=by rw[Bool.eq_iff_iff];simp[canon]
 rw[hc]at h;simp only[ht];cases b with
 | false=>
   have h2:ai (dN X)=s/\nt (dN X).natAbs=m/\dE X=e:=by simpa using h
   rw[if_pos h2.1,if_pos h2.2.1,if_pos h2.2.2]
 | true=>
   have h2:¬(ai (dN X)=s/\nt (dN X).natAbs=m/\dE X=e):=by intro h3;rw[decide_eq_true h3]at h;cases h
   by_cases h3:ai (dN X)=s
   . rw[if_pos h3];by_cases h4:nt (dN X).natAbs=m
     . rw[if_pos h4,if_neg (λh5=>h2 ⟨h3,h4,h5⟩)]
     . rw[if_neg h4]
   . rw[if_neg h3]
theorem Yc (V:Int)(a:Option Addr)(cap N:Nat)(ts:List aN)(w:World)(hN:ts.length=N)(hn:N<=1048576)(ha:At w a (ts.flatMap aX))(hl:∀t∈ts,t.1.length<=9223372036854775807/\Ok t.2)(hT:az w):
 Calls Tryz.prog 150 #[.agg #[.int .i64 V,.slice a N cap]] w λe w'=>e=.returned (.int .i64 (xB V ts))/\Bw w w':=by
 obtain⟨Ha,Hl,HN,eX⟩:=cX ha hl hN hT;obtain⟨R,hR⟩:=aB (xB V ts);unfold xB at hR;rw[hN]at hR;rw[show xB V ts=R by unfold xB;rw[hN];exact hR];have HR:=af hR;clear ha hl hN hR hT;obtain⟨W,bY,Hb,Hp⟩:=gh w 91 [.int .i64 V,.slice a N cap];obtain⟨p0,p1⟩:=Hp.out.c2;go_enter Tryz.func150,Tryz.ntmps150;go_wp2_with fail;refine(ES V _).mono ?_;rintro e w1 ⟨rfl,ae⟩;clear p0 p1;replace Hp:=kB Hp ae;obtain⟨p0,p1⟩:=Hp.out.c2;replace Hb:=ak Hb ae;clear ae;by_cases h1:0<=V/\V<=12
 . by_cases h2:4096<N
   . have h3:(4096:Int)<(N:Int):=by omega
     have hR:=HR.out;rw[if_neg (λh=>h h1),if_pos h2]at hR;clear HR;subst hR;go_wp2;refine bodyPost_ret (v:=.int .i64 3) (by simp[results,Tryz.results150,go_sem]) rfl ⟨rfl,?_⟩;(repeat first|exact Hb.out| (refine Below.setCell ?_ (by have:=Hb.out.size;first| (dsimp only;omega) | (show _<=_;omega) | (simp<;>omega)) _) | (refine Below.alloc ?_ zt _) |refine Below.drew ?_)
   . have h3:¬(4096:Int)<(N:Int):=by omega
     have h3d:decide ((4096:Int)<(N:Int))=false:=by simp;omega
     have hR:Hid ((if(List.range N).all (pq V ts)then(0:Int)else 1)=R):=by
      show _=_
      have hR:=HR.out;rw[if_neg (λh=>h h1),if_neg h2]at hR;exact hR
     clear HR;obtain⟨bU,ij⟩:=aI Hb.out Hp.out;clear Hb Hp p0 p1;have p0:w1.cell? ⟨w.heap.size,0,none⟩=some (.int .i64 V):=ij.out.cell 0;have p1:w1.cell? ⟨w.heap.size,1,none⟩=some (.slice a N cap):=ij.out.cell 1;go_wp2_with fail;go_loopw[16] (λx wr=>∃k:Nat,k<=N/\x=.int .i64 (k:Int)/\(List.range k).all (pq V ts)=true/\aj wr w.heap.size 91 [.int .i64 V,.slice a N cap]/\Bw w wr) (λx _=>N-(intOf x).toNat);case atStart=>exact⟨0,Nat.zero_le _,rfl,rfl,ij.out,bU.out⟩
     case round=>
      clear bU ij p0 p1;obtain⟨k,hk,rfl,kQ,fP,pb⟩:=hrel;by_cases hlt:k<N
      . have hk2:k<ts.length:=by rw[HN.out];exact hlt
        obtain⟨l,s,m,e,hx⟩:∃l s m e,ts[k]=(l,s,m,e):=⟨_,_,_,_,rfl⟩;obtain⟨b,o,hab,eP⟩:=(Ha.out.below pb).term k hk2 hx;have hl2:l.length<=9223372036854775807/\Ok (s,m,e):=by have:=Hl.out _ (List.getElem_mem hk2);rw[hx]at this;exact this
        have SP:ts.getD k default=(l,s,m,e):=by simp[hk2,hx]
        have UZ:(List.range (k+1)).all (pq V ts)=pq V ts k:=by rw[List.range_succ,List.all_append,kQ];simp
        have hbad:pq V ts k=false->R=1:=by intro h;rw[<-hR.out,if_neg];intro h5;rw[List.all_eq_true]at h5;have:=h5 k (List.mem_range.2 hlt);rw[h]at this;cases this
        have Mt:pq V ts k=(BJ V l (s,m,e)&&(k==0||Op.bytesLess (bs (ts.getD (k-1) default).1).toList (bs l).toList)):=by unfold pq;rw[SP]
        have bD:=rH N cap k (k:Int) hab hlt rfl;obtain⟨X,hX⟩:=aB (ar (s,m,e));obtain⟨sg,oh⟩:=aB (aR X);have hgt:BJ V l (s,m,e)=(fY l V&& !(sg==0)&&(canon X==(s,m,e))):=by unfold BJ;rw[hX,oh]
        rw[hgt]at Mt;obtain⟨Rh,oI,aY,AE,QB,DN,HX⟩:=iL eP hl2 pb Mt UZ hbad hX;have oN:Hid (aR (ar (s,m,e))=sg):=by show _=_;rw[hX];exact oh
        have Hp:=af fP;have HU:Hid (az wr):=eX.out.below pb;clear eP hl2 Mt UZ hbad hX oh hgt SP fP hx;have mF:=af hab;clear hab;have Hb:Hid (Bw wr wr):=Below.refl _ _;have sz:=pb.size;have vS:Hid (bN wr b (o+k*4) [.string (bs l),.bool s,.string (bs m),.int .i64 e]):=Rh.out;obtain⟨p0,p1⟩:=Hp.out.c2;obtain⟨Io,Ip,Iq,Ir⟩:=vS.out.w4;have HU:Hid (az wr):=HU.out;have P0:=Io;have P1:=Ip;have P2:=Iq;have P3:=Ir;have ap0:=Hp.out.lt;obtain⟨W4,jX,ae,Ht⟩:=cf wr 93 [.string (bs l),.bool s,.string (bs m),.int .i64 e];clear p0 p1;replace Hp:=kB Hp ae;clear Io Ip Iq Ir;replace vS:=kW vS ae;replace HU:=kT HU ae;obtain⟨p0,p1⟩:=Hp.out.c2;obtain⟨Io,Ip,Iq,Ir⟩:=vS.out.w4;obtain⟨t0,t1,t2,t3⟩:=Ht.out.c4;replace Hb:=ak Hb ae;clear ae Io Ip Iq Ir vS Rh;cases hmv:fY l V with
        | false=>
          have hr:=DN.out (by rw[AE.out,hmv];rfl);subst hr;have jo:=λW=>GN l V W (by have:=oI.out.1;omega);rw[hmv]at jo;have se:=af jo;clear jo;go_wp2_with fail;refine cd (λw'=>w'.cell? ⟨w.heap.size,0,none⟩=some (.int .i64 V)/\w'.cell? ⟨w.heap.size,1,none⟩=some (.slice a N cap)/\w'.cell? ⟨wr.heap.size,0,none⟩=some (.string (bs l))/\w'.cell? ⟨wr.heap.size,1,none⟩=some (.bool s)/\w'.cell? ⟨wr.heap.size,2,none⟩=some (.string (bs m))/\w'.cell? ⟨wr.heap.size,3,none⟩=some (.int .i64 e)) (λi=>Nat.blt i 100000) [(0,true),(1,true),(2,true),(3,true),(4,false),(5,true),(6,true),(7,true),(8,true),(9,false),(10,true),(11,true),(12,true),(13,true),(14,true),(16,true),(17,true),(15,false),(18,true),(19,true),(20,true),(21,true),(22,true),(23,true),(24,true),(25,true),(26,true),(27,true),(28,true),(29,true),(30,true),(31,true),(32,true),(33,true),(34,true),(35,true)] zk zk rfl zk zc ⟨p0,p1,t0,t1,t2,t3⟩ ?_;iterate 4 (refine pT rfl rfl ?_ (by intro w' ⟨q0,q1,q2,q3,q4,q5⟩;go_simp;try with_reducible rfl);try simp only[UU])
          refine aC rfl rfl (λK hK=>?_);go_simp;with_reducible refine(se.out _).mono ?_
          rintro e w5 ⟨rfl,hq⟩;have ae:Bw W4 w5:=by first|exact hq|exact aO hq
          clear p0 p1 t0 t1 t2 t3;replace Hp:=kB Hp ae;replace HU:=kT HU ae;replace Ht:=kB Ht ae;obtain⟨p0,p1⟩:=Hp.out.c2;obtain⟨t0,t1,t2,t3⟩:=Ht.out.c4;replace Hb:=ak Hb ae;clear ae;refine hK _ _ (λ_=>⟨p0,p1,t0,t1,t2,t3⟩) ?_;clear hK K;try simp only[UU]
          iterate 2 (refine pT rfl rfl ?_;try simp only[UU])
          refine bI rfl rfl ?_;try simp only[UU]
          refine bI rfl rfl ?_;try simp only[UU]
          refine tG rfl rfl (λ_=>⟨p0,p1,t0,t1,t2,t3⟩) ?_;try simp only[UU]
          refine bI rfl rfl ?_;try simp only[UU]
          iterate 2 (refine pT rfl rfl ?_;try simp only[UU])
          refine bI rfl rfl ?_;try simp only[UU]
          refine bI rfl rfl ?_;try simp only[UU]
          refine bI rfl rfl ?_;try simp only[UU]
          refine bI rfl rfl ?_;try simp only[UU]
          refine tG rfl rfl (λ_=>⟨p0,p1,t0,t1,t2,t3⟩) ?_;try simp only[UU]
          refine bI rfl rfl ?_;try simp only[UU]
          iterate 2 (refine pT rfl rfl ?_;try simp only[UU])
          refine bI rfl rfl ?_;try simp only[UU]
          refine bI rfl rfl ?_;try simp only[UU]
          refine bI rfl rfl ?_;try simp only[UU]
          refine bI rfl rfl ?_;try simp only[UU]
          refine bI rfl rfl ?_;try simp only[UU]
          refine bI rfl rfl ?_;try simp only[UU]
          refine bI rfl rfl ?_;try simp only[UU]
          refine bI rfl rfl ?_;try simp only[UU]
          refine bI rfl rfl ?_;try simp only[UU]
          refine bI rfl rfl ?_;try simp only[UU]
          refine bI rfl rfl ?_;try simp only[UU]
          refine bI rfl rfl ?_;try simp only[UU]
          refine bI rfl rfl ?_;try simp only[UU]
          refine bI rfl rfl ?_;try simp only[UU]
          refine pT rfl rfl ?_;try simp only[UU]
          simp only[aV];go_wp2;refine bodyPost_ret (results_tmp rfl _ _ _) rfl ⟨rfl,aH aY.out Hb.out⟩
        | true=>
          have jo:=λW=>GN l V W (by have:=oI.out.1;omega);rw[hmv]at jo;have se:=af jo;clear jo;by_cases hs0:sg=0
          . have hr:=DN.out (by rw[AE.out,hmv,hs0];rfl);subst hr hs0;go_wp2_with fail;refine cd (λw'=>w'.cell? ⟨w.heap.size,0,none⟩=some (.int .i64 V)/\w'.cell? ⟨w.heap.size,1,none⟩=some (.slice a N cap)/\w'.cell? ⟨wr.heap.size,0,none⟩=some (.string (bs l))/\w'.cell? ⟨wr.heap.size,1,none⟩=some (.bool s)/\w'.cell? ⟨wr.heap.size,2,none⟩=some (.string (bs m))/\w'.cell? ⟨wr.heap.size,3,none⟩=some (.int .i64 e)) (λi=>Nat.blt i 100000) [(0,true),(1,true),(2,true),(3,true),(4,false),(5,true),(6,true),(7,true),(8,true),(9,false),(10,true),(11,true),(12,true),(13,true),(14,true),(16,true),(17,true),(15,false),(18,true),(19,true),(20,true),(21,true),(22,true),(23,true),(24,true),(25,true),(26,true),(27,true),(28,true),(29,true),(30,true),(31,true),(32,true),(33,true),(34,true),(35,true)] zk zk rfl zk zc ⟨p0,p1,t0,t1,t2,t3⟩ ?_;iterate 4 (refine pT rfl rfl ?_ (by intro w' ⟨q0,q1,q2,q3,q4,q5⟩;go_simp;try with_reducible rfl);try simp only[UU])
            refine aC rfl rfl (λK hK=>?_);go_simp;with_reducible refine(se.out _).mono ?_
            rintro e w5 ⟨rfl,hq⟩;have ae:Bw W4 w5:=by first|exact hq|exact aO hq
            clear p0 p1 t0 t1 t2 t3;replace Hp:=kB Hp ae;replace HU:=kT HU ae;replace Ht:=kB Ht ae;obtain⟨p0,p1⟩:=Hp.out.c2;obtain⟨t0,t1,t2,t3⟩:=Ht.out.c4;replace Hb:=ak Hb ae;clear ae;refine hK _ _ (λ_=>⟨p0,p1,t0,t1,t2,t3⟩) ?_;clear hK K;try simp only[UU]
            iterate 4 (refine pT rfl rfl ?_ (by intro w' ⟨q0,q1,q2,q3,q4,q5⟩;go_simp;try with_reducible rfl);try simp only[UU])
            refine aC rfl rfl (λK hK=>?_);go_simp;with_reducible refine(lL s m e 0 oN.out _ oI.out.2).mono ?_
            rintro e w6 ⟨rfl,hq⟩;have ae:Bw w5 w6:=by first|exact hq|exact aO hq
            clear p0 p1 t0 t1 t2 t3;replace Hp:=kB Hp ae;replace HU:=kT HU ae;replace Ht:=kB Ht ae;obtain⟨p0,p1⟩:=Hp.out.c2;obtain⟨t0,t1,t2,t3⟩:=Ht.out.c4;replace Hb:=ak Hb ae;clear ae;refine hK _ _ (λ_=>⟨p0,p1,t0,t1,t2,t3⟩) ?_;clear hK K;try simp only[UU]
            iterate 3 (refine pT rfl rfl ?_;try simp only[UU])
            refine bI rfl rfl ?_;try simp only[UU]
            refine bI rfl rfl ?_;try simp only[UU]
            refine bI rfl rfl ?_;try simp only[UU]
            refine bI rfl rfl ?_;try simp only[UU]
            refine tG rfl rfl (λ_=>⟨p0,p1,t0,t1,t2,t3⟩) ?_;try simp only[UU]
            refine bI rfl rfl ?_;try simp only[UU]
            iterate 2 (refine pT rfl rfl ?_;try simp only[UU])
            refine bI rfl rfl ?_;try simp only[UU]
            refine bI rfl rfl ?_;try simp only[UU]
            refine bI rfl rfl ?_;try simp only[UU]
            refine bI rfl rfl ?_;try simp only[UU]
            refine bI rfl rfl ?_;try simp only[UU]
            refine bI rfl rfl ?_;try simp only[UU]
            refine bI rfl rfl ?_;try simp only[UU]
            refine bI rfl rfl ?_;try simp only[UU]
            refine bI rfl rfl ?_;try simp only[UU]
            refine bI rfl rfl ?_;try simp only[UU]
            refine bI rfl rfl ?_;try simp only[UU]
            refine bI rfl rfl ?_;try simp only[UU]
            refine bI rfl rfl ?_;try simp only[UU]
            refine bI rfl rfl ?_;try simp only[UU]
            refine pT rfl rfl ?_;try simp only[UU]
            simp only[aV];go_wp2;refine bodyPost_ret (results_tmp rfl _ _ _) rfl ⟨rfl,aH aY.out Hb.out⟩
          . have hs1:(sg==0)=false:=by simpa using hs0
            by_cases hc:canon X=(s,m,e)
            . have hcb:(canon X==(s,m,e))=true:=by simpa using hc
              have hne:=XM X s m e false hcb;clear hc;by_cases fw:k=0
              . have hg:=AE.out;rw[hmv,hs1,hcb,fw]at hg;have JF:Hid ((List.range (k+1)).all (pq V ts)=true):=by show _=_;rw[QB.out,fw,hg];rfl
                have hk1:decide (0<k)=false:=by simp;omega
                clear hg hcb fw;go_wp2_with fail;refine cd (λw'=>w'.cell? ⟨w.heap.size,0,none⟩=some (.int .i64 V)/\w'.cell? ⟨w.heap.size,1,none⟩=some (.slice a N cap)/\w'.cell? ⟨wr.heap.size,0,none⟩=some (.string (bs l))/\w'.cell? ⟨wr.heap.size,1,none⟩=some (.bool s)/\w'.cell? ⟨wr.heap.size,2,none⟩=some (.string (bs m))/\w'.cell? ⟨wr.heap.size,3,none⟩=some (.int .i64 e)) (λi=>Nat.blt i 100000) [(0,true),(1,true),(2,true),(3,true),(4,false),(5,true),(6,true),(7,true),(8,true),(9,false),(10,true),(11,true),(12,true),(13,true),(14,true),(16,true),(17,true),(15,false),(18,true),(19,true),(20,true),(21,true),(22,true),(23,true),(24,true),(25,true),(26,true),(27,true),(28,true),(29,true),(30,true),(31,true),(32,true),(33,true),(34,true),(35,true)] zk zk rfl zk zc ⟨p0,p1,t0,t1,t2,t3⟩ ?_;iterate 4 (refine pT rfl rfl ?_ (by intro w' ⟨q0,q1,q2,q3,q4,q5⟩;go_simp;try with_reducible rfl);try simp only[UU])
                refine aC rfl rfl (λK hK=>?_);go_simp;with_reducible refine(se.out _).mono ?_
                rintro e w5 ⟨rfl,hq⟩;have ae:Bw W4 w5:=by first|exact hq|exact aO hq
                clear p0 p1 t0 t1 t2 t3;replace Hp:=kB Hp ae;replace HU:=kT HU ae;replace Ht:=kB Ht ae;obtain⟨p0,p1⟩:=Hp.out.c2;obtain⟨t0,t1,t2,t3⟩:=Ht.out.c4;replace Hb:=ak Hb ae;clear ae;refine hK _ _ (λ_=>⟨p0,p1,t0,t1,t2,t3⟩) ?_;clear hK K;try simp only[UU]
                iterate 4 (refine pT rfl rfl ?_ (by intro w' ⟨q0,q1,q2,q3,q4,q5⟩;go_simp;try with_reducible rfl);try simp only[UU])
                refine aC rfl rfl (λK hK=>?_);go_simp;with_reducible refine(lL s m e sg oN.out _ oI.out.2).mono ?_
                rintro e w6 ⟨rfl,hq⟩;have ae:Bw w5 w6:=by first|exact hq|exact aO hq
                clear p0 p1 t0 t1 t2 t3;replace Hp:=kB Hp ae;replace HU:=kT HU ae;replace Ht:=kB Ht ae;obtain⟨p0,p1⟩:=Hp.out.c2;obtain⟨t0,t1,t2,t3⟩:=Ht.out.c4;replace Hb:=ak Hb ae;clear ae;refine hK _ _ (λ_=>⟨p0,p1,t0,t1,t2,t3⟩) ?_;clear hK K;try simp only[UU]
                iterate 7 (refine pT rfl rfl ?_ (by intro w' ⟨q0,q1,q2,q3,q4,q5⟩;go_simp;try with_reducible rfl);try simp only[UU])
                refine aC rfl rfl (λK hK=>?_);go_simp;with_reducible refine(pn s m e X HX.out _ oI.out.2 (by first|exact HU.out|exact az.drew HU.out|exact az.alloc HU.out _|exact az.drew (az.alloc HU.out _) |exact az.alloc (az.drew HU.out) _)).mono ?_
                rintro e w7 ⟨rfl,hq⟩;have ae:Bw w6 w7:=by first|exact hq|exact aO hq
                clear p0 p1 t0 t1 t2 t3;replace Hp:=kB Hp ae;replace HU:=kT HU ae;replace Ht:=kB Ht ae;obtain⟨p0,p1⟩:=Hp.out.c2;obtain⟨t0,t1,t2,t3⟩:=Ht.out.c4;replace Hb:=ak Hb ae;clear ae;refine hK _ _ (λ_=>⟨p0,p1,t0,t1,t2,t3⟩) ?_;clear hK K;try simp only[UU]
                iterate 6 (refine pT rfl rfl ?_;try simp only[UU])
                refine bI rfl rfl ?_;try simp only[UU]
                refine bI rfl rfl ?_;try simp only[UU]
                refine bI rfl rfl ?_;try simp only[UU]
                refine bI rfl rfl ?_;try simp only[UU]
                refine bI rfl rfl ?_;try simp only[UU]
                refine bI rfl rfl ?_;try simp only[UU]
                refine bI rfl rfl ?_;try simp only[UU]
                refine bI rfl rfl ?_;try simp only[UU]
                refine bI rfl rfl ?_;try simp only[UU]
                refine bI rfl rfl ?_;try simp only[UU]
                iterate 2 (refine pT rfl rfl ?_;try simp only[UU])
                simp only[aV];go_wp2;go_roundw;case rel=>exact⟨k+1,by omega,by go_num,JF.out,Hp.out,aH aY.out Hb.out⟩
                case measure=>simp[intOf];omega
              . have wI:k-1<ts.length:=by omega
                obtain⟨l',s',m',e',hx'⟩:∃l s m e,ts[k-1]=(l,s,m,e):=⟨_,_,_,_,rfl⟩;obtain⟨b',o',gz,Nq⟩:=(Ha.out.below (aH aY.out Hb.out)).term (k-1) wI hx';have hab:=mF.out;rw[hab]at gz;simp only[Option.some.injEq,Addr.mk.injEq,and_true]at gz;obtain⟨rfl,rfl⟩:=gz;have SQ:ts.getD (k-1) default=(l',s',m',e'):=by simp[wI,hx']
                have hg:=AE.out;rw[SQ,hmv,hs1,hcb]at hg;have Vk:(k==0)=false:=by simpa using fw
                rw[Vk]at hg;have hk1:decide (0<k)=true:=by simp;omega
                have hkw:IntKind.i64.wrap ((k:Int)-1)=((k-1:Nat):Int):=by rw[IntKind.wrap_i64];omega
                have ahI:=rH N cap (k-1) ((k-1:Nat):Int) hab zo rfl;obtain⟨kp,My⟩:=aB (k-1);rw[My]at ahI hkw Nq;have aoD:kp<N:=by omega
                have cQ:Hid (bN W4 b (o+kp*4) [.string (bs l'),.bool s',.string (bs m'),.int .i64 e']):=Nq;have anB:=af My;clear Nq fw Vk hcb SQ hx' My hab;cases hlt9:Op.bytesLess (bs l').toList (bs l).toList with
                | true=>
                  have JF:Hid ((List.range (k+1)).all (pq V ts)=true):=by show _=_;rw[QB.out,hg];simpa using hlt9
                  clear hg;go_wp2_with fail;obtain⟨p0,p1⟩:=Hp.out.c2;obtain⟨t0,t1,t2,t3⟩:=Ht.out.c4;have iw:W4.cell? ⟨b,o+kp*4,none⟩=some (.string (bs l')):=cQ.out.cell 0 zm;have HU:Hid (az W4):=HU.out;refine cd (λw'=>w'.cell? ⟨w.heap.size,0,none⟩=some (.int .i64 V)/\w'.cell? ⟨w.heap.size,1,none⟩=some (.slice a N cap)/\w'.cell? ⟨wr.heap.size,0,none⟩=some (.string (bs l))/\w'.cell? ⟨wr.heap.size,1,none⟩=some (.bool s)/\w'.cell? ⟨wr.heap.size,2,none⟩=some (.string (bs m))/\w'.cell? ⟨wr.heap.size,3,none⟩=some (.int .i64 e)/\w'.cell? ⟨b,o+kp*4,none⟩=some (.string (bs l'))) (λi=>Nat.blt i 100000) [(0,true),(1,true),(2,true),(3,true),(4,false),(5,true),(6,true),(7,true),(8,true),(9,false),(10,true),(11,true),(12,true),(13,true),(14,true),(16,true),(17,true),(15,false),(18,true),(19,true),(20,true),(21,true),(22,true),(23,true),(24,true),(25,true),(26,true),(27,true),(28,true),(29,true),(30,true),(31,true),(32,true),(33,true),(34,true),(35,true)] zk zk rfl zk zc ⟨p0,p1,t0,t1,t2,t3,iw⟩ ?_;iterate 4 (refine pT rfl rfl ?_ (by intro w' ⟨q0,q1,q2,q3,q4,q5,q6⟩;go_simp;try with_reducible rfl);try simp only[UU])
                  refine aC rfl rfl (λK hK=>?_);go_simp;with_reducible refine(se.out _).mono ?_
                  rintro e w5 ⟨rfl,hq⟩;have ae:Bw W4 w5:=by first|exact hq|exact aO hq
                  clear p0 p1 t0 t1 t2 t3 iw;replace Hp:=kB Hp ae;replace Ht:=kB Ht ae;replace cQ:=kW cQ ae;replace HU:=kT HU ae;obtain⟨p0,p1⟩:=Hp.out.c2;obtain⟨t0,t1,t2,t3⟩:=Ht.out.c4;have iw:w5.cell? ⟨b,o+kp*4,none⟩=some (.string (bs l')):=cQ.out.cell 0 zm;replace Hb:=ak Hb ae;clear ae;refine hK _ _ (λ_=>⟨p0,p1,t0,t1,t2,t3,iw⟩) ?_;clear hK K;try simp only[UU]
                  iterate 4 (refine pT rfl rfl ?_ (by intro w' ⟨q0,q1,q2,q3,q4,q5,q6⟩;go_simp;try with_reducible rfl);try simp only[UU])
                  refine aC rfl rfl (λK hK=>?_);go_simp;with_reducible refine(lL s m e sg oN.out _ oI.out.2).mono ?_
                  rintro e w6 ⟨rfl,hq⟩;have ae:Bw w5 w6:=by first|exact hq|exact aO hq
                  clear p0 p1 t0 t1 t2 t3 iw;replace Hp:=kB Hp ae;replace Ht:=kB Ht ae;replace cQ:=kW cQ ae;replace HU:=kT HU ae;obtain⟨p0,p1⟩:=Hp.out.c2;obtain⟨t0,t1,t2,t3⟩:=Ht.out.c4;have iw:w6.cell? ⟨b,o+kp*4,none⟩=some (.string (bs l')):=cQ.out.cell 0 zm;replace Hb:=ak Hb ae;clear ae;refine hK _ _ (λ_=>⟨p0,p1,t0,t1,t2,t3,iw⟩) ?_;clear hK K;try simp only[UU]
                  iterate 7 (refine pT rfl rfl ?_ (by intro w' ⟨q0,q1,q2,q3,q4,q5,q6⟩;go_simp;try with_reducible rfl);try simp only[UU])
                  refine aC rfl rfl (λK hK=>?_);go_simp;with_reducible refine(pn s m e X HX.out _ oI.out.2 (by first|exact HU.out|exact az.drew HU.out|exact az.alloc HU.out _|exact az.drew (az.alloc HU.out _) |exact az.alloc (az.drew HU.out) _)).mono ?_
                  rintro e w7 ⟨rfl,hq⟩;have ae:Bw w6 w7:=by first|exact hq|exact aO hq
                  clear p0 p1 t0 t1 t2 t3 iw;replace Hp:=kB Hp ae;replace Ht:=kB Ht ae;replace cQ:=kW cQ ae;replace HU:=kT HU ae;obtain⟨p0,p1⟩:=Hp.out.c2;obtain⟨t0,t1,t2,t3⟩:=Ht.out.c4;have iw:w7.cell? ⟨b,o+kp*4,none⟩=some (.string (bs l')):=cQ.out.cell 0 zm;replace Hb:=ak Hb ae;clear ae;refine hK _ _ (λ_=>⟨p0,p1,t0,t1,t2,t3,iw⟩) ?_;clear hK K;try simp only[UU]
                  iterate 18 (refine pT rfl rfl ?_ (by intro w' ⟨q0,q1,q2,q3,q4,q5,q6⟩;go_simp;try with_reducible rfl);try simp only[UU])
                  simp only[aV];go_wp2;go_roundw;case rel=>exact⟨k+1,by omega,by go_num,JF.out,Hp.out,aH aY.out Hb.out⟩
                  case measure=>simp[intOf];omega
                | false=>
                  have hr:=DN.out (by rw[hg];simpa using hlt9);subst hr;clear hg;go_wp2_with fail;obtain⟨p0,p1⟩:=Hp.out.c2;obtain⟨t0,t1,t2,t3⟩:=Ht.out.c4;have iw:W4.cell? ⟨b,o+kp*4,none⟩=some (.string (bs l')):=cQ.out.cell 0 zm;have HU:Hid (az W4):=HU.out;refine cd (λw'=>w'.cell? ⟨w.heap.size,0,none⟩=some (.int .i64 V)/\w'.cell? ⟨w.heap.size,1,none⟩=some (.slice a N cap)/\w'.cell? ⟨wr.heap.size,0,none⟩=some (.string (bs l))/\w'.cell? ⟨wr.heap.size,1,none⟩=some (.bool s)/\w'.cell? ⟨wr.heap.size,2,none⟩=some (.string (bs m))/\w'.cell? ⟨wr.heap.size,3,none⟩=some (.int .i64 e)/\w'.cell? ⟨b,o+kp*4,none⟩=some (.string (bs l'))) (λi=>Nat.blt i 100000) [(0,true),(1,true),(2,true),(3,true),(4,false),(5,true),(6,true),(7,true),(8,true),(9,false),(10,true),(11,true),(12,true),(13,true),(14,true),(16,true),(17,true),(15,false),(18,true),(19,true),(20,true),(21,true),(22,true),(23,true),(24,true),(25,true),(26,true),(27,true),(28,true),(29,true),(30,true),(31,true),(32,true),(33,true),(34,true),(35,true)] zk zk rfl zk zc ⟨p0,p1,t0,t1,t2,t3,iw⟩ ?_;iterate 4 (refine pT rfl rfl ?_ (by intro w' ⟨q0,q1,q2,q3,q4,q5,q6⟩;go_simp;try with_reducible rfl);try simp only[UU])
                  refine aC rfl rfl (λK hK=>?_);go_simp;with_reducible refine(se.out _).mono ?_
                  rintro e w5 ⟨rfl,hq⟩;have ae:Bw W4 w5:=by first|exact hq|exact aO hq
                  clear p0 p1 t0 t1 t2 t3 iw;replace Hp:=kB Hp ae;replace Ht:=kB Ht ae;replace cQ:=kW cQ ae;replace HU:=kT HU ae;obtain⟨p0,p1⟩:=Hp.out.c2;obtain⟨t0,t1,t2,t3⟩:=Ht.out.c4;have iw:w5.cell? ⟨b,o+kp*4,none⟩=some (.string (bs l')):=cQ.out.cell 0 zm;replace Hb:=ak Hb ae;clear ae;refine hK _ _ (λ_=>⟨p0,p1,t0,t1,t2,t3,iw⟩) ?_;clear hK K;try simp only[UU]
                  iterate 4 (refine pT rfl rfl ?_ (by intro w' ⟨q0,q1,q2,q3,q4,q5,q6⟩;go_simp;try with_reducible rfl);try simp only[UU])
                  refine aC rfl rfl (λK hK=>?_);go_simp;with_reducible refine(lL s m e sg oN.out _ oI.out.2).mono ?_
                  rintro e w6 ⟨rfl,hq⟩;have ae:Bw w5 w6:=by first|exact hq|exact aO hq
                  clear p0 p1 t0 t1 t2 t3 iw;replace Hp:=kB Hp ae;replace Ht:=kB Ht ae;replace cQ:=kW cQ ae;replace HU:=kT HU ae;obtain⟨p0,p1⟩:=Hp.out.c2;obtain⟨t0,t1,t2,t3⟩:=Ht.out.c4;have iw:w6.cell? ⟨b,o+kp*4,none⟩=some (.string (bs l')):=cQ.out.cell 0 zm;replace Hb:=ak Hb ae;clear ae;refine hK _ _ (λ_=>⟨p0,p1,t0,t1,t2,t3,iw⟩) ?_;clear hK K;try simp only[UU]
                  iterate 7 (refine pT rfl rfl ?_ (by intro w' ⟨q0,q1,q2,q3,q4,q5,q6⟩;go_simp;try with_reducible rfl);try simp only[UU])
                  refine aC rfl rfl (λK hK=>?_);go_simp;with_reducible refine(pn s m e X HX.out _ oI.out.2 (by first|exact HU.out|exact az.drew HU.out|exact az.alloc HU.out _|exact az.drew (az.alloc HU.out _) |exact az.alloc (az.drew HU.out) _)).mono ?_
                  rintro e w7 ⟨rfl,hq⟩;have ae:Bw w6 w7:=by first|exact hq|exact aO hq
                  clear p0 p1 t0 t1 t2 t3 iw;replace Hp:=kB Hp ae;replace Ht:=kB Ht ae;replace cQ:=kW cQ ae;replace HU:=kT HU ae;obtain⟨p0,p1⟩:=Hp.out.c2;obtain⟨t0,t1,t2,t3⟩:=Ht.out.c4;have iw:w7.cell? ⟨b,o+kp*4,none⟩=some (.string (bs l')):=cQ.out.cell 0 zm;replace Hb:=ak Hb ae;clear ae;refine hK _ _ (λ_=>⟨p0,p1,t0,t1,t2,t3,iw⟩) ?_;clear hK K;try simp only[UU]
                  iterate 18 (refine pT rfl rfl ?_ (by intro w' ⟨q0,q1,q2,q3,q4,q5,q6⟩;go_simp;try with_reducible rfl);try simp only[UU])
                  simp only[aV];go_wp2;refine bodyPost_ret (results_tmp rfl _ _ _) rfl ⟨rfl,aH aY.out Hb.out⟩
            . have hr:=DN.out (by
               rw[AE.out,hmv,hs1];have:(canon X==(s,m,e))=false:=by simpa using hc
               rw[this];rfl)
              subst hr;have hne:=XM X s m e true (by simpa using hc);clear hc;go_wp2_with fail;refine cd (λw'=>w'.cell? ⟨w.heap.size,0,none⟩=some (.int .i64 V)/\w'.cell? ⟨w.heap.size,1,none⟩=some (.slice a N cap)/\w'.cell? ⟨wr.heap.size,0,none⟩=some (.string (bs l))/\w'.cell? ⟨wr.heap.size,1,none⟩=some (.bool s)/\w'.cell? ⟨wr.heap.size,2,none⟩=some (.string (bs m))/\w'.cell? ⟨wr.heap.size,3,none⟩=some (.int .i64 e)) (λi=>Nat.blt i 100000) [(0,true),(1,true),(2,true),(3,true),(4,false),(5,true),(6,true),(7,true),(8,true),(9,false),(10,true),(11,true),(12,true),(13,true),(14,true),(16,true),(17,true),(15,false),(18,true),(19,true),(20,true),(21,true),(22,true),(23,true),(24,true),(25,true),(26,true),(27,true),(28,true),(29,true),(30,true),(31,true),(32,true),(33,true),(34,true),(35,true)] zk zk rfl zk zc ⟨p0,p1,t0,t1,t2,t3⟩ ?_;iterate 4 (refine pT rfl rfl ?_ (by intro w' ⟨q0,q1,q2,q3,q4,q5⟩;go_simp;try with_reducible rfl);try simp only[UU])
              refine aC rfl rfl (λK hK=>?_);go_simp;with_reducible refine(se.out _).mono ?_
              rintro e w5 ⟨rfl,hq⟩;have ae:Bw W4 w5:=by first|exact hq|exact aO hq
              clear p0 p1 t0 t1 t2 t3;replace Hp:=kB Hp ae;replace HU:=kT HU ae;replace Ht:=kB Ht ae;obtain⟨p0,p1⟩:=Hp.out.c2;obtain⟨t0,t1,t2,t3⟩:=Ht.out.c4;replace Hb:=ak Hb ae;clear ae;refine hK _ _ (λ_=>⟨p0,p1,t0,t1,t2,t3⟩) ?_;clear hK K;try simp only[UU]
              iterate 4 (refine pT rfl rfl ?_ (by intro w' ⟨q0,q1,q2,q3,q4,q5⟩;go_simp;try with_reducible rfl);try simp only[UU])
              refine aC rfl rfl (λK hK=>?_);go_simp;with_reducible refine(lL s m e sg oN.out _ oI.out.2).mono ?_
              rintro e w6 ⟨rfl,hq⟩;have ae:Bw w5 w6:=by first|exact hq|exact aO hq
              clear p0 p1 t0 t1 t2 t3;replace Hp:=kB Hp ae;replace HU:=kT HU ae;replace Ht:=kB Ht ae;obtain⟨p0,p1⟩:=Hp.out.c2;obtain⟨t0,t1,t2,t3⟩:=Ht.out.c4;replace Hb:=ak Hb ae;clear ae;refine hK _ _ (λ_=>⟨p0,p1,t0,t1,t2,t3⟩) ?_;clear hK K;try simp only[UU]
              iterate 7 (refine pT rfl rfl ?_ (by intro w' ⟨q0,q1,q2,q3,q4,q5⟩;go_simp;try with_reducible rfl);try simp only[UU])
              refine aC rfl rfl (λK hK=>?_);go_simp;with_reducible refine(pn s m e X HX.out _ oI.out.2 (by first|exact HU.out|exact az.drew HU.out|exact az.alloc HU.out _|exact az.drew (az.alloc HU.out _) |exact az.alloc (az.drew HU.out) _)).mono ?_
              rintro e w7 ⟨rfl,hq⟩;have ae:Bw w6 w7:=by first|exact hq|exact aO hq
              clear p0 p1 t0 t1 t2 t3;replace Hp:=kB Hp ae;replace HU:=kT HU ae;replace Ht:=kB Ht ae;obtain⟨p0,p1⟩:=Hp.out.c2;obtain⟨t0,t1,t2,t3⟩:=Ht.out.c4;replace Hb:=ak Hb ae;clear ae;refine hK _ _ (λ_=>⟨p0,p1,t0,t1,t2,t3⟩) ?_;clear hK K;try simp only[UU]
              iterate 3 (refine pT rfl rfl ?_;try simp only[UU])
              refine bI rfl rfl ?_;try simp only[UU]
              refine bI rfl rfl ?_;try simp only[UU]
              refine bI rfl rfl ?_;try simp only[UU]
              refine bI rfl rfl ?_;try simp only[UU]
              refine bI rfl rfl ?_;try simp only[UU]
              refine bI rfl rfl ?_;try simp only[UU]
              refine bI rfl rfl ?_;try simp only[UU]
              refine bI rfl rfl ?_;try simp only[UU]
              refine bI rfl rfl ?_;try simp only[UU]
              refine bI rfl rfl ?_;try simp only[UU]
              refine bI rfl rfl ?_;try simp only[UU]
              refine bI rfl rfl ?_;try simp only[UU]
              refine bI rfl rfl ?_;try simp only[UU]
              refine bI rfl rfl ?_;try simp only[UU]
              refine pT rfl rfl ?_;try simp only[UU]
              simp only[aV];go_wp2;refine bodyPost_ret (results_tmp rfl _ _ _) rfl ⟨rfl,aH aY.out Hb.out⟩
      . obtain rfl:k=N:=by omega
        have hr:R=0:=by rw[<-hR.out,if_pos kQ]
        subst hr;go_wp2;refine bodyPost_ret (results_tmp rfl _ _ _) rfl ⟨rfl,pb⟩
 . have hR:=HR.out;rw[if_pos h1]at hR;clear HR;subst hR;go_wp2;refine bodyPost_ret (v:=.int .i64 1) (by simp[results,Tryz.results150,go_sem]) rfl ⟨rfl,?_⟩;(repeat first|exact Hb.out| (refine Below.setCell ?_ (by have:=Hb.out.size;first| (dsimp only;omega) | (show _<=_;omega) | (simp<;>omega)) _) | (refine Below.alloc ?_ zt _) |refine Below.drew ?_)
end Go.Proofs.YtoopepmmepmfnaaGreatDoor
