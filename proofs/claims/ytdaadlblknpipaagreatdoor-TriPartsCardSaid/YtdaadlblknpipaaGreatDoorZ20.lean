/- The reference of chapter 15: the longest edge. -/
import Derived.Test.YtdaadlblknpipaaGreatDoorZ19
import Derived.Test.YtdaadlblknpipaaGreatDoorZ13
import Derived.Test.YtdaadlblknpipaaGreatDoorZ16
set_option linter.unusedVariables false
set_option linter.unusedSimpArgs false
set_option maxRecDepth 100000
set_option maxHeartbeats 16000000
namespace Go.Proofs.YtdaadlblknpipaaGreatDoor
open Go.RowKit
attribute [local go_sem ↓] Go.wp_at_zero Go.wp_at_succ
theorem aji (rows:List (List Raw))(n B x y:Nat)(a:Option Addr)(cap:Nat)(a':Option Addr)(cap':Nat)(D:Dyadic)(w:World)(hx:x<rows.length)(hy:y<rows.length)(hn:n<=8)(hrow:∀r∈rows,r.length=n)(hfit:∀r∈rows,∀c∈r,ja B c)(hB:B<=4000)
 (hD:eW rows n x y=D) (ha:At w a (rows[x].flatMap bB)) (ha':At w a' (rows[y].flatMap bB)):
 Calls Tryz.prog 50 #[.slice a n cap,.slice a' n cap'] w λe w'=>e=.returned (bC D)/\Bw w w':=by
 have h1:=hrow _ (List.getElem_mem hx);have h2:=hrow _ (List.getElem_mem hy);have e1:rows.getD x []=rows[x]:=by simp[hx]
 have e2:rows.getD y []=rows[y]:=by simp[hy]
 unfold eW at hD;rw[e1,e2]at hD;rw[<-hD];exact ajh a n cap rows[x] a' cap' rows[y] B w h1 h2 hn ha ha' (hfit _ (List.getElem_mem hx)) (hfit _ (List.getElem_mem hy)) hB
theorem ajK {rows:List (List Raw)}{n B:Nat}(hfit:∀r∈rows,∀c∈r,ja B c)(x y:Nat):Sm (2*B+2+n) (eW rows n x y):=by
 have h:∀z,∀c∈(rows.getD z []).map aB,Sm B c:=λz c hc=>by
  obtain⟨u,hu,rfl⟩:=List.mem_map.1 hc;by_cases hz:z<rows.length
  . have e:rows.getD z []=rows[z]:=by simp[hz]
    rw[e]at hu;exact(hfit _ (List.getElem_mem hz) u hu).2
  . have e:rows.getD z []=[]:=by simp[List.getD_eq_getElem?_getD,List.getElem?_eq_none (by omega:rows.length<=z)]
    rw[e]at hu;cases hu
 exact Gy (h x) (h y) n
theorem akb (rows:List (List Raw))(L n B x y:Nat)(a:Option Addr)(Y:Dyadic)(w:World)(hL:rows.length=L)(hx:x<L)(hy:y<L)(hn:n<=8)(hrow:∀r∈rows,r.length=n)(hfit:∀r∈rows,∀c∈r,ja B c)(hB:B<=4000)(ha:aX w a rows)(hY:eW rows n x y=Y):
 ∃b o a1 c1 a2 c2,a=some ⟨b,o,none⟩/\aZ w b (o+x) [.slice a1 n c1]/\aZ w b (o+y) [.slice a2 n c2]/\
  ∀W,Bw w W->Calls Tryz.prog 50 #[.slice a1 n c1,.slice a2 n c2] W λe w'=>e=.returned (bC Y)/\Bw W w':=by
 have hx1:x<rows.length:=by omega
 have hy1:y<rows.length:=by omega
 obtain⟨b0,o0,a1,c1,dI,hc0,gy⟩:=ha.row x hx1;obtain⟨dL,ey,a2,c2,cj,hc1,iD⟩:=ha.row y hy1;obtain⟨rfl,rfl⟩:dL=b0/\ey=o0:=by rw[dI]at cj;simp at cj;exact⟨cj.1.symm,cj.2.symm⟩
 rw[hrow _ (List.getElem_mem hx1)]at hc0;rw[hrow _ (List.getElem_mem hy1)]at hc1;refine⟨dL,ey,a1,c1,a2,c2,dI,λj hj=>?_,λj hj=>?_,λW hW=>aji rows n B x y a1 c1 a2 c2 Y W hx1 hy1 hn hrow hfit hB hY (gy.below hW) (iD.below hW)⟩
 . obtain rfl:j=0:=by simp at hj;omega
   exact hc0
 . obtain rfl:j=0:=by simp at hj;omega
   exact hc1
theorem aiV (a:Option Addr)(L cap n:Nat)(rows:List (List Raw))(B i j:Nat)(X:Dyadic)(w:World)(hL:rows.length=L)(hL2:2<=L)(rW:L<=9)(hn:n<=8)(hrow:∀r∈rows,r.length=n)(ha:aX w a rows)
 (hfit:∀r∈rows,∀c∈r,ja B c) (hB:B<=4000) (hF:gm (eW rows n) L=(i,j,X)):
 Calls Tryz.prog 19 #[.slice a L cap] w λe w'=>e=.returned (.tuple #[.int .i64 (i:Int),.int .i64 (j:Int),bC X])/\Bw w w':=by
 have Mm:=λx y Y W (hx:x<L) (hy:y<L) (hY:eW rows n x y=Y) (hW:Bw w W)=>akb rows L n B x y a Y W hL hx hy hn hrow hfit hB (ha.below hW) hY;have LS:∀b o,a=some ⟨b,o,none⟩->b<w.heap.size:=λb o e=>by obtain⟨b',o',_,_,h1,h2,_⟩:=ha.row 0 zo;rw[e]at h1;simp only[Option.some.injEq,Addr.mk.injEq,and_true]at h1;rw[h1.1];exact World.block_lt_of_cell? w _ h2
 have Zz:=ah LS;clear LS;have hsm:∀x y,Sm (2*B+10) (eW rows n x y):=λx y=>(ajK hfit x y).mono zo;obtain⟨sq,kE⟩:=aC (eW rows n);simp only[kE]at Mm hsm;rw[kE]at hF;have yn:mz sq L (L-0) 0 (0,1,sq 0 1)=(i,j,X):=hF;obtain⟨JG,AL,HF⟩:=cH Mm hsm yn;clear hL ha hsm Mm hF yn hfit hrow kE;obtain⟨W,cO,Hb,Hr⟩:=iF w 30 [.bool false,.string ⟨#[]⟩,.int .i64 0];obtain⟨r0,aj,r1,ar,r2,aG⟩:=Hr.out.g3;go_enter Tryz.func19,Tryz.ntmps19;have lr:=Hr.out.lt;go_wp2_with fail;clear r0 r1 r2 aj ar aG;go_loopw[5,6,7] (λs5 s6 x wr=>∃(k:Nat) (s:Nat×Nat×Dyadic),k<=L/\s5=.int .i64 (s.1:Int)/\s6=.int .i64 (s.2.1:Int)/\x=.int .i64 (k:Int)/\mz sq L (L-k) k s=(i,j,X)/\(s.1<L/\s.2.1<L/\s.2.2=sq s.1 s.2.1)/\ai wr w.heap.size 30 [.bool false,.string ⟨#[]⟩,.int .i64 0]/\Bw w wr) (λ_ _ x _=>L-(intOf x).toNat);case atStart=>exact⟨0,(0,1,sq 0 1),Nat.zero_le _,rfl,rfl,rfl,HF.out,⟨by show 0<L;omega,by show 1<L;omega,rfl⟩,Hr.out,Hb.out⟩
 case round=>
  clear Hr Hb HF;obtain⟨k,s,hk,rfl,rfl,rfl,hF,hs,pr,pb⟩:=hrel;by_cases hlt:k<L
  . obtain⟨Hr,Hb,Hs⟩:=cH pr pb hs;have zP:Hid (mz sq L (L-(k+1)) (k+1) (qN sq k (L-(k+1)) (k+1) s)=(i,j,X)):=by rw[show L-k=L-(k+1)+1 by omega]at hF;exact hF
    clear pr pb hs hF;obtain⟨wo,hwo⟩:∃wo,wo=wr:=⟨_,rfl⟩;subst hwo;go_wp2_with fail;go_loopw[5,6,8] (λs5 s6 x wr=>∃(b:Nat) (s:Nat×Nat×Dyadic),b<=L/\k<b/\s5=.int .i64 (s.1:Int)/\s6=.int .i64 (s.2.1:Int)/\x=.int .i64 (b:Int)/\mz sq L (L-(k+1)) (k+1) (qN sq k (L-b) b s)=(i,j,X)/\(s.1<L/\s.2.1<L/\s.2.2=sq s.1 s.2.1)/\ai wr w.heap.size 30 [.bool false,.string ⟨#[]⟩,.int .i64 0]/\Bw w wr) (λ_ _ x _=>L-(intOf x).toNat);case atStart=>exact⟨k+1,s,by omega,by omega,rfl,rfl,by go_num,zP.out,Hs.out,Hr.out,Hb.out⟩
    case round=>
     clear Hr Hb zP Hs;obtain⟨b,s,hb1,hb2,rfl,rfl,rfl,hF,hs,pr,pb⟩:=hrel;obtain⟨Hr,Hb,zO⟩:=cH pr pb hF;obtain⟨si,sj,sx⟩:=s;obtain⟨yH,hsj,mW⟩:=hs;dsimp only at yH hsj mW;clear pr pb hF;by_cases bo:b<L
     . obtain⟨Y,hY⟩:=aC (sq k b);obtain⟨b0,o0,a1,c1,a2,c2,dI,hu,hv,hq1⟩:=JG.out k b Y wr hlt bo hY Hb.out;obtain⟨dL,ey,a3,c3,a4,c4,cj,hp,hq,hq2⟩:=JG.out si sj sx wr yH hsj mW.symm Hb.out;obtain⟨rfl,rfl⟩:dL=b0/\ey=o0:=by rw[dI]at cj;simp at cj;exact⟨cj.1.symm,cj.2.symm⟩
       clear cj;have i0:=gz L cap k (k:Int) dI hlt rfl;have i1:=gz L cap b (b:Int) dI bo rfl;have i2:=gz L cap si (si:Int) dI yH rfl;have i3:=gz L cap sj (sj:Int) dI hsj rfl;rw[Nat.mul_one]at i0 i1 i2 i3;have vT:=AL.out k b;have lu:=AL.out si sj;rw[hY]at vT;rw[<-mW]at lu;obtain⟨c,hc⟩:=aC (bW (Y-sx));have hcm:=λW=>aiL (au (dN Y)) (nt (dN Y).natAbs) (dE Y) (au (dN sx)) (nt (dN sx).natAbs) (dE sx) c (by show bW (aB (canon Y)-aB (canon sx))=c;rw[bP,bP];exact hc) W (vT.an7 zo) (lu.an7 zo) (Sm.an7 (B:=2*B+10) (by show Sm _ (-aB (canon sx));rw[bP];exact Sm.neg lu) zo);have zQ:Hid (mz sq L (L-(k+1)) (k+1) (qN sq k (L-(b+1)) (b+1) (uw sq k b (si,sj,sx)))=(i,j,X)):=by have h:=zO.out;rw[show L-b=L-(b+1)+1 by omega]at h;exact h
       have hstep:uw sq k b (si,sj,sx)=if 0<c then(k,b,Y)else(si,sj,sx):=by
        unfold uw;rw[hY];show(if 0<bW (Y-sx)then _ else _)=_
        rw[hc]
       have Hu:Hid (aZ wr dL (ey+k) [.slice a1 n c1]):=hu;have Hv:Hid (aZ wr dL (ey+b) [.slice a2 n c2]):=hv;have Hp:Hid (aZ wr dL (ey+si) [.slice a3 n c3]):=hp;have Hq:Hid (aZ wr dL (ey+sj) [.slice a4 n c4]):=hq;obtain⟨AE,Hq2,ID,fA,HY,JC⟩:=gJ hq1 hq2 hcm hstep hY mW;have iw:=Hb;clear hu hv hp hq hq1 hq2 hcm hstep hY mW vT lu hc dI Hb;have Hb:Hid (Bw wr wr):=Below.refl _ _;obtain⟨r0,r1,r2⟩:=Hr.out.c3;have u0:=Hu.out.w1;have v0:=Hv.out.w1;have p0:=Hp.out.w1;have q0:=Hq.out.w1;go_wp2_with fail;refine bD (λw'=>w'.cell? ⟨dL,ey+k,none⟩=some (.slice a1 n c1)/\w'.cell? ⟨dL,ey+b,none⟩=some (.slice a2 n c2)/\w'.cell? ⟨dL,ey+si,none⟩=some (.slice a3 n c3)/\w'.cell? ⟨dL,ey+sj,none⟩=some (.slice a4 n c4)) (λi=>Nat.blt i 100000) [(0,true),(1,true),(2,true),(3,true),(4,true),(5,true),(6,true),(7,true),(9,true),(10,true),(11,true),(12,true),(13,true),(14,true),(15,true),(16,true),(8,false),(17,false),(18,false),(19,true)] zk zk rfl zk zc ⟨u0,v0,p0,q0⟩ ?_;iterate 16 (refine pT rfl rfl ?_ (by intro w' ⟨q0,q1,q2,q3⟩;go_simp;try with_reducible rfl);try simp only[UU])
       refine aJ rfl rfl (λK hK=>?_);go_simp;with_reducible refine(AE.out _ (Below.refl _ _).drew).mono ?_
       rintro e w5 ⟨rfl,hq⟩;have ae:Bw wr w5:=by first|exact hq|exact aO hq
       clear r0 r1 r2 u0 v0 p0 q0;replace Hr:=kB Hr ae;replace Hu:=kW Hu ae;replace Hv:=kW Hv ae;replace Hp:=kW Hp ae;replace Hq:=kW Hq ae;obtain⟨r0,r1,r2⟩:=Hr.out.c3;have u0:=Hu.out.w1;have v0:=Hv.out.w1;have p0:=Hp.out.w1;have q0:=Hq.out.w1;replace Hb:=az Hb ae;clear ae;refine hK _ _ (λ_=>⟨u0,v0,p0,q0⟩) ?_;clear hK K;try simp only[UU]
       refine aJ rfl rfl (λK hK=>?_);go_simp;with_reducible refine(Hq2.out _ Hb.out).mono ?_
       rintro e w6 ⟨rfl,hq⟩;have ae:Bw w5 w6:=by first|exact hq|exact aO hq
       clear r0 r1 r2 u0 v0 p0 q0;replace Hr:=kB Hr ae;replace Hu:=kW Hu ae;replace Hv:=kW Hv ae;replace Hp:=kW Hp ae;replace Hq:=kW Hq ae;obtain⟨r0,r1,r2⟩:=Hr.out.c3;have u0:=Hu.out.w1;have v0:=Hv.out.w1;have p0:=Hp.out.w1;have q0:=Hq.out.w1;replace Hb:=az Hb ae;clear ae;refine hK _ _ (λ_=>⟨u0,v0,p0,q0⟩) ?_;clear hK K;try simp only[UU]
       refine aJ rfl rfl (λK hK=>?_);go_simp;with_reducible refine(ID.out _).mono ?_
       rintro e w7 ⟨rfl,hq⟩;have ae:Bw w6 w7:=by first|exact hq|exact aO hq
       clear r0 r1 r2 u0 v0 p0 q0;replace Hr:=kB Hr ae;replace Hu:=kW Hu ae;replace Hv:=kW Hv ae;replace Hp:=kW Hp ae;replace Hq:=kW Hq ae;obtain⟨r0,r1,r2⟩:=Hr.out.c3;have u0:=Hu.out.w1;have v0:=Hv.out.w1;have p0:=Hp.out.w1;have q0:=Hq.out.w1;replace Hb:=az Hb ae;clear ae;refine hK _ _ (λ_=>⟨u0,v0,p0,q0⟩) ?_;clear hK K;try simp only[UU]
       refine pT rfl rfl ?_;try simp only[UU]
       simp only[aU];have fe:=ah (aK iw.out Hb.out);by_cases hc0:0<c
       . go_wp2;go_roundw;case rel=>refine⟨b+1,(k,b,Y),by omega,by omega,rfl,rfl,by go_num,?_,⟨hlt,bo,HY.out.symm⟩,Hr.out,fe.out⟩;have h:=zQ.out;rw[fA.out,if_pos hc0]at h;exact h
         case measure=>simp[intOf];omega
       . go_wp2;go_roundw;case rel=>refine⟨b+1,(si,sj,sx),by omega,by omega,rfl,rfl,by go_num,?_,⟨yH,hsj,JC.out⟩,Hr.out,fe.out⟩;have h:=zQ.out;rw[fA.out,if_neg zo]at h;exact h
         case measure=>simp[intOf];omega
     . obtain rfl:b=L:=by omega
       go_wp2;go_roundw;case rel=>refine⟨k+1,(si,sj,sx),by omega,rfl,rfl,by go_num,?_,⟨yH,hsj,mW⟩,Hr.out,Hb.out⟩;have h:=zO.out;rw[Nat.sub_self]at h;exact h
       case measure=>simp[intOf];omega
  . obtain rfl:k=L:=by omega
    rw[Nat.sub_self]at hF;have hFs:s=(i,j,X):=hF;subst hFs;obtain⟨hi,hj,hx⟩:=hs;dsimp only at hi hj hx;obtain⟨b0,o0,a1,c1,a2,c2,dI,hu,hv,hq1⟩:=JG.out i j X wr hi hj hx.symm pb;have i0:=gz k cap i (i:Int) dI hi rfl;have i1:=gz k cap j (j:Int) dI hj rfl;rw[Nat.mul_one]at i0 i1;obtain⟨Hr,Hb,AE⟩:=cH pr pb hq1;have hl0:=Zz.out b0 o0 dI;have Hu:Hid (aZ wr b0 (o0+i) [.slice a1 n c1]):=hu;have Hv:Hid (aZ wr b0 (o0+j) [.slice a2 n c2]):=hv;have hbs:=pb.size;clear pr pb hF hx dI hu hv hq1;have u0:=Hu.out.w1;have v0:=Hv.out.w1;obtain⟨r0,aj,r1,ar,r2,aG⟩:=Hr.out.g3;go_wp2_with fail;refine bD (λw'=>w'.cell? ⟨b0,o0+i,none⟩=some (.slice a1 n c1)/\w'.cell? ⟨b0,o0+j,none⟩=some (.slice a2 n c2)) (λi=>Nat.blt i 13) [(0,true),(1,true),(2,true),(3,true),(4,true),(5,true),(6,true),(7,true),(8,true),(9,true),(10,false),(11,true),(12,true),(13,false)] zk zk rfl zk zc ⟨u0,v0⟩ ?_;iterate 10 (refine pT rfl rfl ?_ (by intro w' ⟨q0,q1⟩;go_simp;try with_reducible rfl);try simp only[UU])
    refine aJ rfl rfl (λK hK=>?_);go_simp;with_reducible refine(AE.out _ (Below.refl _ _).drew).mono ?_
    rintro e w5 ⟨rfl,hq⟩;have ae:Bw wr w5:=by first|exact hq|exact aO hq
    clear u0 v0 r0 aj r1 ar r2 aG;replace Hu:=kW Hu ae;replace Hv:=kW Hv ae;replace Hr:=kB Hr ae;have u0:=Hu.out.w1;have v0:=Hv.out.w1;obtain⟨r0,aj,r1,ar,r2,aG⟩:=Hr.out.g3;replace Hb:=az Hb ae;clear ae;refine hK _ _ (λ_=>⟨u0,v0⟩) ?_;clear hK K;try simp only[UU]
    iterate 2 (refine pT rfl rfl ?_;try simp only[UU])
    refine aJ rfl rfl (λK hK=>?_);go_simp;refine hK _ _ (λh=>absurd h zd) ?_;clear hK K;try simp only[UU]
    clear u0 v0 r0 aj r1 ar r2 aG;refine bE (λw6=>aZ w6 (b0) (o0+i) [.slice a1 n c1]/\aZ w6 (b0) (o0+j) [.slice a2 n c2]/\ai w6 (w.heap.size) 30 [.bool (au (dN X)),.string (bs (nt (dN X).natAbs)),.int .i64 (dE X)]/\Bw w w6) ⟨(((Hu.out.an5 ⟨w.heap.size,0,none⟩ zf _).an5 ⟨w.heap.size,1,none⟩ zf _).an5 ⟨w.heap.size,2,none⟩ zf _),(((Hv.out.an5 ⟨w.heap.size,0,none⟩ zf _).an5 ⟨w.heap.size,1,none⟩ zf _).an5 ⟨w.heap.size,2,none⟩ zf _),(((Hr.out.set 0 _).set 1 _).set 2 _),by first|exact(((Hb.out.sc (w.heap.size) 0 ZS _).sc (w.heap.size) 1 ZS _).sc (w.heap.size) 2 ZS _) |exact Below.drew (((Hb.out.sc (w.heap.size) 0 ZS _).sc (w.heap.size) 1 ZS _).sc (w.heap.size) 2 ZS _)⟩ ?_;rintro w6 ⟨qu,qv,qr,ae⟩;replace Hu:=ah qu;clear qu;replace Hv:=ah qv;clear qv;replace Hr:=ah qr;clear qr;have u0:=Hu.out.w1;have v0:=Hv.out.w1;obtain⟨r0,aj,r1,ar,r2,aG⟩:=Hr.out.g3;replace Hb:=ah ae;clear ae;simp only[aU];go_wp2;refine bodyPost_ret (v:=.tuple #[.int .i64 (i:Int),.int .i64 (j:Int),bC X]) (by simp[results,Tryz.results19,go_sem,r0,r1,r2]) rfl ⟨rfl,?_⟩;(repeat first|exact Hb.out| (refine Below.setCell ?_ (by have:=Hb.out.size;first| (dsimp only;omega) | (show _<=_;omega) | (simp<;>omega)) _) | (refine Below.alloc ?_ zt _) |refine Below.drew ?_)
theorem XD {rows:List (List Raw)}(h:rows.length<2\/9<rows.length):fM rows=0:=by
 unfold fM;dsimp only;rw[if_pos];rcases h with h|h
 . left;omega
 . right;left;omega
theorem akn {rows:List (List Raw)}{N j:Nat}(hN:rows.length=N+1)(hj:j<rows.length)(h:rows[j].length≠N):fM rows=0:=by unfold fM;dsimp only;rw[if_pos];right;right;rw[List.any_eq_true];refine⟨rows[j],List.getElem_mem hj,?_⟩;rw[decide_eq_true_eq];omega
theorem WU (a:Option Addr)(L cap:Nat)(rows:List (List Raw))(V:Int)(w:World)(hL:rows.length=L)(hl:L<=1099511627776)(ha:aX w a rows)(hV:fM rows=V):
 Calls Tryz.prog 18 #[.slice a L cap] w λe w'=>e=.returned (.int .i64 V)/\Bw w w':=by
 by_cases h1:L<2
 . obtain rfl:V=0:=by rw[<-hV];exact XD zo
   have t1:(L:Int)-1<1:=by omega
   clear hV ha hL;have Hb:Hid (Bw w w):=Below.refl _ _;go_enter Tryz.func18,Tryz.ntmps18;go_wp2;refine bodyPost_ret (results_tmp rfl _ _ _) rfl ⟨rfl,Hb.out⟩
 by_cases h2:9<L
 . obtain rfl:V=0:=by rw[<-hV];exact XD zo
   have t1:¬(L:Int)-1<1:=by omega
   have t2:8<(L:Int)-1:=by omega
   clear hV ha hL;have Hb:Hid (Bw w w):=Below.refl _ _;go_enter Tryz.func18,Tryz.ntmps18;go_wp2;refine bodyPost_ret (results_tmp rfl _ _ _) rfl ⟨rfl,Hb.out⟩
 obtain⟨N,hN⟩:∃N:Nat,L=N+1:=⟨L-1,by omega⟩;have hLN:(L:Int)-1=(N:Int):=by omega
 have t1:¬(N:Int)<1:=by omega
 have t2:¬8<(N:Int):=by omega
 have hbad:=λj (hj:j<rows.length) h=>akn (j:=j) (hL.trans hN) hj h;have LD:=λh=>zI (hL.trans hN) h zo zo;rw[hV]at hbad LD;obtain⟨xI,Aq,HL,Ha,HN⟩:=fp hbad LD hL ha hN;clear hbad LD hL ha hV hN;have Hb:Hid (Bw w w):=Below.refl _ _;go_enter Tryz.func18,Tryz.ntmps18;go_wp2_with fail;go_loopw[4] (λx wr=>∃k:Nat,k<=L/\x=.int .i64 (k:Int)/\(∀j (h:j<rows.length),j<k->rows[j].length=N)/\Bw w wr) (λx _=>L-(intOf x).toNat);case atStart=>exact⟨0,Nat.zero_le _,rfl,λj _ h=>absurd h (Nat.not_lt_zero _),Hb.out⟩
 case round=>
  clear Hb;obtain⟨k,hk,rfl,hs,pb⟩:=hrel;obtain⟨Hs,Hb⟩:=aM hs pb;clear hs pb;by_cases hlt:k<L
  . have bo:(k:Int)<=(N:Int):=by have:=HN.out;omega
    have hk1:k<rows.length:=by rw[HL.out];exact hlt
    obtain⟨b0,o0,a1,c1,hab,hc,_⟩:=(Ha.out.below Hb.out).row k hk1;have i0:=gz L cap k (k:Int) hab hlt rfl;rw[Nat.mul_one]at i0;obtain⟨n1,dA⟩:=aC (rows[k].length);rw[dA]at hc;have xR:=ah dA;clear dA hab;by_cases he:n1=N
    . subst he;go_wp2;go_roundw;case rel=>
       refine⟨k+1,by omega,by go_num,λj h hj=>?_,Hb.out⟩;by_cases hjk:j=k
       . subst hjk;exact xR.out
       . exact Hs.out j h zo
      case measure=>simp[intOf];omega
    . have Lz:((n1:Int) !=(N:Int))=true:=by simp;omega
      have he3:¬(n1:Int)=(N:Int):=by omega
      obtain rfl:V=0:=xI.out k hk1 (by rw[xR.out];exact he);go_wp2;refine bodyPost_ret (results_tmp rfl _ _ _) rfl ⟨rfl,Hb.out⟩
  . obtain rfl:k=L:=by omega
    have bo:¬(k:Int)<=(N:Int):=by have:=HN.out;omega
    obtain rfl:V=N:=Aq.out (λr hr=>by
     obtain⟨j,hj,rfl⟩:=List.mem_iff_getElem.1 hr
     exact Hs.out j hj (by rw[<-HL.out];exact hj))
    go_wp2;refine bodyPost_ret (results_tmp rfl _ _ _) rfl ⟨rfl,Hb.out⟩
theorem WV (a:Option Addr)(L cap:Nat)(rows:List (List Raw))(k0:Nat)(pa:Option Addr)(pn kd:Nat)(Pp:List Raw)(w:World)(hL:rows.length=L)(rW:L<=9)(hP:Pp.length=pn)(BF:pn<=8)(hrow:∀r∈rows,r.length<=8)(ha:aX w a rows)(hp:At w pa (Pp.flatMap bB))
 (hok:∀r∈rows,∀x∈r,dw x) (sG:k0<L->∀x∈Pp,dw x) (at9:Int) (pD:∀k:Nat,k<L->((k:Int)=at9↔k=k0)):
 Calls Tryz.prog 33 #[.slice a L cap,.int .i64 at9,.slice pa pn kd] w λe w'=>∃a' cap',e=.returned (.slice a' L cap')/\L<=cap'/\aX w' a' ((rows.set k0 Pp).map df)/\Bw w w':=by
 obtain⟨i0,hi,hz0,hz1,hz2⟩:=info_parts Tryz.an8;obtain⟨j0,hj,hy0,hy1,hy2⟩:=info_parts Tryz.aoe;obtain⟨R,hR⟩:=aC (rows.set k0 Pp);obtain⟨S,hS⟩:=aC (R.map λr=>r.map aB);have BJ:R.length=L:=by rw[<-hR];simp[hL]
 have BI:∀r∈R,r.length<=8:=by
  intro r hr;rw[<-hR]at hr;rcases List.mem_or_eq_of_mem_set hr with h|h
  . exact hrow r h
  . rw[h];omega
 have BK:∀r∈R,∀x∈r,dw x:=by
  intro r hr;by_cases Ch:k0<L
  . rw[<-hR]at hr;rcases List.mem_or_eq_of_mem_set hr with h|h
    . exact hok r h
    . rw[h];exact sG Ch
  . rw[<-hR,List.set_eq_of_length_le zo]at hr;exact hok r hr
 have pK:∀(W:World) (k:Nat) (hk:k<L),Bw w W->∃b o a1 c1 n1 aq cq,∃(hk2:k<R.length),a=some ⟨b,o,none⟩/\W.cell? ⟨b,o+k,none⟩=some (.slice a1 n1 c1)/\At W aq (R[k].flatMap bB)/\((k=k0/\aq=pa/\R[k].length=pn/\cq=kd)\/(k≠k0/\aq=a1/\R[k].length=n1/\cq=c1)):=by
  intro W k hk hb;obtain⟨b,o,a1,c1,h1,h2,h3⟩:=(ha.below hb).row k zo;by_cases hkk:k=k0
  . refine⟨b,o,a1,c1,_,pa,kd,by omega,h1,h2,?_,.inl ⟨hkk,rfl,?_,rfl⟩⟩
    . have:R[k]'zo=Pp:=by simp only[<-hR,hkk,List.getElem_set_self]
      rw[this];exact hp.below hb
    . have:R[k]'zo=Pp:=by simp only[<-hR,hkk,List.getElem_set_self]
      rw[this];exact hP
  . have:R[k]'zo=rows[k]'zo:=by simp only[<-hR];exact List.getElem_set_ne (λh=>hkk h.symm) _
    refine⟨b,o,a1,c1,_,a1,c1,by omega,h1,h2,?_,.inr ⟨hkk,rfl,by rw[this],rfl⟩⟩;rw[this];exact h3
 rw[hR];obtain⟨Hi,cM,cN,cJ,Hj,jv,kX,kY,HS,Ie,Ic,Ig⟩:=gW hi hz0 hz1 hz2 hj hy0 hy1 hy2 hS BJ BI BK;obtain⟨AK,zZ⟩:=aM pK pD;clear hi hz0 hz1 hz2 hj hy0 hy1 hy2 hR hS BJ BI BK pK ha hp hL hP hrow hok sG pD;go_enter Tryz.func33,Tryz.ntmps33;have Hb:Hid (Bw w w):=Below.refl _ _;go_wp2_with fail;go_loopw[7,8] (λs7 x wr=>∃(k:Nat) (v:Value),k<=L/\x=.int .i64 (k:Int)/\v=s7/\Own2 46 wr w.heap.size S k v/\Bw w wr) (λ_ x _=>L-(intOf x).toNat);case atStart=>exact⟨0,_,Nat.zero_le _,rfl,rfl,Own2.nil _ _ _ _,Hb.out⟩
 case round=>
  clear Hb;obtain⟨k,v,hk,rfl,rfl,pv,pb⟩:=hrel;by_cases hlt:k<L
  . obtain⟨b1,o1,a1,c1,n1,aq,cq,hk2,hab,hc1,hat,mU⟩:=AK.out wr k hlt pb;have iV:=gz L cap k (k:Int) hab hlt rfl;rw[Nat.mul_one]at iV;obtain⟨Q,hQ⟩:=aC (R[k]);rw[hQ]at hat mU;have vQ:=Ic.out _ (List.getElem_mem hk2);have vR:=Ig.out _ (List.getElem_mem hk2);rw[hQ]at vQ vR;obtain⟨Z,hZ⟩:=aC (Q.map aB);have lW:S.getD k []=Z:=by rw[<-HS.out,<-hZ,<-hQ];simp[hk2]
    have KY:Q.length<=8:=vQ;obtain⟨n,hn⟩:=aC Q.length;rw[hn]at KY mU;obtain⟨fF,Ib,HZ,oI,Jk,Hn,aR,cW⟩:=ng hat vR hZ lW mU hn pb pv;clear hat vR hZ lW mU hn pb pv hQ hab vQ;have iu:=aR.out.size;go_upto_if 24 with fail
    go_cut[9] (λs9 wx=>s9=.slice aq n cq/\wx=wr);case first=>
     rcases Jk.out with⟨rfl,rfl,rfl,rfl⟩ |⟨h1,rfl,rfl,rfl⟩
     . obtain rfl:=(zZ.out k hlt).2 rfl;go_wp2_with fail;go_meet;exact⟨rfl,rfl⟩
     . have h3:¬(k:Int)=at9:=λh=>h1 ((zZ.out k hlt).1 h);have h2:((k:Int)==at9)=false:=by simpa using h3
       go_wp2_with fail;go_meet;exact⟨rfl,rfl⟩
    case rest=>
     obtain⟨rfl,rfl⟩:=hcut;clear iV hc1;go_wp2_with fail;go_loopw[10,11] (λxu x wr=>∃(j:Nat) (v2:Value),j<=n/\x=.int .i64 (j:Int)/\v2=xu/\wr.ownsRow wc.heap.size 30 3 v2 j (dC (Z.take j))/\Bw wc wr) (λ_ x _=>n-(intOf x).toNat);case atStart=>exact⟨0,_,Nat.zero_le _,rfl,rfl,World.ownsRow_nil _ _ _ _,Below.refl _ _⟩
     case round=>
      obtain⟨j,v2,hj,rfl,rfl,ho,hb2⟩:=hrel;by_cases bo:j<n
      . have h1:j<Q.length:=by rw[Hn.out];exact bo
        obtain⟨s,m,e,hx⟩:=jf (Q[j]);have hok:=Ib.out _ (List.getElem_mem h1);rw[hx]at hok;obtain⟨X,hX⟩:=aC (aB (s,m,e));have bS:Hid (dC (Z.take (j+1))=dC (Z.take j)++[.bool (au (dN X)),.string (bs (nt (dN X).natAbs)),.int .i64 (dE X)]):=by
         show _=_
         rw[<-HZ.out,List.take_succ_eq_append_getElem (by simpa using h1),tN];congr 1;simp only[List.getElem_map,hx,hX];rfl
        obtain⟨b2,o2,eQ,p0,p1,p2⟩:=(fF.out.below hb2).num j h1 hx;have mg:=jW n cq j (j:Int) eQ bo rfl;obtain⟨HX,zT,Ho,bV⟩:=dO hX hok ho hb2;have uO:=hb2.size;have Hp:Hid (aZ wr b2 (o2+j*3) [.bool s,.string (bs m),.int .i64 e]):=gM p0 p1 p2;clear hX hok ho hb2 hx eQ p0 p1 p2;have Hb:Hid (Bw wr wr):=Below.refl _ _;obtain⟨p0,p1,p2⟩:=Hp.out.w3;go_wp2_with fail;refine(xq s m e X HX.out _ zT.out).mono ?_;rintro e w5 ⟨rfl,ae⟩;clear p0 p1 p2;replace Hp:=kW Hp ae;obtain⟨p0,p1,p2⟩:=Hp.out.w3;replace Hb:=az Hb ae;clear ae;obtain⟨W6,pu,ae,Hd⟩:=cQ w5 30 [.bool (au (dN X)),.string (bs (nt (dN X).natAbs)),.int .i64 (dE X)];clear p0 p1 p2;replace Hp:=kW Hp ae;obtain⟨p0,p1,p2⟩:=Hp.out.w3;obtain⟨d0,d1,d2⟩:=Hd.out.c3;replace Hb:=az Hb ae;clear ae;have cG:=ownsRow_below Ho.out Hb.out;have ib:=Hb.out.size;have hnews:=fZ Hd.out;clear d0 d1 d2;go_wp2_with (at_builtin;refine wpList_append_own_at _ rfl _ _ 46 rfl wc.heap.size 30 i0 _ 3 32 Tryz.underlying46 Hi.out cM.out cN.out cJ.out rfl zd v2 j (dC (Z.take j)) rfl cG ⟨w5.heap.size,0,none⟩ 1 1 [.bool (au (dN X)),.string (bs (nt (dN X).natAbs)),.int .i64 (dE X)] rfl rfl hnews zy zx zo zo ?_;intro v' w7 dD eU _ _;obtain⟨g',lS,rfl⟩:=ownsRow_succ dD);go_roundw;case rel=>
         refine⟨j+1,_,by omega,by go_num,rfl,?_,?_⟩
         . rw[bS.out];exact dD
         . exact(aK bV.out Hb.out).grown eU zo (λj e=>cL cG j e)
        case measure=>simp[intOf];omega
      . obtain rfl:j=n:=by omega
        have iT:Z.take j=Z:=List.take_of_length_le (by rw[<-HZ.out];simp[Hn.out]);rw[iT]at ho;obtain⟨a2,cap2,rfl,ma,eQ⟩:=dK ho;have fI:=ho.lt;obtain⟨vals,hvl,hov,iE⟩:=cW.out.below hb2;have Hb:Hid (Bw wr wr):=Below.refl _ _;obtain⟨_,_,mn,_⟩:=cW.out;have hvs:=mn.lt;have hin:∀b o,a2=some ⟨b,o,none⟩->some b≠v.ownBlock/\b<wr.heap.size:=by intro b o e;subst e;have h1:=fI b rfl;refine⟨λh2=>?_,h1.2⟩;have h3:=hvs b h2.symm;omega
        obtain⟨lO,uZ,kV,oO,cp,bV⟩:=gJ hin ma hvl iE hov hb2;have uO:=hb2.size;clear hin ma hvl iE hov mn hvs hb2 eQ fI iT ho bo hj;obtain⟨W6,pu,ae,Hd⟩:=cQ wr 46 [.slice a2 j cap2];have d0:=Hd.out.c1;replace Hb:=az Hb ae;clear ae;have cG:=ownsRow_below cp.out Hb.out;have ib:=Hb.out.size;have hnews:∀i u,([.slice a2 j cap2]:List Value)[i]?=some u->W6.cell? ((⟨wr.heap.size,0,none⟩:Addr).add i)=some u:=fZ Hd.out;clear d0;go_wp2_with (at_builtin;refine wpList_append_own_at _ rfl _ _ 23 rfl w.heap.size 46 j0 _ 1 24 Tryz.underlying23 Hj.out jv.out kX.out kY.out rfl zd v k vals rfl cG ⟨wr.heap.size,0,none⟩ 1 1 [.slice a2 j cap2] rfl rfl hnews zy zx zo zo ?_;intro v' w7 dD eU _ fJ;obtain⟨g',lS,rfl⟩:=ownsRow_succ dD);go_roundw;case rel=>
         refine⟨k+1,_,by omega,by go_num,rfl,?_,?_⟩
         . refine Own2.push (a:=a2) (c:=cap2) kV.out (w:=W6) ?_ ?_ ?_ ?_ eU fJ
           . intro i h;obtain⟨a,c,h1,h2,h3⟩:=oO.out i h;exact⟨a,c,h1,h2.below Hb.out,λb o e=>⟨(h3 b o e).1,Nat.lt_of_lt_of_le (h3 b o e).2 ib⟩⟩
           . rw[oI.out];exact uZ.out.below Hb.out
           . exact λb o e=>⟨(lO.out b o e).1,Nat.lt_of_lt_of_le (lO.out b o e).2 ib⟩
           . rw[oI.out,<-HZ.out,List.length_map,Hn.out];exact dD
         . exact(aK (aK aR.out bV.out) Hb.out).grown eU zo (λj e=>cL cG j e)
        case measure=>simp[intOf];omega
  . obtain rfl:k=L:=by omega
    have hlen:R.length=k:=Ie.out;rw[<-HS.out]at pv;obtain⟨a2,c2,rfl,hcl,iW⟩:=Own2.tbl pv hlen;obtain⟨nM,aR⟩:=aM iW pb;clear pv pb iW hlen;go_wp2;refine bodyPost_ret (results_tmp rfl _ _ _) rfl ⟨a2,c2,rfl,hcl,nM.out,aR.out⟩
theorem ajq (a:Option Addr)(L cap:Nat)(rows:List (List Raw))(k0:Nat)(pa:Option Addr)(pn kd:Nat)(Pp:List Raw)(w:World)(hL:rows.length=L)(rW:L<=9)(hP:Pp.length=pn)(BF:pn<=8)(hrow:∀r∈rows,r.length<=8)(ha:aX w a rows)(hp:At w pa (Pp.flatMap bB))
 (hok:∀r∈rows,∀x∈r,dw x) (sG:∀x∈Pp,dw x):
 Calls Tryz.prog 33 #[.slice a L cap,.int .i64 (k0:Int),.slice pa pn kd] w λe w'=>∃a' cap',e=.returned (.slice a' L cap')/\L<=cap'/\aX w' a' ((rows.set k0 Pp).map df)/\Bw w w':=
 WV a L cap rows k0 pa pn kd Pp w hL rW hP BF hrow ha hp hok (λ_=>sG) _ (λk _=>by omega)
theorem ajr (a:Option Addr)(L cap:Nat)(rows:List (List Raw))(w:World)(hL:rows.length=L)(rW:L<=9)(hrow:∀r∈rows,r.length<=8)(ha:aX w a rows)(hok:∀r∈rows,∀x∈r,dw x):
 Calls Tryz.prog 33 #[.slice a L cap,.int .i64 (-1),.slice none 0 0] w λe w'=>∃a' cap',e=.returned (.slice a' L cap')/\L<=cap'/\aX w' a' (rows.map df)/\Bw w w':=by
 have h:=WV a L cap rows L none 0 0 [] w hL rW rfl zo hrow ha (.inl rfl) hok (λh=>absurd h zo) (-1) (λk hk=>by omega);rwa [List.set_eq_of_length_le zo]at h
theorem aiS (a:Option Addr)(L cap n:Nat)(rows:List (List Raw))(B:Nat)(i j:Nat)(Y:Dyadic)(sU:Bool)(w:World)(hL:rows.length=L)(hL2:L=n+1)(hrl:∀r∈rows,r.length=n)(hn:1<=n)(ml:n<=8)(ha:aX w a rows)
 (hfit:∀r∈rows,∀c∈r,ja B c) (hB:B<=4000) (hF:gm (eW rows n) L=(i,j,Y)):
 Calls Tryz.prog 21 #[.slice a L cap,.bool sU] w λe w'=>∃a1 c1,e=.returned (.slice a1 L c1)/\L<=c1/\
  aX w' a1 ((rows.set (if sU then i else j) (ij (rows.getD i []) (rows.getD j []))).map df)/\Bw w w':=by
 obtain⟨i0,hi,hz0,hz1,hz2⟩:=info_parts Tryz.an8;have c4:∀r∈rows,(r.length:Int)=n:=λr hr=>by rw[hrl r hr]
 have qD:=λW=>λ(h:aX W a rows)=>aiV a L cap n rows B i j Y W hL zo zo ml hrl h hfit hB hF;have hinv:=MH (eW rows n) L zo;rw[hF]at hinv;obtain⟨hij,wh,hY⟩:=hinv;dsimp only at hij wh hY;have Cf:i<L:=by omega
 obtain⟨p,hp'⟩:=aC (rows.getD i []);obtain⟨q,hq'⟩:=aC (rows.getD j []);have ep:rows[i]'zo=p:=by rw[<-hp'];simp[hL,Cf]
 have eq:rows[j]'zo=q:=by rw[<-hq'];simp[hL,wh]
 have hpl:p.length=n:=by have:=c4 p (by rw[<-ep];exact List.getElem_mem _);omega
 have wF:q.length=n:=by have:=c4 q (by rw[<-eq];exact List.getElem_mem _);omega
 have gG:∀x∈p,ja B x:=by rw[<-ep];exact hfit _ (List.getElem_mem _)
 have wE:∀x∈q,ja B x:=by rw[<-eq];exact hfit _ (List.getElem_mem _)
 rw[hp',hq'];have qG:∀x∈ij p q,dw x:=by
  intro x hx;unfold ij midD at hx;obtain⟨d,hd,rfl⟩:=List.mem_map.1 hx;obtain⟨t,ht,rfl⟩:=List.mem_iff_getElem.1 hd;have hi1:t<p.length/\t<q.length:=by simp at ht;omega
  rw[List.getElem_zipWith];have h1:=Sm.mul (Sm.add (gG _ (List.getElem_mem hi1.1)).2 (wE _ (List.getElem_mem hi1.2)).2) (Uu 1);exact(h1.mono (show B+1+(1+1)<=B+3 by omega)).an7 zo
 have iX:=λ(pa:Option Addr) (pc:Nat) (W:World) (h1:aX W a rows) (h2:At W pa (dC (midD p q)))=>ajq a L cap rows (if sU then i else j) pa n pc (ij p q) W hL zo (by rw[MP zo];exact hpl) zo (λr hr=>by rw[hrl r hr];omega) h1 (by unfold ij;rw[<-rS];exact h2) (λr hr x hx=>(hfit r hr x hx).1) qG;obtain⟨A2,Br⟩:=aC ((rows.set (if sU then i else j) (ij p q)).map df);rw[Br]at iX⊢;have hrow:=λ(W:World) (h:aX W a rows)=>h.row i zo;have hrow2:=λ(W:World) (h:aX W a rows)=>h.row j zo;simp only[ep,hpl]at hrow;simp only[eq,wF]at hrow2;obtain⟨Z,hZ⟩:=aC (midD p q);have hst:∀k (h:k<p.length) (h':k<q.length),Z.take (k+1)=Z.take k++[(aB p[k]+aB q[k]) *hp 1]:=by rw[<-hZ];exact VP p q
 have tT:Z.length=n:=by rw[<-hZ,MO zo,hpl]
 rw[hZ]at iX;obtain⟨Hi,cM,cN,cJ,Av,Ha,JM,rN,Jv,bS,pV,oM⟩:=gW hi hz0 hz1 hz2 qD ha iX hrow hrow2 hst tT hpl;obtain⟨Jq,nJ,Jp⟩:=cH wF gG wE;clear hL2 hi hz0 hz1 hz2 qD ha iX hrow hrow2 hst tT hpl wF gG wE ep eq hp' hq' hY hF hfit c4 hL hrl hZ Br qG;have Hb:Hid (Bw w w):=Below.refl _ _;go_enter Tryz.func21,Tryz.ntmps21;go_wp2_with fail;refine(Av.out _ (Ha.out.below Hb.out)).mono ?_;rintro e w1 ⟨rfl,ae⟩;replace Hb:=az Hb ae;clear ae;obtain⟨w2,aeL,ae,Hx⟩:=cQ w1 30 [.bool (au (dN Y)),.string (bs (nt (dN Y).natAbs)),.int .i64 (dE Y)];obtain⟨x0,x1,x2⟩:=Hx.out.c3;replace Hb:=az Hb ae;clear ae;obtain⟨b0,o0,a1,c1,dI,hc0,gy⟩:=rN.out w2 (Ha.out.below Hb.out);obtain⟨dL,ey,a2,c2,cj,hc1,iD⟩:=Jv.out w2 (Ha.out.below Hb.out);obtain⟨rfl,rfl⟩:dL=b0/\ey=o0:=by rw[dI]at cj;simp at cj;exact⟨cj.1.symm,cj.2.symm⟩
 clear cj;have uu:=gz L cap i (i:Int) dI Cf rfl;have sM:=gz L cap j (j:Int) dI wh rfl;rw[Nat.mul_one]at uu sM;obtain⟨nC,IB,gY,jJ,jI⟩:=fp hc0 hc1 gy iD dI;clear hc1 gy iD dI;have uO:=Hb.out.size;go_wp2_with fail;go_loopw[8,9] (λs8 x wr=>∃(k:Nat) (v:Value),k<=n/\x=.int .i64 (k:Int)/\v=s8/\wr.ownsRow w2.heap.size 30 3 v k (dC (Z.take k))/\Bw w2 wr) (λ_ x _=>n-(intOf x).toNat);case atStart=>exact⟨0,_,Nat.zero_le _,rfl,rfl,World.ownsRow_nil _ _ _ _,Below.refl _ _⟩
 case round=>
  clear hc0 x0 x1 x2;obtain⟨k,v,hk,rfl,rfl,pv,pb⟩:=hrel;have hu:wr.cell? ⟨dL,ey+i,none⟩=some (.slice a1 n c1):=cell_later pb nC.out;by_cases hlt:k<n
  . have k1:k<p.length:=by rw[oM.out];exact hlt
    have k2:k<q.length:=by rw[Jq.out];exact hlt
    obtain⟨sp,mp,ep,fh⟩:=jf (p[k]);obtain⟨sq,mq,eq,iY⟩:=jf (q[k]);have dv:=nJ.out _ (List.getElem_mem k1);have fS:=Jp.out _ (List.getElem_mem k2);have hst:=bS.out k k1 k2;rw[fh]at dv hst;rw[iY]at fS hst;obtain⟨D,hD⟩:=aC (aB (sp,mp,ep)+aB (sq,mq,eq));obtain⟨X,hX⟩:=aC (D*hp 1);rw[hD,hX]at hst;have gS:Sm (B+1) D:=by rw[<-hD];exact Sm.add dv.2 fS.2
    have GU:Hid (dw (au (dN D),nt (dN D).natAbs,dE D)):=gS.an7 zo;have HX:Hid (aB (au (dN D),nt (dN D).natAbs,dE D+ -1)=X):=by show _=_;rw[<-hX];exact Xe D 1
    have mJ:Hid (dC (Z.take (k+1))=dC (Z.take k)++[.bool (au (dN X)),.string (bs (nt (dN X).natAbs)),.int .i64 (dE X)]):=by
     show _=_
     rw[hst,tN];rfl
    obtain⟨b1,o1,cj,p0,p1,p2⟩:=(gY.out.below pb).num k k1 fh;obtain⟨b2,o2,eQ,q0,q1,q2⟩:=(jJ.out.below pb).num k k2 iY;have iV:=jW n c1 k (k:Int) cj hlt rfl;have mg:=jW n c2 k (k:Int) eQ hlt rfl;have iZ:b1<w2.heap.size:=(by subst cj;exact gY.out.lt (by intro h0;have:=congrArg List.length h0;rw[jg bB 3 (λ_=>rfl)]at this;simp at this;omega));have gV:b2<w2.heap.size:=(by subst eQ;exact jJ.out.lt (by intro h0;have:=congrArg List.length h0;rw[jg bB 3 (λ_=>rfl)]at this;simp at this;omega));have qK:dL<w2.heap.size:=World.block_lt_of_cell? w2 _ nC.out;have Hu:Hid (aZ wr dL (ey+i) [.slice a1 n c1]):=λj hj=>by
     obtain rfl:j=0:=by simp at hj;omega
     exact cell_later pb nC.out
    have Hv:Hid (aZ wr dL (ey+j) [.slice a2 n c2]):=λj hj=>by
     obtain rfl:j=0:=by simp at hj;omega
     exact cell_later pb IB.out
    have Hp:Hid (aZ wr b1 (o1+k*3) [.bool sp,.string (bs mp),.int .i64 ep]):=gM p0 p1 p2;have Hq:Hid (aZ wr b2 (o2+k*3) [.bool sq,.string (bs mq),.int .i64 eq]):=gM q0 q1 q2;obtain⟨jb,mE,HD,cW,rC⟩:=fp dv fS hD pv pb;have iw:=Hb;have xw:=pb.size;clear Hb pv pb dv fS hD hX hst gS fh iY cj eQ p0 p1 p2 q0 q1 q2;have Hb:Hid (Bw wr wr):=Below.refl _ _;go_wp2_with fail;clear hu;have u0:=Hu.out.w1;have v0:=Hv.out.w1;obtain⟨p0,p1,p2⟩:=Hp.out.w3;obtain⟨q0,q1,q2⟩:=Hq.out.w3;refine bD (λw'=>w'.cell? ⟨dL,ey+i,none⟩=some (.slice a1 n c1)/\w'.cell? ⟨dL,ey+j,none⟩=some (.slice a2 n c2)/\w'.cell? ⟨b1,o1+k*3,none⟩=some (.bool sp)/\w'.cell? ⟨b1,o1+k*3+1,none⟩=some (.string (bs mp))/\w'.cell? ⟨b1,o1+k*3+2,none⟩=some (.int .i64 ep)/\w'.cell? ⟨b2,o2+k*3,none⟩=some (.bool sq)/\w'.cell? ⟨b2,o2+k*3+1,none⟩=some (.string (bs mq))/\w'.cell? ⟨b2,o2+k*3+2,none⟩=some (.int .i64 eq)) (λi=>Nat.blt i 100000) [(0,true),(1,true),(2,true),(3,true),(4,true),(5,true),(6,true),(7,true),(8,true),(9,true),(10,true),(11,true),(12,true),(13,true),(14,true),(15,false),(16,false),(17,false),(18,false),(19,true)] zk zk rfl zk zc ⟨u0,v0,p0,p1,p2,q0,q1,q2⟩ ?_;iterate 15 (refine pT rfl rfl ?_ (by intro w' ⟨q0,q1,q2,q3,q4,q5,q6,q7⟩;go_simp;try with_reducible rfl);try simp only[UU])
    refine aJ rfl rfl (λK hK=>?_);go_simp;with_reducible refine(Gx sp mp ep sq mq eq D HD.out _ jb.out.1 mE.out.1).mono ?_
    rintro e w5 ⟨rfl,hq⟩;have ae:Bw wr w5:=by first|exact hq|exact aO hq
    clear u0 v0 p0 p1 p2 q0 q1 q2;replace Hu:=kW Hu ae;replace Hv:=kW Hv ae;replace Hp:=kW Hp ae;replace Hq:=kW Hq ae;have u0:=Hu.out.w1;have v0:=Hv.out.w1;obtain⟨p0,p1,p2⟩:=Hp.out.w3;obtain⟨q0,q1,q2⟩:=Hq.out.w3;replace Hb:=az Hb ae;clear ae;refine hK _ _ (λ_=>⟨u0,v0,p0,p1,p2,q0,q1,q2⟩) ?_;clear hK K;try simp only[UU]
    refine aJ rfl rfl (λK hK=>?_);go_simp;with_reducible refine(aje (au (dN D)) (nt (dN D).natAbs) (dE D) (-1) X HX.out _ GU.out zd).mono ?_
    rintro e w6 ⟨rfl,hq⟩;have ae:Bw w5 w6:=by first|exact hq|exact aO hq
    clear u0 v0 p0 p1 p2 q0 q1 q2;replace Hu:=kW Hu ae;replace Hv:=kW Hv ae;replace Hp:=kW Hp ae;replace Hq:=kW Hq ae;have u0:=Hu.out.w1;have v0:=Hv.out.w1;obtain⟨p0,p1,p2⟩:=Hp.out.w3;obtain⟨q0,q1,q2⟩:=Hq.out.w3;replace Hb:=az Hb ae;clear ae;refine hK _ _ (λ_=>⟨u0,v0,p0,p1,p2,q0,q1,q2⟩) ?_;clear hK K;try simp only[UU]
    refine aJ rfl rfl (λK hK=>?_);go_simp;refine hK _ _ (λ_=>⟨aI u0,aI v0,aI p0,aI p1,aI p2,aI q0,aI q1,aI q2⟩) ?_;clear hK K;try simp only[UU]
    refine bE (λw7=>ai w7 (w6.heap.size) 30 [.bool (au (dN X)),.string (bs (nt (dN X).natAbs)),.int .i64 (dE X)]/\Bw w6 w7) (by first|exact dW|exact dX) ?_;rintro w7 ⟨qc,ae⟩;clear u0 v0 p0 p1 p2 q0 q1 q2;replace Hu:=kW Hu ae;replace Hv:=kW Hv ae;replace Hp:=kW Hp ae;replace Hq:=kW Hq ae;have Hc:=ah qc;clear qc;have u0:=Hu.out.w1;have v0:=Hv.out.w1;obtain⟨p0,p1,p2⟩:=Hp.out.w3;obtain⟨q0,q1,q2⟩:=Hq.out.w3;obtain⟨c0,c1,c2⟩:=Hc.out.c3;replace Hb:=az Hb ae;clear ae;refine aJ rfl rfl (λK hK=>?_);have cG:=ownsRow_below cW.out Hb.out;have ib:=Hb.out.size;refine wp_append_own _ _ _ 46 rfl w2.heap.size 30 i0 _ 3 32 Tryz.underlying46 Hi.out cM.out cN.out cJ.out rfl zd v k (dC (Z.take k)) rfl cG ⟨w6.heap.size,0,none⟩ 1 1 [.bool (au (dN X)),.string (bs (nt (dN X).natAbs)),.int .i64 (dE X)] rfl rfl (fZ Hc.out) zy zx zo zo ?_;intro v' w8 dF bj _;obtain⟨g',cq,rfl⟩:=ownsRow_succ dF;have nb:∀b,b<w2.heap.size->some b≠v.ownBlock:=λb hb e=>by have:=cL cG b e.symm;omega
    refine hK _ _ (λ_=>⟨bO bj u0 (nb _ qK),bO bj v0 (nb _ qK),bO bj p0 (nb _ iZ),bO bj p1 (nb _ iZ),bO bj p2 (nb _ iZ),bO bj q0 (nb _ gV),bO bj q1 (nb _ gV),bO bj q2 (nb _ gV)⟩) ?_;clear hK K;try simp only[UU]
    refine pT rfl rfl ?_;try simp only[UU]
    simp only[aU];clear u0 v0 p0 p1 p2 q0 q1 q2 c0 c1 c2;go_wp2;go_roundw;case rel=>
     refine⟨k+1,_,by omega,by go_num,rfl,?_,?_⟩
     . rw[mJ.out];exact dF
     . exact(aK rC.out Hb.out).grown bj zo (λj e=>cL cG j e)
    case measure=>simp[intOf];omega
  . obtain rfl:k=n:=by omega
    have iT:Z.take k=Z:=List.take_of_length_le (by rw[pV.out];exact Nat.le_refl _);rw[iT]at pv;obtain⟨a3,EA,rfl,BW,_⟩:=dK pv;obtain⟨xH,xG,iw⟩:=cH BW ((Ha.out.below Hb.out).below pb) (aK Hb.out pb);clear Hb BW pv pb iT;have Hb:Hid (Bw w wr):=iw;have iX:=JM.out a3 EA _ xG.out xH.out;cases sU with
    |true=>simp only[if_true]at iX;go_wp2_with fail;refine iX.mono ?_;rintro e w4 ⟨a4,c4,rfl,hl4,uk,ae⟩;have vD:=ah uk;replace Hb:=ah (aK Hb.out ae);clear uk ae;go_wp2;refine bodyPost_ret (results_tmp rfl _ _ _) rfl ⟨a4,c4,rfl,hl4,vD.out,Hb.out⟩
    |false=>simp only[Bool.false_eq_true,if_false]at iX;go_wp2_with fail;refine iX.mono ?_;rintro e w4 ⟨a4,c4,rfl,hl4,uk,ae⟩;have vD:=ah uk;replace Hb:=ah (aK Hb.out ae);clear uk ae;go_wp2;refine bodyPost_ret (results_tmp rfl _ _ _) rfl ⟨a4,c4,rfl,hl4,vD.out,Hb.out⟩
theorem aiT (a:Option Addr)(cap n B:Nat)(rows:List (List Raw))(sU:Bool)(w:World)(hn:1<=n)(ml:n<=8)(h1:rows.length=n+1)(h2:∀r∈rows,r.length=n)(ha:aX w a rows)(hfit:∀r∈rows,∀c∈r,ja B c)(hB:B<=4000):
 Calls Tryz.prog 21 #[.slice a (n+1) cap,.bool sU] w λe w'=>∃a1 c1,e=.returned (.slice a1 (n+1) c1)/\n+1<=c1/\aX w' a1 (pC n sU rows)/\Bw w w':=by
 obtain⟨i,j,Y,hF⟩:∃i j Y,gm (eW rows n) (n+1)=(i,j,Y):=⟨_,_,_,rfl⟩;have h:=aiS a (n+1) cap n rows B i j Y sU w h1 rfl h2 hn ml ha hfit hB hF;unfold pC se;rw[hF];exact h
end Go.Proofs.YtdaadlblknpipaaGreatDoor
