/- Package ogeeref08: Var,Check of what may be,Scale,Terms,Same. -/
import Derived.Test.YtdaadlblknpipaaGreatDoorZ18
import Derived.Test.YtdaadlblknpipaaGreatDoorZ22
import Derived.Test.YtdaadlblknpipaaGreatDoorZ9
import Derived.Test.YtdaadlblknpipaaGreatDoorZ20
import Derived.Test.YtdaadlblknpipaaGreatDoorZ21
import Derived.Test.YtdaadlblknpipaaGreatDoorZ15
import Derived.Test.YtdaadlblknpipaaGreatDoorZ13
import Derived.Test.YtdaadlblknpipaaGreatDoorZ7
import Derived.Test.YtdaadlblknpipaaGreatDoorZ17
set_option linter.unusedVariables false
set_option linter.unusedSimpArgs false
set_option maxRecDepth 100000
set_option maxHeartbeats 16000000
namespace Go.Proofs.YtdaadlblknpipaaGreatDoor
open Go.RowKit
attribute [local go_sem ↓] Go.wp_at_zero Go.wp_at_succ
theorem YZ (V k:Nat)(w:World)(hV:V<=12)(hk:k<V):
 Calls Tryz.prog 42 #[.int .i64 (V:Int),.int .i64 (k:Int)] w λex w'=>∃a' c',ex=.returned (.tuple #[.agg #[.int .i64 (V:Int),.slice a' (bF [(cL V k,canon 1)]).length c'],.int .i64 0])/\bR w' a' c' (bF [(cL V k,canon 1)])/\Bw w w':=by
 obtain⟨C,hC⟩:=aB (bF [(cL V k,canon 1)]);rw[hC];obtain⟨O,hO⟩:∃O:Dyadic,(1:Dyadic)=O:=⟨_,rfl⟩;have hmk:=λW b (hb:ak W b 107 [.string (bs (cL V k)),.bool (ar (dN O)),.string (bs (nt (dN O).natAbs)),.int .i64 (dE O)])=>IW V (some ⟨b,0,none⟩) 1 1 [(cL V k,canon 1)] 1 W rfl zo (by rw[hO];exact At.aqS hb) (by intro t ht;simp at ht;subst ht;exact Sm.aqT Sm.one zd) (by intro t ht;simp at ht;subst ht;show Sm 1 (aC (canon 1));rw[bP];exact Sm.one) zo;rw[hC]at hmk;have hof:∀W,Calls Tryz.prog 62 #[.int .i64 1] W λe w'=>e=.returned (bH O)/\Bw W w':=λW=>Pg 1 O hO W zd;have hmb:=λW=>rB (V:Int) V rfl zo W;have hcv:∀W b,Hid (ak W b 5 (cK V λj=>if j=k then 1 else 0))->(convert 111 9 (.slice (some ⟨b,0,none⟩) V V)).run Tryz.prog W=.ok (.string (bs (cL V k))) W:=λW b h=>by rw[<-ZL V k];exact wm h.out V
 have bE:=λb=>vJ V V k (k:Int) (rfl:(some ⟨b,0,none⟩:Option Addr)=_) hk rfl;simp only[Nat.zero_add,Nat.mul_one]at bE;have hget:(cK V λ_=>0)[k]?=some (.int .u8 0):=kY _ _ _ hk;have kg:(cK V λ_=>0).set k (.int .u8 1)=cK V λj=>if j=k then 1 else 0:=yL V _ k 1
 obtain⟨mY,oV⟩:=aM hmk hof;clear hmk hof hC hO;have Dn:¬(k:Int)<0:=by omega
 have UJ:¬(V:Int)<0:=by omega
 have hV2:¬(12:Int)<(V:Int):=by omega
 have hkV:¬(V:Int)<=(k:Int):=by omega
 obtain⟨W,dw,Hb,Hr⟩:=iP w 57 [.int .i64 0,.slice none 0 0];obtain⟨r0,ai,r1,aj⟩:=Hr.out.g2;go_enter Tryz.func42,Tryz.ntmps42;go_wp2_with fail;have hrl:=Hr.out.lt;obtain⟨R,hR⟩:∃R:World->Prop,(λW3=>ak W3 W.heap.size 5 (cK V λj=>if j=k then 1 else 0)/\Bw W W3)=R:=⟨_,rfl⟩;first|refine bN R ?hR ?_|refine bL R ?hR ?_
 case hR=>subst hR;exact⟨ak.newAt W _ _ (b:=W.heap.size) rfl,zl⟩
 subst hR;intro W3 ⟨qm,ae⟩;clear r0 ai r1 aj;replace Hr:=kB Hr ae;obtain⟨r0,ai,r1,aj⟩:=Hr.out.g2;replace Hb:=ah (aK Hb.out ae);have Hm:=ah qm;clear qm ae hget kg bE hmb;have mf:∀w',gN W3 w'->(convert 111 9 (.slice (some ⟨W.heap.size,0,none⟩) V V)).run Tryz.prog w'=.ok (.string (bs (cL V k))) w':=λw' h=>hcv w' _ (ah (Hm.out.below h));have aN:Hid (gN W3 W3):=Below.refl _ _;refine bM (λw'=>gN W3 w') (λi=>Nat.blt i 9) [(0,true),(1,true),(2,true),(3,false),(4,true),(5,false),(6,false),(7,true),(8,true),(9,false),(10,false)] zk zk rfl zk zc aN.out.drew ?_;iterate 3 (refine OO rfl rfl (v:=?_) (λw' hw'=>?_) ?_;rotate_left;(focus have hw':=mf w' hw';go_simp;try with_reducible rfl);try simp only[UU])
 refine aI rfl rfl (λK hK=>?_);go_simp;with_reducible refine(oV.out _).mono ?_
 rintro e w4 ⟨rfl,hq⟩;have ae:Bw W3 w4:=by first|exact hq|exact aV hq
 clear r0 ai r1 aj;replace aN:=ah (aN.out.below ae);replace Hr:=kB Hr ae;obtain⟨r0,ai,r1,aj⟩:=Hr.out.g2;replace Hb:=az Hb ae;clear ae;refine hK _ _ (λ_=>aN.out) ?_;clear hK K;try simp only[UU]
 refine pT rfl rfl ?_;try simp only[UU]
 refine aI rfl rfl (λK hK=>?_);go_simp;refine hK _ _ (λ_=>by first|exact aN.out.alloc _|exact(aN.out.alloc _).drew|exact(aN.out.drew).alloc _) ?_;clear hK K;try simp only[UU]
 refine bO (λW5=>ak W5 (w4.heap.size) 107 [.string (bs (cL V k)),.bool (ar (dN O)),.string (bs (nt (dN O).natAbs)),.int .i64 (dE O)]/\Bw w4 W5) (by first|exact dU|exact dV) ?_;rintro W5 ⟨qz,ae⟩;clear r0 ai r1 aj;have IE:=Hr.out.lt;replace aN:=ah (aN.out.below ae);replace Hr:=kB Hr ae;have Hz:=ah qz;clear qz;obtain⟨r0,ai,r1,aj⟩:=Hr.out.g2;obtain⟨z0,z1,z2,z3⟩:=Hz.out.c4;replace Hb:=az Hb ae;clear ae;refine aI rfl rfl (λK hK=>?_);go_simp;with_reducible refine(mY.out _ _ Hz.out).mono ?_
 rintro e w6 ⟨a2,d2,rfl,dP,hq⟩;have ae:Bw W5 w6:=by first|exact hq|exact aV hq
 clear r0 ai r1 aj z0 z1 z2 z3;replace aN:=ah (aN.out.below ae);replace Hr:=kB Hr ae;replace Hz:=kB Hz ae;obtain⟨r0,ai,r1,aj⟩:=Hr.out.g2;obtain⟨z0,z1,z2,z3⟩:=Hz.out.c4;replace Hb:=az Hb ae;clear ae;refine hK _ _ (λ_=>aN.out) ?_;clear hK K;try simp only[UU]
 iterate 2 (refine pT rfl rfl ?_;try simp only[UU])
 refine aI rfl rfl (λK hK=>?_);go_simp;refine hK _ _ (by first|exact λh=>absurd h zd|exact λ_=>aN.out|exact λ_=>fF zg aN.out) ?_;clear hK K;try simp only[UU]
 refine aI rfl rfl (λK hK=>?_);go_simp;refine hK _ _ (λh=>absurd h zd) ?_;clear hK K;try simp only[UU]
 simp only[aZ];go_wp2;have h9:=dP.store Hr.out zd (.int .i64 (V:Int)) (.slice a2 C.length d2);refine fy (λw9=>bR w9 a2 d2 C/\ak w9 w.heap.size 57 [.int .i64 (V:Int),.slice a2 C.length d2]/\Bw w w9) ⟨h9,(Hr.out.set 0 _).set 1 _,(Hb.out.setCell (Nat.le_refl _) _).setCell (Nat.le_refl _) _⟩ ?_;rintro w9 ⟨q1,q2,q3⟩;obtain⟨p0,p1⟩:=q2.c2;exact bodyPost_ret (v:=.tuple #[.agg #[.int .i64 (V:Int),.slice a2 C.length d2],.int .i64 0]) (by simp[results,Tryz.results42,go_sem,p0,p1]) rfl ⟨_,_,rfl,q1,q3⟩
theorem akA {V:Nat}{ts:List aL}(h:Cm V ts)(k:Nat)(hk:k<ts.length):gj ts[k].1 V=true/\aC ts[k].2≠0/\ts[k].2=canon (aC ts[k].2)/\(0<k->Op.bytesLess (ts[k-1]'zo).1 ts[k].1=true):=by obtain⟨⟨h1,h2⟩,h3,h4,h5⟩:=h;have hm:=List.getElem_mem hk;exact⟨h3 _ hm,(h2 _ hm).1,(h2 _ hm).2,λh0=>List.pairwise_iff_getElem.1 h1 (k-1) k zo hk zo⟩
theorem YR (V:Nat)(a:Option Addr)(cap N:Nat)(ts:List aL)(w:World)(hN:ts.length=N)(ha:At w a (ts.flatMap aO))(hp:Cm V ts)(hf:∀t∈ts,eZ t.2):
 Calls Tryz.prog 82 #[.agg #[.int .i64 (V:Int),.slice a N cap]] w λe w'=>e=.returned (.int .i64 0)/\Bw w w':=by
 have hn:N<=4096:=by rw[<-hN];exact hp.2.2.1
 have hV:V<=12:=hp.2.2.2;have hg:=λk hk=>akA hp k hk;obtain⟨Ha,Hg,HN,Hf⟩:=dS ha hg hN hf;clear ha hg hN hf hp;have UJ:¬(V:Int)<0:=by omega
 have hV2:¬(12:Int)<(V:Int):=by omega
 have bI:¬(4096:Int)<(N:Int):=by omega
 have aoV:decide ((4096:Int)<(N:Int))=false:=by simp;omega
 obtain⟨W,dw,Hb,Hp⟩:=iP w 57 [.int .i64 (V:Int),.slice a N cap];obtain⟨p0,p1⟩:=Hp.out.c2;go_enter Tryz.func82,Tryz.ntmps82;go_wp2_with fail;go_loopw[3] (λx wr=>∃k:Nat,k<=N/\x=.int .i64 (k:Int)/\ak wr w.heap.size 57 [.int .i64 (V:Int),.slice a N cap]/\Bw w wr) (λx _=>N-(intOf x).toNat);case atStart=>exact⟨0,Nat.zero_le _,rfl,Hp.out,Hb.out⟩
 case round=>
  clear p0 p1 Hp Hb;obtain⟨k,hk,rfl,gD,pb⟩:=hrel;by_cases hlt:k<N
  . have hk2:k<ts.length:=by rw[HN.out];exact hlt
    obtain⟨l,s,m,e,hx⟩:∃l s m e,ts[k]=(l,s,m,e):=⟨_,_,_,_,rfl⟩;obtain⟨b,o,hab,cQ⟩:=(Ha.out.below pb).term k hk2 hx;obtain⟨g1,g2,g3,g4⟩:=Hg.out k hk2;have dL:eZ (s,m,e):=by have:=Hf.out _ (List.getElem_mem hk2);rw[hx]at this;exact this
    have hfl:m.length<=16384:=dL.1;rw[hx]at g1 g2 g3;simp only[hx]at g4;obtain⟨X,hX⟩:=aB (aC (s,m,e));obtain⟨sg,fH⟩:=aB (bZ X);have hs1:(sg==0)=false:=by rw[<-fH,xq,<-hX];exact g2
    have hne:=Oy X s m e false (by rw[<-hX];simpa using g3.symm);have rc:=λW=>alq l (V:Int) W (by have hll:l.length=V:=XS g1;omega);rw[g1]at rc;have bE:=jO N cap k (k:Int) hab hlt rfl;have WI:=λW=>yH s m e sg (by rw[hX];exact fH) W zo;have hfo:=λW=>yG s m e X hX W dL;obtain⟨sX,Hsn,Fl,aQ,ky,Hp⟩:=gF rc WI hfo pb hab gD;have mC:Hid (bB wr b (o+k*4) [.string (bs l),.bool s,.string (bs m),.int .i64 e]):=cQ;have sz:=pb.size;clear rc WI hfo pb gD cQ hX fH g1 g2 g3 dL hab;have Hb:Hid (Bw wr wr):=Below.refl _ _;obtain⟨p0,p1⟩:=Hp.out.c2;obtain⟨un,uo,uq,ut⟩:=mC.out.w4;have P0:=un;have P1:=uo;have P2:=uq;have P3:=ut;have Q1:=p1;have aje:=Hp.out.lt;obtain⟨W4,pH,ae,Ht⟩:=cS wr 107 [.string (bs l),.bool s,.string (bs m),.int .i64 e];clear p0 p1;replace Hp:=kB Hp ae;clear un uo uq ut;replace mC:=kW mC ae;obtain⟨p0,p1⟩:=Hp.out.c2;obtain⟨un,uo,uq,ut⟩:=mC.out.w4;obtain⟨t0,t1,t2,t3⟩:=Ht.out.c4;replace Hb:=az Hb ae;clear ae;go_wp2_with fail;clear P0 P1 P2 P3 Q1 un uo uq ut mC;refine bM (λw'=>w'.cell? ⟨w.heap.size,0,none⟩=some (.int .i64 (V:Int))/\w'.cell? ⟨w.heap.size,1,none⟩=some (.slice a N cap)/\w'.cell? ⟨wr.heap.size,0,none⟩=some (.string (bs l))/\w'.cell? ⟨wr.heap.size,1,none⟩=some (.bool s)/\w'.cell? ⟨wr.heap.size,2,none⟩=some (.string (bs m))/\w'.cell? ⟨wr.heap.size,3,none⟩=some (.int .i64 e)) (λi=>Nat.blt i 100000) [(0,true),(1,true),(2,true),(3,true),(4,false),(5,true),(6,true),(7,true),(8,true),(9,false),(10,true),(11,true),(12,true),(13,true),(14,true),(16,true),(17,true),(15,false),(18,true),(19,true)] zk zk rfl zk zc ⟨p0,p1,t0,t1,t2,t3⟩ ?_;iterate 4 (refine pT rfl rfl ?_ (by intro w' ⟨q0,q1,q2,q3,q4,q5⟩;go_simp;try with_reducible rfl);try simp only[UU])
    refine aI rfl rfl (λK hK=>?_);go_simp;with_reducible refine(sX.out _).mono ?_
    rintro e w5 ⟨rfl,hq⟩;have ae:Bw W4 w5:=by first|exact hq|exact aV hq
    clear p0 p1 t0 t1 t2 t3;replace Hp:=kB Hp ae;replace Ht:=kB Ht ae;obtain⟨p0,p1⟩:=Hp.out.c2;obtain⟨t0,t1,t2,t3⟩:=Ht.out.c4;replace Hb:=az Hb ae;clear ae;refine hK _ _ (λ_=>⟨p0,p1,t0,t1,t2,t3⟩) ?_;clear hK K;try simp only[UU]
    iterate 4 (refine pT rfl rfl ?_ (by intro w' ⟨q0,q1,q2,q3,q4,q5⟩;go_simp;try with_reducible rfl);try simp only[UU])
    refine aI rfl rfl (λK hK=>?_);go_simp;with_reducible refine(Hsn.out _).mono ?_
    rintro e w6 ⟨rfl,hq⟩;have ae:Bw w5 w6:=by first|exact hq|exact aV hq
    clear p0 p1 t0 t1 t2 t3;replace Hp:=kB Hp ae;replace Ht:=kB Ht ae;obtain⟨p0,p1⟩:=Hp.out.c2;obtain⟨t0,t1,t2,t3⟩:=Ht.out.c4;replace Hb:=az Hb ae;clear ae;refine hK _ _ (λ_=>⟨p0,p1,t0,t1,t2,t3⟩) ?_;clear hK K;try simp only[UU]
    iterate 7 (refine pT rfl rfl ?_ (by intro w' ⟨q0,q1,q2,q3,q4,q5⟩;go_simp;try with_reducible rfl);try simp only[UU])
    refine aI rfl rfl (λK hK=>?_);go_simp;with_reducible refine(Fl.out _).mono ?_
    rintro e w7 ⟨rfl,hq⟩;have ae:Bw w6 w7:=by first|exact hq|exact aV hq
    clear p0 p1 t0 t1 t2 t3;replace Hp:=kB Hp ae;replace Ht:=kB Ht ae;obtain⟨p0,p1⟩:=Hp.out.c2;obtain⟨t0,t1,t2,t3⟩:=Ht.out.c4;replace Hb:=az Hb ae;clear ae;refine hK _ _ (λ_=>⟨p0,p1,t0,t1,t2,t3⟩) ?_;clear hK K;try simp only[UU]
    iterate 2 (refine pT rfl rfl ?_;try simp only[UU])
    simp only[aZ];by_cases kM:k=0
    . have hk1:decide (0<k)=false:=by simp;omega
      have ahz:decide ((0:Int)<(k:Int))=false:=by simp;omega
      clear kM g4;go_wp2_with fail;refine bM (λw'=>w'.cell? ⟨w.heap.size,0,none⟩=some (.int .i64 (V:Int))/\w'.cell? ⟨w.heap.size,1,none⟩=some (.slice a N cap)/\w'.cell? ⟨wr.heap.size,0,none⟩=some (.string (bs l))/\w'.cell? ⟨wr.heap.size,1,none⟩=some (.bool s)/\w'.cell? ⟨wr.heap.size,2,none⟩=some (.string (bs m))/\w'.cell? ⟨wr.heap.size,3,none⟩=some (.int .i64 e)) (λi=>Nat.blt i 100000) [(0,true),(1,true),(2,true),(3,true),(4,true),(5,true),(6,true),(7,true),(8,true),(9,true),(10,true),(11,true),(12,true),(13,true)] zk zk rfl zk zc ⟨p0,p1,t0,t1,t2,t3⟩ ?_;iterate 3 (refine pT rfl rfl ?_;try simp only[UU])
      refine bu rfl rfl ?_;try simp only[UU]
      refine bu rfl rfl ?_;try simp only[UU]
      refine bu rfl rfl ?_;try simp only[UU]
      refine bu rfl rfl ?_;try simp only[UU]
      refine bu rfl rfl ?_;try simp only[UU]
      refine bu rfl rfl ?_;try simp only[UU]
      refine bu rfl rfl ?_;try simp only[UU]
      refine bu rfl rfl ?_;try simp only[UU]
      refine bu rfl rfl ?_;try simp only[UU]
      refine bu rfl rfl ?_;try simp only[UU]
      refine pT rfl rfl ?_;try simp only[UU]
      simp only[aZ];go_wp2;go_roundw;case rel=>exact⟨k+1,by omega,by go_num,Hp.out,(aK aQ.out Hb.out).drew⟩
      case measure=>simp[intOf];omega
    . have rV:=g4 zo;have nD:k-1<ts.length:=by omega
      obtain⟨l',s',m',e',hx'⟩:∃l s m e,ts[k-1]=(l,s,m,e):=⟨_,_,_,_,rfl⟩;obtain⟨b',o',oh,rZ⟩:=(Ha.out.below (aK aQ.out Hb.out)).term (k-1) nD hx';have hab:=ky.out;rw[hab]at oh;simp only[Option.some.injEq,Addr.mk.injEq,and_true]at oh;obtain⟨rfl,rfl⟩:=oh;rw[hx']at rV;have jX:Op.bytesLess (bs l').toList (bs l).toList=true:=by rw[fY,fY];exact rV
      have hge:Op.bytesLess (bs l).toList (bs l').toList=false:=by
       rw[fY,fY];cases hc:Op.bytesLess l l' with
       |false=>rfl
       |true=>have:=Cr rV hc;rw[zF]at this;cases this
      have ahz:decide ((0:Int)<(k:Int))=true:=by simp;omega
      have hk1:decide (0<k)=true:=by simp;omega
      have Nb:IntKind.i64.wrap ((k:Int)-1)=((k-1:Nat):Int):=by rw[IntKind.wrap_i64];omega
      have MV:=jO N cap (k-1) ((k-1:Nat):Int) hab zo rfl;obtain⟨kp,Ae⟩:=aB (k-1);rw[Ae]at MV Nb rZ;have ahB:kp<N:=by omega
      have dx:Hid (bB w7 b (o+kp*4) [.string (bs l'),.bool s',.string (bs m'),.int .i64 e']):=rZ;clear rZ kM hx' Ae hab rV g4 nD;obtain⟨p0,p1⟩:=Hp.out.c2;obtain⟨t0,t1,t2,t3⟩:=Ht.out.c4;have iQ:w7.cell? ⟨b,o+kp*4,none⟩=some (.string (bs l')):=dx.out.cell 0 zm;go_wp2_with fail;refine bM (λw'=>w'.cell? ⟨w.heap.size,0,none⟩=some (.int .i64 (V:Int))/\w'.cell? ⟨w.heap.size,1,none⟩=some (.slice a N cap)/\w'.cell? ⟨wr.heap.size,0,none⟩=some (.string (bs l))/\w'.cell? ⟨b,o+kp*4,none⟩=some (.string (bs l'))) (λi=>Nat.blt i 100000) [(0,true),(1,true),(2,true),(3,true),(4,true),(5,true),(6,true),(7,true),(8,true),(9,true),(10,true),(11,true),(12,true),(13,true)] zk zk rfl zk zc ⟨p0,p1,t0,iQ⟩ ?_;iterate 14 (refine pT rfl rfl ?_ (by intro w' ⟨q0,q1,q2,q3⟩;go_simp;try with_reducible rfl);try simp only[UU])
      simp only[aZ];go_wp2;go_roundw;case rel=>exact⟨k+1,by omega,by go_num,Hp.out,(aK aQ.out Hb.out).drew⟩
      case measure=>simp[intOf];omega
  . obtain rfl:k=N:=by omega
    obtain⟨Hp,aQ⟩:=aM gD pb;obtain⟨p0,p1⟩:=Hp.out.c2;go_wp2;refine bodyPost_ret (results_tmp rfl _ _ _) rfl ⟨rfl,aQ.out⟩
theorem YT (V:Nat)(a:Option Addr)(cap:Nat)(ts:List aL)(s:Bool)(m:List UInt8)(e:Int)(D:Dyadic)(B:Nat)(w:World)(hp:gZ V B ts)(ha:bR w a cap ts)(dL:eZ (s,m,e))(rq:Sm B (aC (s,m,e)))(hB:2*B+4096<=16384)(hD:aC (s,m,e)=D):
 Calls Tryz.prog 43 #[.agg #[.int .i64 (V:Int),.slice a ts.length cap],.agg #[.bool s,.string (bs m),.int .i64 e]] w λex w'=>∃a' c',ex=.returned (.tuple #[.agg #[.int .i64 (V:Int),.slice a' (bF (dX D ts)).length c'],.int .i64 0])/\bR w' a' c' (bF (dX D ts))/\Bw w w':=by
 obtain⟨i0,hi,hz0,hz1,hz2⟩:=info_parts Tryz.aqW;obtain⟨n,hn⟩:=aB ts.length;have hnl:n<=4096:=by have:=hp.1.2.2.1;omega
 have fZ:(dX D ts).length=n:=by unfold dX;rw[List.length_map,hn]
 have hsm:∀t∈ts,Sm B (aC t.2):=λt ht=>(hp.2 t ht).2;have jK:∀t∈ts,eZ t.2:=λt ht=>by rw[(hp.1.1.2 t ht).2];exact(hsm t ht).aqT zo
 rw[hD]at rq;have oc:∀t∈dX D ts,Sm (2*B) (aC t.2):=by
  intro t ht;unfold dX at ht;obtain⟨x,hx,rfl⟩:=List.mem_map.1 ht;show Sm _ (aC (canon _))
  rw[bP];exact(Sm.mul (hsm x hx) rq).mono zo
 have CV:∀t∈dX D ts,eZ t.2:=by
  intro t ht;have h1:=oc t ht;unfold dX at ht;obtain⟨x,hx,rfl⟩:=List.mem_map.1 ht;have h2:Sm (2*B) (aC x.2*D):=by have h3:aC (canon (aC x.2*D))=aC x.2*D:=bP _;rw[<-h3];exact h1
  exact h2.aqT zo
 have ez:=λW (hW:Bw w W)=>YR V a cap n ts W hn (ha.1.below hW) hp.1 jK;have vq:=λW a' c' (h:At W a' ((dX D ts).flatMap aO))=>IW V a' n c' (dX D ts) (2*B) W fZ hnl h CV oc zo;obtain⟨C,hC⟩:=aB (bF (dX D ts));obtain⟨Q,hQ⟩:=aB (dX D ts);rw[hC]at vq⊢;have Uy:∀k (h:k<ts.length) (h2:k<Q.length),Q[k]=(ts[k].1,canon (aC ts[k].2*D)):=λk h h2=>by subst hQ;simp[dX]
 rw[hQ]at vq fZ;rw[hn];obtain⟨Hi,cN,cO,cH,jU,wP,uD,Hn,iT,HD,Ha,HQg⟩:=gh hi hz0 hz1 hz2 ez vq jK hn dL hD ha.1 Uy;have EX:=ah fZ;clear hi hz0 hz1 hz2 ez vq jK hn dL hD hC hQ fZ oc CV hsm ha hp rq Uy;have Hb:Hid (Bw w w):=Below.refl _ _;go_enter Tryz.func43,Tryz.ntmps43;go_wp2_with fail;obtain⟨R,hR⟩:∃R:World->Prop,(λW=>ak W (w.heap.size) 57 [.int .i64 (V:Int),.slice a n cap]/\ak W (w.heap.size+1) 30 [.bool s,.string (bs m),.int .i64 e]/\ak W (w.heap.size+1+1) 57 [.int .i64 0,.slice none 0 0]/\Bw w W)=R:=⟨_,rfl⟩;first|refine bN R ?hR ?_|refine bL R ?hR ?_
 case hR=>subst hR;exact⟨(((ak.newAt w _ _ (b:=w.heap.size) rfl).alloc _).alloc _),((ak.newAt (w.alloc _) _ _ (b:=w.heap.size+1) zm).alloc _),(ak.newAt ((w.alloc _).alloc _) _ _ (b:=w.heap.size+1+1) zm),((zl.alloc zj _).alloc zj _)⟩
 subst hR;rintro W ⟨qp,qc,qr,ae⟩;have Hp:=ah qp;clear qp;have Hc:=ah qc;clear qc;have Hr:=ah qr;clear qr;obtain⟨p0,p1⟩:=Hp.out.c2;obtain⟨c0,c1,c2⟩:=Hc.out.c3;obtain⟨r0,ai,r1,aj⟩:=Hr.out.g2;replace Hb:=az Hb ae;clear ae;go_wp2_with fail;refine(jU.out _ Hb.out).mono ?_;rintro e w1 ⟨rfl,ae⟩;clear p0 p1 c0 c1 c2 r0 ai r1 aj;replace Hp:=kB Hp ae;replace Hc:=kB Hc ae;replace Hr:=kB Hr ae;obtain⟨p0,p1⟩:=Hp.out.c2;obtain⟨c0,c1,c2⟩:=Hc.out.c3;obtain⟨r0,ai,r1,aj⟩:=Hr.out.g2;replace Hb:=az Hb ae;clear ae;have BV:=Hp;have yX:=Hc;have jE:=Hr;have dK:=Hb;go_wp2_with fail;go_loopw[7,8] (λs7 x wr=>∃(k:Nat) (v:Value),k<=n/\x=.int .i64 (k:Int)/\v=s7/\wr.ownsRow w1.heap.size 107 4 v k ((Q.take k).flatMap aO)/\Bw w1 wr) (λ_ x _=>n-(intOf x).toNat);case atStart=>exact⟨0,_,Nat.zero_le _,rfl,rfl,World.ownsRow_nil _ _ _ _,Below.refl _ _⟩
 case round=>
  clear p0 p1 c0 c1 c2 r0 ai r1 aj Hp Hc Hr Hb;obtain⟨k,v,hk,rfl,rfl,ho,pb⟩:=hrel;obtain⟨Hp,Hc,Hr⟩:=cX (BV.out.below pb) (yX.out.below pb) (jE.out.below pb);have dt:=aK dK.out pb;have yJ:=dK.out.size;have lc1:=yX.out.lt;have lr1:=jE.out.lt;by_cases hlt:k<n
  . have hk2:k<ts.length:=by rw[Hn.out];exact hlt
    have VP:k<Q.length:=by rw[EX.out];exact hlt
    obtain⟨l,s1,q1,e1,hx⟩:∃l s m e,ts[k]=(l,s,m,e):=⟨_,_,_,_,rfl⟩;obtain⟨b,o,rfl,cQ⟩:=(Ha.out.below dt).term k hk2 hx;have lbt:b<w.heap.size:=by obtain⟨b3,o3,h3,hw3⟩:=Ha.out.term k hk2 hx;simp only[Option.some.injEq,Addr.mk.injEq,and_true]at h3;obtain⟨rfl,rfl⟩:=h3;exact World.block_lt_of_cell? w _ (hw3.cell 0 zm)
    have bE:=jO n cap k (k:Int) (rfl:(some ⟨b,o,none⟩:Option Addr)=_) hlt rfl;have jZ:eZ (s1,q1,e1):=by have:=uD.out _ (List.getElem_mem hk2);rw[hx]at this;exact this
    obtain⟨X,hX⟩:=aB (aC (s1,q1,e1) *D);have Uz:(Q.take (k+1)).flatMap aO=(Q.take k).flatMap aO++[.string (bs l),.bool (ar (dN X)),.string (bs (nt (dN X).natAbs)),.int .i64 (dE X)]:=by
     rw[List.take_succ_eq_append_getElem VP,List.flatMap_append,HQg.out k hk2 VP,hx];show _++[Value.string (bs l),Value.bool (ar (dN (aC (s1,q1,e1) *D))),_,_]=_
     rw[hX];rfl
    have HX:Hid (aC (s1,q1,e1) *aC (s,m,e)=X):=by show _=_;rw[HD.out];exact hX
    have Ht:Hid (bB wr b (o+k*4) [.string (bs l),.bool s1,.string (bs q1),.int .i64 e1]):=cQ;obtain⟨cM,aQ,HQk,mn⟩:=dS ho pb Uz jZ;have gm:=pb.size;clear ho pb Uz jZ hX hx cQ dt;have Hb:Hid (Bw wr wr):=Below.refl _ _;obtain⟨p0,p1⟩:=Hp.out.c2;obtain⟨c0,c1,c2⟩:=Hc.out.c3;obtain⟨t0,t1,t2,t3⟩:=Ht.out.w4;go_wp2_with fail;refine bM (λw'=>w'.cell? ⟨w.heap.size,1,none⟩=some (.slice (some ⟨b,o,none⟩) n cap)/\w'.cell? ⟨w.heap.size+1,0,none⟩=some (.bool s)/\w'.cell? ⟨w.heap.size+1,1,none⟩=some (.string (bs m))/\w'.cell? ⟨w.heap.size+1,2,none⟩=some (.int .i64 e)/\w'.cell? ⟨b,o+k*4,none⟩=some (.string (bs l))/\w'.cell? ⟨b,o+k*4+1,none⟩=some (.bool s1)/\w'.cell? ⟨b,o+k*4+2,none⟩=some (.string (bs q1))/\w'.cell? ⟨b,o+k*4+3,none⟩=some (.int .i64 e1)) (λi=>Nat.blt i 100000) [(0,true),(1,true),(2,true),(3,true),(4,true),(5,true),(6,true),(7,true),(8,true),(9,true),(10,true),(11,true),(12,true),(13,true),(14,false),(15,true),(16,false),(17,false),(18,true)] zk zk rfl zk zc ⟨p1,c0,c1,c2,t0,t1,t2,t3⟩ ?_;iterate 14 (refine pT rfl rfl ?_ (by intro w' ⟨q0,q1,q2,q3,q4,q5,q6,q7⟩;go_simp;try with_reducible rfl);try simp only[UU])
    refine aI rfl rfl (λK hK=>?_);go_simp;with_reducible refine(YX s1 q1 e1 s m e X HX.out _ mn.out iT.out).mono ?_
    rintro e w4 ⟨rfl,hq⟩;have ae:Bw wr w4:=by first|exact hq|exact aV hq
    clear p0 p1 c0 c1 c2 t0 t1 t2 t3;replace Hp:=kB Hp ae;replace Hc:=kB Hc ae;replace Ht:=kW Ht ae;obtain⟨p0,p1⟩:=Hp.out.c2;obtain⟨c0,c1,c2⟩:=Hc.out.c3;obtain⟨t0,t1,t2,t3⟩:=Ht.out.w4;replace Hb:=az Hb ae;clear ae;refine hK _ _ (λ_=>⟨p1,c0,c1,c2,t0,t1,t2,t3⟩) ?_;clear hK K;try simp only[UU]
    refine pT rfl rfl ?_;try simp only[UU]
    refine aI rfl rfl (λK hK=>?_);go_simp;refine hK _ _ (λ_=>⟨aJ p1,aJ c0,aJ c1,aJ c2,aJ t0,aJ t1,aJ t2,aJ t3⟩) ?_;clear hK K;try simp only[UU]
    refine bO (λW5=>ak W5 (w4.heap.size) 107 [.string (bs l),.bool (ar (dN X)),.string (bs (nt (dN X).natAbs)),.int .i64 (dE X)]/\Bw w4 W5) (by first|exact dU|exact dV) ?_;rintro W5 ⟨qd,ae⟩;clear p0 p1 c0 c1 c2 t0 t1 t2 t3;have apN:=Hp.out.lt;have apn:=Hc.out.lt;replace Hp:=kB Hp ae;replace Hc:=kB Hc ae;replace Ht:=kW Ht ae;have Hd:=ah qd;clear qd;obtain⟨p0,p1⟩:=Hp.out.c2;obtain⟨c0,c1,c2⟩:=Hc.out.c3;obtain⟨t0,t1,t2,t3⟩:=Ht.out.w4;obtain⟨d0,d1,d2,d3⟩:=Hd.out.c4;replace Hb:=az Hb ae;clear ae;refine aI rfl rfl (λK hK=>?_);have eD:=ownsRow_below cM.out Hb.out;have hs3:=Hb.out.size;refine wp_append_own _ _ _ 55 rfl w1.heap.size 107 i0 _ 4 48 Tryz.underlying55 Hi.out cN.out cO.out cH.out rfl zd v k ((Q.take k).flatMap aO) rfl eD ⟨w4.heap.size,0,none⟩ 1 1 [.string (bs l),.bool (ar (dN X)),.string (bs (nt (dN X).natAbs)),.int .i64 (dE X)] rfl rfl (fX Hd.out) zy zx zo zo ?_;intro v' w8 dW bz _;have nb:∀b,b<w1.heap.size->some b≠v.ownBlock:=λb hb e=>by have:=cZ eD b e.symm;omega
    refine hK _ _ (λ_=>⟨bY bz p1 (nb _ zp),bY bz c0 (nb _ zp),bY bz c1 (nb _ zp),bY bz c2 (nb _ zp),bY bz t0 (nb _ zp),bY bz t1 (nb _ zp),bY bz t2 (nb _ zp),bY bz t3 (nb _ zp)⟩) ?_;clear hK K;try simp only[UU]
    have fR:=(aK aQ.out Hb.out).grown bz zo (λj e=>cZ eD j e);rw[<-HQk.out]at dW;obtain⟨ia,iE⟩:=aM fR dW;refine pT rfl rfl ?_;try simp only[UU]
    simp only[aZ];clear nb eD dW bz fR p0 p1 c0 c1 c2 t0 t1 t2 t3 d0 d1 d2 d3;go_wp2;go_roundw;case rel=>exact⟨k+1,v',by omega,by go_num,rfl,iE.out,ia.out⟩
    case measure=>simp[intOf];omega
  . obtain rfl:k=n:=by omega
    have htk:Q.take k=Q:=List.take_of_length_le (by rw[EX.out];exact Nat.le_refl _);rw[htk]at ho;obtain⟨a2,c2,rfl,hat,_⟩:=dG ho;have fx:=ah hat;have Hb:Hid (Bw w wr):=dt;have abA:=ah (wP.out wr a2 c2 hat);clear ho pb dt htk hat Hc;obtain⟨p0,p1⟩:=Hp.out.c2;obtain⟨r0,ai,r1,aj⟩:=Hr.out.g2;go_wp2_with fail;refine(abA.out).mono ?_;rintro e w6 ⟨a9,d9,rfl,vC,ae⟩;clear p0 p1 r0 ai r1 aj;replace Hp:=kB Hp ae;replace Hr:=kB Hr ae;obtain⟨p0,p1⟩:=Hp.out.c2;obtain⟨r0,ai,r1,aj⟩:=Hr.out.g2;replace Hb:=az Hb ae;clear ae;have Hp9:=ah vC;clear vC;go_wp2;have h9:=Hp9.out.store Hr.out zd (.int .i64 (V:Int)) (.slice a9 C.length d9);refine fy (λw9=>bR w9 a9 d9 C/\ak w9 (w.heap.size+1+1) 57 [.int .i64 (V:Int),.slice a9 C.length d9]/\Bw w w9) ⟨h9,(Hr.out.set 0 _).set 1 _,(Hb.out.setCell zp _).setCell zp _⟩ ?_;rintro w9 ⟨q1,q2,q3⟩;obtain⟨x0,x1⟩:=q2.c2;exact bodyPost_ret (v:=.tuple #[.agg #[.int .i64 (V:Int),.slice a9 C.length d9],.int .i64 0]) (by simp[results,Tryz.results43,go_sem,x0,x1]) rfl ⟨_,_,rfl,q1,q3⟩
theorem alH (ts:List aL)(a a':Option Addr)(n cap cap':Nat)(w:World)(hn:ts.length=n)(hl:n<=65536)(ha:At w a (ts.flatMap aO))(ha':At w a' (ts.flatMap aO)):
 Calls Tryz.prog 64 #[.slice a n cap,.slice a' n cap'] w λe w'=>e=.returned (.bool true)/\Bw w w':=by
 obtain⟨Ha,oO,Hn⟩:=cX ha ha' hn;clear ha ha' hn;have Hb:Hid (Bw w w):=Below.refl _ _;go_enter Tryz.func64,Tryz.ntmps64;go_wp2_with fail;go_loopw[5] (λx wr=>∃k:Nat,k<=n/\x=.int .i64 (k:Int)/\Bw w wr) (λx _=>n-(intOf x).toNat);case atStart=>exact⟨0,Nat.zero_le _,rfl,Hb.out⟩
 case round=>
  clear Hb;obtain⟨k,hk,rfl,pb⟩:=hrel;by_cases hlt:k<n
  . have hk2:k<ts.length:=by rw[Hn.out];exact hlt
    obtain⟨l,s,m,e,hx⟩:∃l s m e,ts[k]=(l,s,m,e):=⟨_,_,_,_,rfl⟩;obtain⟨b,o,rfl,cQ⟩:=(Ha.out.below pb).term k hk2 hx;obtain⟨b',o',rfl,rZ⟩:=(oO.out.below pb).term k hk2 hx;have bE:=jO n cap k (k:Int) (rfl:(some ⟨b,o,none⟩:Option Addr)=_) hlt rfl;have VJ:=jO n cap' k (k:Int) (rfl:(some ⟨b',o',none⟩:Option Addr)=_) hlt rfl;have Hx:Hid (bB wr b (o+k*4) [.string (bs l),.bool s,.string (bs m),.int .i64 e]):=cQ;have Hy:Hid (bB wr b' (o'+k*4) [.string (bs l),.bool s,.string (bs m),.int .i64 e]):=rZ;have aQ:=ah pb;clear pb cQ rZ hx;have Hb:Hid (Bw wr wr):=Below.refl _ _;obtain⟨x0,x1,x2,x3⟩:=Hx.out.w4;obtain⟨y0,y1,y2,y3⟩:=Hy.out.w4;go_wp2_with fail;refine bM (λw'=>w'.cell? ⟨b,o+k*4,none⟩=some (.string (bs l))/\w'.cell? ⟨b,o+k*4+1,none⟩=some (.bool s)/\w'.cell? ⟨b,o+k*4+2,none⟩=some (.string (bs m))/\w'.cell? ⟨b,o+k*4+3,none⟩=some (.int .i64 e)/\w'.cell? ⟨b',o'+k*4,none⟩=some (.string (bs l))/\w'.cell? ⟨b',o'+k*4+1,none⟩=some (.bool s)/\w'.cell? ⟨b',o'+k*4+2,none⟩=some (.string (bs m))/\w'.cell? ⟨b',o'+k*4+3,none⟩=some (.int .i64 e)) (λi=>Nat.blt i 100000) [(0,true),(1,true),(2,true),(3,true),(4,true),(5,true),(6,true),(7,true),(8,true)] zk zk rfl zk zc ⟨x0,x1,x2,x3,y0,y1,y2,y3⟩ ?_;iterate 9 (refine pT rfl rfl ?_ (by intro w' ⟨q0,q1,q2,q3,q4,q5,q6,q7⟩;go_simp;try with_reducible rfl);try simp only[UU])
    simp only[aZ];go_wp2;go_roundw;case rel=>exact⟨k+1,by omega,by go_num,aQ.out.drew⟩
    case measure=>simp[intOf];omega
  . obtain rfl:k=n:=by omega
    have aQ:=ah pb;go_wp2;refine bodyPost_ret (results_tmp rfl _ _ _) rfl ⟨rfl,aQ.out⟩
theorem YS (V:Int)(ts:List aL)(a a':Option Addr)(cap cap':Nat)(w:World)(hl:ts.length<=65536)(ha:At w a (ts.flatMap aO))(ha':At w a' (ts.flatMap aO)):
 Calls Tryz.prog 25 #[.agg #[.int .i64 V,.slice a ts.length cap],.agg #[.int .i64 V,.slice a' ts.length cap']] w λe w'=>e=.returned (.bool true)/\Bw w w':=by
 obtain⟨n,hn⟩:=aB ts.length;have h1:=λW (hW:Bw w W)=>alH ts a a' n cap cap' W hn zo (ha.below hW) (ha'.below hW);rw[hn];have H1:=ah h1;clear h1 ha ha' hn hl;have Hb:Hid (Bw w w):=Below.refl _ _;go_enter Tryz.func25,Tryz.ntmps25;go_wp2_with fail;obtain⟨R,hR⟩:∃R:World->Prop,(λW=>ak W (w.heap.size) 57 [.int .i64 V,.slice a n cap]/\ak W (w.heap.size+1) 57 [.int .i64 V,.slice a' n cap']/\Bw w W)=R:=⟨_,rfl⟩;first|refine bN R ?hR ?_|refine bL R ?hR ?_
 case hR=>subst hR;exact⟨((ak.newAt w _ _ (b:=w.heap.size) rfl).alloc _),(ak.newAt (w.alloc _) _ _ (b:=w.heap.size+1) zm),(zl.alloc zj _)⟩
 subst hR;rintro W ⟨qp,qq,ae⟩;have Hp:=ah qp;clear qp;have Hq:=ah qq;clear qq;obtain⟨p0,p1⟩:=Hp.out.c2;obtain⟨q0,q1⟩:=Hq.out.c2;replace Hb:=az Hb ae;clear ae;go_wp2_with fail;refine(H1.out _ Hb.out).mono ?_;rintro e w1 ⟨rfl,ae⟩;clear p0 p1 q0 q1;replace Hp:=kB Hp ae;replace Hq:=kB Hq ae;obtain⟨p0,p1⟩:=Hp.out.c2;obtain⟨q0,q1⟩:=Hq.out.c2;replace Hb:=az Hb ae;clear ae;go_wp2;go_ret;exact⟨rfl,Hb.out⟩
theorem At.pre {w:World}{a:Option Addr}{xs ys:List Value}(h:At w a (xs++ys)):At w a xs:=by
 rcases h with h|⟨b,o,rfl,hc⟩
 . exact .inl (List.append_eq_nil_iff.1 h).1
 . by_cases h0:xs=[]
   . exact .inl h0
   . refine .inr ⟨b,o,rfl,λj hj=>?_⟩;rw[hc j (by rw[List.length_append];omega),List.getElem?_append_left hj]
theorem yx (x:List Raw):(x.flatMap bA).length=x.length*3:=jW bA 3 (λ_=>rfl) x
theorem aj9 (x:List Raw)(k:Nat)(hk:k<=x.length):(x.drop k).flatMap bA=(x.flatMap bA).drop (k*3):=by
 have e0:x.flatMap bA=(x.take k).flatMap bA++(x.drop k).flatMap bA:=by rw[<-List.flatMap_append,List.take_append_drop]
 have e1:((x.take k).flatMap bA).length=k*3:=by rw[yx,List.length_take,Nat.min_eq_left hk]
 rw[e0,<-e1,List.drop_left]
theorem At.arh {w:World}{a:Option Addr}{x:List Raw}(h:At w a (x.flatMap bA))(k:Nat):At w a ((x.take k).flatMap bA):=by
 have e0:x.flatMap bA=(x.take k).flatMap bA++(x.drop k).flatMap bA:=by rw[<-List.flatMap_append,List.take_append_drop]
 rw[e0]at h;exact h.pre
theorem At.aq9 {w:World}{a:Option Addr}{x:List Raw}{n cap:Nat}(h:At w a (x.flatMap bA))(k:Nat)(hn:x.length=n)(hk:k<=n)(hc:n<=cap):At w (if cap=k then a else a.map (·.add (k*3))) ((x.drop k).flatMap bA):=by rw[aj9 x k zo];exact At.cut (size:=3) (n:=n) h (by rw[yx,hn]) hk hc
theorem af5 {B:Nat}{R:List (List Dyadic)}{n:Nat}(hL:R.length=n)(hrow:∀x∈R,x.length=n)(hsm:∀x∈R,∀d∈x,Sm B d)(i j:Nat)(hi:i<n)(hj:j<n):Sm B (bG R i j):=by
 have hk:i<R.length:=by omega
 have hk2:j<R[i].length:=by rw[hrow _ (List.getElem_mem hk)];exact hj
 have e:bG R i j=R[i][j]:=by unfold bG;simp[List.getD_eq_getElem?_getD,hk,hk2]
 rw[e];exact hsm _ (List.getElem_mem hk) _ (List.getElem_mem hk2)
theorem af3 {R:List (List Dyadic)}(i j:Nat)(hi:i<R.length)(hj:j<R[i].length):bG R i j=R[i][j]:=by unfold bG;simp[List.getD_eq_getElem?_getD,hi,hj]
theorem alx {B m:Nat}{e:Nat->Nat->Dyadic}(hm:m+1<=4)(h:∀i j,i<m+1->j<m+1->Sm B (e i j))(k:Nat):k<=m+1->Sm (5*B+6+k) (lT (cm m) e k):=by
 induction k with
 |zero=>intro _;exact Sm.zero _
 | succ k ih=>
   intro hk;have h1:=ih zo;have h2:Sm (4*B+6) (cm m (fS e 0 k)):=zO zo (λa b ha hb=>h _ _ (by split<;>omega) (by split<;>omega));have h3:Sm (5*B+6+k) (e 0 k*cm m (fS e 0 k)):=(Sm.mul (h 0 k zo zo) h2).mono zo;rw[lT];split
   . exact Sm.add h1 h3.neg
   . exact Sm.add h1 h3
theorem kC.ara {w:World}{a:Option Addr}{R:List (List Dyadic)}{n:Nat}(h:kC w a (R.map λx=>x.map canon))(hL:R.length=n)(hrow:∀x∈R,x.length=n)(i:Nat)(hi:i<n):
 ∃b o b1 o1 c1,∃x:List Raw,a=some ⟨b,o,none⟩/\(R.getD i []).map canon=x/\x.length=n/\w.cell? ⟨b,o+i,none⟩=some (.slice (some ⟨b1,o1,none⟩) n c1)/\At w (some ⟨b1,o1,none⟩) (x.flatMap bA)/\n<=c1:=by
 have hk:i<R.length:=by omega
 obtain⟨b,o,a1,c1,h1,h2,h3,h4⟩:=h.row i (by simp[hk]);have e1:(R.map λx=>x.map canon)[i]'(by simp[hk])=R[i].map canon:=by simp
 have hxl:=hrow _ (List.getElem_mem hk);rw[e1]at h2 h3 h4;rw[List.length_map,hxl]at h2 h4;rcases h3 with h3|⟨b1,o1,rfl,h3⟩
 . have:=congrArg List.length h3;rw[yx,List.length_map,hxl]at this;simp at this;omega
 . exact⟨b,o,b1,o1,c1,_,h1,rfl,by simp[List.getD_eq_getElem?_getD,hk,hxl],h2,by simp only[List.getD_eq_getElem?_getD,List.getElem?_eq_getElem hk,Option.getD_some];exact .inr ⟨b1,o1,rfl,h3⟩,h4.1⟩
theorem ajy (R:List (List Dyadic))(k m:Nat)(hL:R.length=m+1)(j:Nat)(hj:j<m):((ig R 0 k).map λx=>x.map canon).getD j []=((R.getD (j+1) []).map canon).take k++((R.getD (j+1) []).map canon).drop (k+1):=by
 have h:=Ol R 0 k m hL zo j hj;rw[if_neg zo]at h;have hl:j<(ig R 0 k).length:=by rw[Ef R 0 k m hL zo];exact hj
 have h2:(ig R 0 k)[j]=(R.getD (j+1) []).eraseIdx k:=by rw[<-h];simp[List.getD_eq_getElem?_getD,hl]
 rw[<-List.eraseIdx_eq_take_drop_succ,TB,<-h2];simp[List.getD_eq_getElem?_getD,hl]
theorem ald (n:Nat):n<=4->∀(a:Option Addr) (cap B:Nat) (R:List (List Dyadic)) (w:World),R.length=n->(∀x∈R,x.length=n)->(∀x∈R,∀d∈x,Sm B d)->B<=2000->kC w a (R.map λx=>x.map canon)->Sl a n cap->
 Calls Tryz.prog 52 #[.slice a n cap] w λe w'=>e=.returned (bH (cm n (bG R)))/\Bw w w':=by
 induction n with
 | zero=>
   intro _ a cap B R w _ _ _ _ _ _;obtain⟨D,hD⟩:∃D:Dyadic,Dyadic.ofIntWithPrec 1 0=D:=⟨_,rfl⟩;have TZ:cm 0 (bG R)=D:=by rw[<-hD];rfl
   have hof:∀W,Calls Tryz.prog 62 #[.int .i64 1] W λe w'=>e=.returned (bH D)/\Bw W w':=λW=>Pg 1 D hD W zd;rw[TZ];have oV:=ah hof;clear hof hD TZ;obtain⟨W,dw,Hb,Hr⟩:=iP w 30 [.bool false,.string ⟨#[]⟩,.int .i64 0];obtain⟨r0,ai,r1,aj,r2,aG⟩:=Hr.out.g3;go_enter Tryz.func52,Tryz.ntmps52;go_wp2_with fail;refine(oV.out _).mono ?_;rintro e w1 ⟨rfl,ae⟩;clear r0 ai r1 aj r2 aG;replace Hr:=kB Hr ae;obtain⟨r0,ai,r1,aj,r2,aG⟩:=Hr.out.g3;replace Hb:=az Hb ae;clear ae;go_wp2;clear r0 ai r1 aj r2 aG;refine fy (bK w1 (w.heap.size) 0 [.bool (ar (dN D)),.string (bs (nt (dN D).natAbs)),.int .i64 (dE D)]) bV ?_;intro w9 hs;replace Hr:=cF Hr hs;obtain⟨r0,ai,r1,aj,r2,aG⟩:=Hr.out.g3;replace Hb:=bS Hb hs ZS;clear hs;refine bodyPost_ret (v:=bH D) (by simp[results,Tryz.results52,go_sem,r0,r1,r2]) rfl ⟨rfl,Hb.out⟩
 | succ m ih=>
   intro hm a cap B R w hL hrow hsm hB ha hsl;obtain⟨i0,hi,hz0,hz1,hz2⟩:=info_parts Tryz.aqU;obtain⟨j0,hj,hy0,hy1,hy2⟩:=info_parts Tryz.aqY;have hG:cm (m+1) (bG R)=lT (cm m) (bG R) (m+1):=by rw[<-YN (m+1) hm,<-(funext (λe=>YN m zo e):mO m=cm m)];rfl
   have hent:=af5 hL hrow hsm;have Gy:=alx (B:=B) (e:=bG R) hm hent;have Md:lT (cm m) (bG R) 0=0:=rfl;have Mf:∀k,lT (cm m) (bG R) (k+1)=lT (cm m) (bG R) k+(if k%2=1 then-(bG R 0 k*cm m (fS (bG R) 0 k))else bG R 0 k*cm m (fS (bG R) 0 k)):=λk=>rfl;have hV:∀k,k<m+1->Sm (4*B+6) (cm m (fS (bG R) 0 k)):=λk hk=>zO zo (λa b ha hb=>hent _ _ (by split<;>omega) (by split<;>omega));have nz:=λk (hk:k<m+1) a' c' W (h1:kC W a' ((ig R 0 k).map λx=>x.map canon)) (h2:Sl a' m c')=>ih zo a' c' B (ig R 0 k) W (Ef R 0 k m hL zo) (Om R 0 k m hrow zo) (XW hsm 0 k) hB h1 h2;have MK:=λk (hk:k<m+1)=>XV R 0 k m hL hrow zo zo zo;have mK:=λW (hW:Bw w W) i (hi:i<m+1)=>(ha.below hW).ara hL hrow i hi;have hmr:=λk j (hj:j<m)=>ajy R k m hL j hj;have vA:=λk=>Ef R 0 k m hL zo;have kN:∀k (hk:k<m+1) (x:List Raw),(R.getD 0 []).map canon=x->∀(h:k<x.length),x[k]=canon (bG R 0 k):=by
    rintro k hk x rfl h;have h0:0<R.length:=by omega
    have hk2:k<R[0].length:=by rw[hrow _ (List.getElem_mem h0)];exact hk
    rw[af3 0 k h0 hk2];simp[List.getD_eq_getElem?_getD,h0]
   have hU:∀k,k<m+1->Sm B (bG R 0 k):=λk hk=>hent 0 k zo hk;rw[hG];obtain⟨G,Me⟩:=aB (lT (cm m) (bG R));obtain⟨U,CX⟩:=aB (bG R 0);obtain⟨V,CY⟩:∃V:Nat->Dyadic,(λk=>cm m (fS (bG R) 0 k))=V:=⟨_,rfl⟩;have CZ:∀k,cm m (fS (bG R) 0 k)=V k:=λk=>by rw[<-CY]
   simp only[CZ,CX,Me]at Gy Md Mf hV MK kN hU;rw[Me];have ML:∀k,k<m+1->∀a' c' W,kC W a' ((ig R 0 k).map λx=>x.map canon)->Sl a' m c'->Calls Tryz.prog 52 #[.slice a' m c'] W λe w'=>e=.returned (bH (V k))/\Bw W w':=λk hk a' c' W h1 h2=>by have h:=nz k hk a' c' W h1 h2;rwa [MK k hk]at h
   clear nz MK hent hG CZ CY CX Me ih ha hsm hrow;obtain⟨N,hN⟩:=aB (m+1);rw[hN]at hsl Gy hV mK kN hU ML⊢;have hcap:=hsl.1;have hN4:N<=4:=by omega
   have hNp:1<=N:=by omega
   obtain⟨Hi,cN,cO,cH,Hj,ir,jd,je,HGm,HG0,HGs,HV⟩:=gh hi hz0 hz1 hz2 hj hy0 hy1 hy2 Gy Md Mf hV;obtain⟨HU,Hdt,uG,Hmr,Hml,Hr0,HN⟩:=oH hU ML mK hmr vA kN hN;have hmN:m<N:=by omega
   clear hi hz0 hz1 hz2 hj hy0 hy1 hy2 Gy Md Mf hV hU ML mK hmr vA kN hN hL hsl;have hN0:((N:Int)==0)=false:=by simp;omega
   have hN1:¬N=0:=by omega
   obtain⟨W,dw,Hb,Hr,Hs⟩:=pW w 30 [.bool false,.string ⟨#[]⟩,.int .i64 0] 30 [.bool false,.string ⟨#[]⟩,.int .i64 0];obtain⟨r0,ai,r1,aj,r2,aG⟩:=Hr.out.g3;obtain⟨s0,bW,s1,bX,s2,cJ⟩:=Hs.out.g3;go_enter Tryz.func52,Tryz.ntmps52;go_wp2_with fail;clear r0 ai r1 aj r2 aG s0 bW s1 bX s2 cJ;first|refine bN (bK W (w.heap.size+1) 0 [.bool false,.string ⟨#[]⟩,.int .i64 0]) bV ?_|refine bL (bK W (w.heap.size+1) 0 [.bool false,.string ⟨#[]⟩,.int .i64 0]) bV ?_
   intro w1 hs;replace Hr:=kS Hr hs zo;replace Hs:=cF Hs hs;obtain⟨r0,ai,r1,aj,r2,aG⟩:=Hr.out.g3;obtain⟨s0,bW,s1,bX,s2,cJ⟩:=Hs.out.g3;replace Hb:=bS Hb hs ZS;clear hs;have lr:=Hr.out.lt;have ls:=Hs.out.lt;go_wp2_with fail;go_loopw[4] (λi wr=>∃(k:Nat) (X:Dyadic),k<=N/\i=.int .i64 (k:Int)/\G k=X/\ak wr w.heap.size 30 [.bool false,.string ⟨#[]⟩,.int .i64 0]/\ak wr (w.heap.size+1) 30 (bA (canon X))/\Bw w wr) (λi _=>N-(intOf i).toNat);case atStart=>exact⟨0,0,Nat.zero_le _,rfl,HG0.out,Hr.out,Hs.out,Hb.out⟩
   case round=>
    clear r0 r1 r2 ai aj aG s0 s1 s2 bW bX cJ Hr Hs;obtain⟨k,X,hk,rfl,hX,pr,ps,pb⟩:=hrel;by_cases hlt:k<N
    . have Hr:=ah pr;have Hs:Hid (ak wr (w.heap.size+1) 30 [.bool (ar (dN X)),.string (bs (nt (dN X).natAbs)),.int .i64 (dE X)]):=ps;obtain⟨gL,HX⟩:=aM pb hX;have PP:=pb.size;clear pr ps pb hX Hb;obtain⟨wo,hwo⟩:∃wo,wo=wr:=⟨_,rfl⟩;subst hwo;obtain⟨S,hS⟩:=aB ((ig R 0 k).map λx=>x.map canon);have fZ:S.length=m:=by rw[<-hS,List.length_map];exact Hml.out k
      have iW:∀j,j<m->S.getD j []=((R.getD (j+1) []).map canon).take k++((R.getD (j+1) []).map canon).drop (k+1):=λj hj=>by rw[<-hS];exact Hmr.out k j hj
      have nz:=Hdt.out k hlt;rw[hS]at nz;obtain⟨Bo,mg,abk⟩:=cX fZ iW nz;clear hS fZ iW nz;have lH:(k:Int)<(N:Int):=by omega
      go_wp2_with fail;go_loopw[5,6] (λs5 x wr=>∃(i:Nat) (v:Value),1<=i/\i<=N/\x=.int .i64 (i:Int)/\v=s5/\mD 45 wr wo.heap.size S (i-1) v/\Bw wo wr) (λ_ x _=>N-(intOf x).toNat);case atStart=>exact⟨1,_,Nat.le_refl _,hNp,rfl,rfl,mD.nil _ _ _ _,Below.refl _ _⟩
      case round=>
       obtain⟨i,v,hi1,hiN,rfl,rfl,pv,pb⟩:=hrel;by_cases bj:i<N
       . obtain⟨b,o,b1,o1,c1,x,rfl,hx,hxl,hc1,hat,hnc⟩:=uG.out wr (aK gL.out pb) i bj;have bE:=tZ N cap i (i:Int) (rfl:(some ⟨b,o,none⟩:Option Addr)=_) bj rfl;rw[Nat.mul_one]at bE;obtain⟨j,hj⟩:=aB (i-1);have nC:i+1-1=j+1:=by omega
         have hjm:j<m:=by have:=HN.out;omega
         have xG:=mg.out j hjm;rw[show j+1=i by omega,hx]at xG;rw[hj]at pv;have hvl:=pv.lt;have jJ:=hat.arh k;have iK:=hat.aq9 (n:=N) (cap:=c1) (k+1) hxl zo hnc;have vt:((x.take k).flatMap bA).length=k*3:=by rw[yx,List.length_take,Nat.min_eq_left zo]
         have hl2:((x.drop (k+1)).flatMap bA).length=(N-(k+1)) *3:=by rw[yx,List.length_drop,hxl]
         have Dq:(x.take k++x.drop (k+1)).length=k+(N-(k+1)):=by rw[List.length_append,List.length_take,List.length_drop,hxl,Nat.min_eq_left zo]
         have hsc:=(Sl.some ⟨b1,o1,none⟩ N c1 hnc).cut (k:=k+1) (size:=3) zo;have hkc:k<=c1:=by omega
         have hk1:k+1<=N:=by omega
         have GX:k+1<=c1:=by omega
         have gm:=pb.size;obtain⟨dx,aQ,kZ,nP,cC,eK,mo,gM,EY,sN,jF,BO⟩:=gh pv pb jJ iK vt hl2 Dq hsc xG hc1 hvl nC;clear pv pb jJ iK vt hl2 Dq hsc xG hvl hx hxl hat nC hj;have ahg:(wr.alloc (.cells #[] 30)).cell? ⟨b,o+i,none⟩=some (.slice (some ⟨b1,o1,none⟩) N c1):=aJ hc1;go_wp2_with (at_builtin;first| (refine oN rfl _ _ 45 rfl wr.heap.size 30 i0 _ 3 32 Tryz.underlying45 Hi.out cN.out cO.out cH.out rfl zd _ 0 [] rfl (World.ownsRow_made wr #[] 0 (Nat.le_refl _) (Nat.zero_le _) zm) (some ⟨b1,o1,none⟩) k c1 ((x.take k).flatMap bA) rfl (Sl.some _ _ _ hkc) cC.out (kZ.out.below ((Below.refl _ wr).alloc (Nat.le_refl _) _)) (Az _) zx zo zm ?_;intro v1 w1 dv hg1 tN;have hb1:=((Below.refl _ wr).alloc (Nat.le_refl _) _).grown hg1 zm (λk hk=>by have h9:wr.heap.size=k:=Option.some.inj hk;omega);rw[Nat.zero_add,List.nil_append]at dv;have hc2:=cell_later hb1 sN.out;obtain⟨mz,bU⟩:=aM dv hb1;have yJ:=hb1.size;clear dv hb1 hg1 tN hc1 ahg) | (refine oN rfl _ _ 45 rfl wr.heap.size 30 i0 _ 3 32 Tryz.underlying45 Hi.out cN.out cO.out cH.out rfl zd v1 k ((x.take k).flatMap bA) rfl mz.out _ (N-(k+1)) (c1-(k+1)) ((x.drop (k+1)).flatMap bA) rfl gM.out eK.out (nP.out.below bU.out) (Az _) zx zo zo ?_;intro v2 w2 dP hg2 Nr;obtain⟨av,cv,rfl,_,_⟩:=dG dP;have hb2:=bU.out.grown hg2 zo (λj e=>cZ mz.out j e);have hq2:Pd w2 v.ownBlock (.slice av (k+(N-(k+1))) cv) (x.take k++x.drop (k+1)):=Pd.own (by rw[List.flatMap_append];exact dP) mo.out (λg hg=>(jF.out g hg).2);obtain⟨bQ,Kz⟩:=aM hb2 hq2;have um:=hb2.size;clear dP hg2 Nr hb2 hq2) | (go_loud (refine ZY rfl _ _ 78 rfl wo.heap.size 45 j0 _ Tryz.underlying78 Hj.out ir.out jd.out je.out rfl v j S rfl ((dx.out.below bQ.out).below zl) w2.heap.size 1 (.slice av (k+(N-(k+1))) cv) rfl ((ak.new w2 45 [.slice av (k+(N-(k+1))) cv]).cell 0) (by rw[EY.out];exact Kz.out.below zl) zo zi ?_);intro v3 w3 Ii hg3 Ns));have hb3:=(aK (aK aQ.out bQ.out) zl).grown hg3 zi Ns;go_roundw;case rel=>exact⟨i+1,v3,by omega,by omega,by go_num,rfl,by rw[BO.out];exact Ii,hb3⟩
         case measure=>simp[intOf];omega
       . obtain rfl:i=N:=by omega
         rw[show i-1=m by have:=HN.out;omega]at pv;obtain⟨a5,c5,rfl,DJ,vF⟩:=pv.tbl Bo.out;obtain⟨b,o,b1,o1,c1,x,rfl,hx,hxl,hc1,hat,hnc⟩:=uG.out wr (aK gL.out pb) 0 zo;have xO:k<x.length:=by rw[hxl];exact hlt
         have hxk:=Hr0.out k hlt x hx xO;obtain⟨D,hD⟩:=aB (U k);obtain⟨E,hE⟩:=aB (V k);obtain⟨Y,hY⟩:=aB (D*E);have fJ:=HU.out k hlt;have qO:=HV.out k hlt;have fA:=HGm.out k zo;have hst:=HGs.out k;have nz:=abk.out a5 c5;rw[hD]at fJ;rw[hE]at qO nz;rw[HX.out]at fA hst;rw[hD,hE,hY]at hst;rw[hD]at hxk;obtain⟨b2,o2,fg,p0,p1,p2⟩:=hat.num k xO (show x[k]=(ar (dN D),nt (dN D).natAbs,dE D)from hxk);simp only[Option.some.injEq,Addr.mk.injEq,and_true]at fg;obtain⟨rfl,rfl⟩:=fg;have zX:Sm (5*B+6) Y:=by rw[<-hY];exact(Sm.mul fJ qO).mono zo
         have bE:=tZ i cap 0 0 (rfl:(some ⟨b,o,none⟩:Option Addr)=_) zo rfl;have ov:=jC i c1 k (k:Int) (rfl:(some ⟨b1,o1,none⟩:Option Addr)=_) hlt rfl;rw[Nat.zero_mul,Nat.add_zero]at bE;rw[Nat.add_zero]at hc1;have Hu:Hid (bB wr b o [.slice (some ⟨b1,o1,none⟩) i c1]):=λj hj=>by
          obtain rfl:j=0:=by simp at hj;omega
          exact hc1
         have Hp:Hid (bB wr b1 (o1+k*3) [.bool (ar (dN D)),.string (bs (nt (dN D).natAbs)),.int .i64 (dE D)]):=iB p0 p1 p2;have Du:∀W,Calls Tryz.prog 83 #[.agg #[.bool (ar (dN D)),.string (bs (nt (dN D).natAbs)),.int .i64 (dE D)],.agg #[.bool (ar (dN E)),.string (bs (nt (dN E).natAbs)),.int .i64 (dE E)]] W λe w'=>e=.returned (bH Y)/\Bw W w':=λW=>YX _ _ _ _ _ _ Y (by show aC (canon D) *aC (canon E)=Y;rw[bP,bP];exact hY) W (fJ.aqT zo) (qO.aqT zo);have Vq:=λW (hW:Bw wr W)=>nz W (vF.below hW) DJ;obtain⟨Kk,Rb,yS,yQ,cE,aQ⟩:=gF Du Vq zX fA hst pb;have gm:=pb.size;clear Du Vq zX fA hst pb nz qO fJ hY hE hD hxk hx hxl hat hc1 p0 p1 p2 vF DJ pv xO;have Hb:Hid (Bw wr wr):=Below.refl _ _;go_upto_region 13 with fail
         go_cut[8] (λs8 wx=>∃g:Nat,s8=.pointer (some ⟨g,0,none⟩)/\wr.heap.size<=g/\ak wx g 30 [.bool (ar (dN Y)),.string (bs (nt (dN Y).natAbs)),.int .i64 (dE Y)]/\Bw wr wx);case first=>
          have u0:=Hu.out.w1;obtain⟨p0,p1,p2⟩:=Hp.out.w3;have mf:∀w',gN wr w'->w'.cell? ⟨b,o,none⟩=some (.slice (some ⟨b1,o1,none⟩) i c1)/\w'.cell? ⟨b1,o1+k*3,none⟩=some (.bool (ar (dN D)))/\w'.cell? ⟨b1,o1+k*3+1,none⟩=some (.string (bs (nt (dN D).natAbs)))/\w'.cell? ⟨b1,o1+k*3+2,none⟩=some (.int .i64 (dE D)):=λw' h=>⟨cell_later h u0,cell_later h p0,cell_later h p1,cell_later h p2⟩;have aN:Hid (gN wr wr):=Below.refl _ _;refine EM (λw'=>gN wr w') (λi=>Nat.blt i 10) (.rd 0 (.rd 1 (.rd 2 (.rd 3 (.rd 4 (.rd 5 (.rd 6 (.br 7 9 (.br 8 9 (.lin [(9,false),(10,false)]) (.lin [(8,false),(10,false)])) (.lin [(7,false),(8,false),(10,false)]))))))))) zk zk rfl zk zc aN.out.drew ?_;iterate 7 (refine Ep rfl rfl (v:=?_) (λw' hw'=>?_) ?_;rotate_left;(focus have hw':=mf w' hw';obtain⟨q0,q1,q2,q3⟩:=hw';go_simp;try with_reducible rfl);try simp only[UU])
          clear u0 p0 p1 p2 Hu Hp mf;refine uh rfl rfl rfl rfl rfl rfl  (λK hK=>?_) (λK hK=>?_) 
          . go_simp;with_reducible refine(Rb.out _ (by first|exact Hb.out|exact Hb.out.drew)).mono ?_
            rintro e w7 ⟨rfl,hq⟩;have ae:Bw wr w7:=by first|exact hq|exact aV hq
            replace aN:=ah (aN.out.below ae);replace Hb:=az Hb ae;clear ae;refine hK _ _ (λ_=>aN.out) ?_;clear hK K;try simp only[UU]
            refine uh rfl rfl rfl rfl rfl rfl  (λK hK=>?_) (λK hK=>?_) 
            . go_simp;with_reducible refine(Kk.out _).mono ?_
              rintro e w8 ⟨rfl,hq⟩;have ae:Bw w7 w8:=by first|exact hq|exact aV hq
              replace aN:=ah (aN.out.below ae);replace Hb:=az Hb ae;clear ae;refine hK _ _ (λ_=>aN.out) ?_;clear hK K;try simp only[UU]
              refine nK ?_;refine aI rfl rfl (λK hK=>?_);go_simp;have Ee:=Hb.out.size;refine hK _ _ (λ_=>by first|exact aN.out.alloc _|exact(aN.out.alloc _).drew|exact(aN.out.drew).alloc _) ?_;clear hK K;try simp only[UU]
              refine bO (λW9=>ak W9 (w8.heap.size) 30 [.bool false,.string ⟨#[]⟩,.int .i64 0]/\Bw w8 W9) (by first|exact dU|exact dV) ?_;rintro W9 ⟨qz,ae⟩;replace aN:=ah (aN.out.below ae);have Hz:=ah qz;clear qz;obtain⟨z0,jg,z1,iI,z2,nV⟩:=Hz.out.g3;replace Hb:=az Hb ae;clear ae;refine aI rfl rfl (λK hK=>?_);go_simp;refine hK _ _ (by first|exact λh=>absurd h zd|exact λ_=>aN.out|exact λ_=>(by first|exact aN.out.setCell zp _|exact(aN.out.setCell zp _).setCell zp _|exact((aN.out.setCell zp _).setCell zp _).setCell zp _)) ?_;clear hK K;try simp only[UU]
              simp only[aZ];go_wp2_with fail;go_meet;exact⟨_,rfl,by omega,((Hz.out.set 0 _).set 1 _).set 2 _,((Hb.out.setCell zp _).setCell zp _).setCell zp _⟩
            . go_simp;have Ee:=Hb.out.size;refine hK _ _ (λ_=>by first|exact aN.out.alloc _|exact(aN.out.alloc _).drew|exact(aN.out.drew).alloc _) ?_;clear hK K;try simp only[UU]
              refine IU (λW9=>ak W9 (w7.heap.size) 30 [.bool false,.string ⟨#[]⟩,.int .i64 0]/\Bw w7 W9) (by first|exact dU|exact dV) ?_;rintro W9 ⟨qz,ae⟩;replace aN:=ah (aN.out.below ae);have Hz:=ah qz;clear qz;obtain⟨z0,jg,z1,iI,z2,nV⟩:=Hz.out.g3;replace Hb:=az Hb ae;clear ae;refine nK ?_;refine aI rfl rfl (λK hK=>?_);go_simp;with_reducible refine(Kk.out _).mono ?_
              rintro e w8 ⟨rfl,hq⟩;have ae:Bw W9 w8:=by first|exact hq|exact aV hq
              clear z0 jg z1 iI z2 nV;replace aN:=ah (aN.out.below ae);replace Hz:=kB Hz ae;obtain⟨z0,jg,z1,iI,z2,nV⟩:=Hz.out.g3;replace Hb:=az Hb ae;clear ae;refine hK _ _ (λ_=>aN.out) ?_;clear hK K;try simp only[UU]
              refine aI rfl rfl (λK hK=>?_);go_simp;refine hK _ _ (by first|exact λh=>absurd h zd|exact λ_=>aN.out|exact λ_=>(by first|exact aN.out.setCell zp _|exact(aN.out.setCell zp _).setCell zp _|exact((aN.out.setCell zp _).setCell zp _).setCell zp _)) ?_;clear hK K;try simp only[UU]
              simp only[aZ];go_wp2_with fail;go_meet;exact⟨_,rfl,by omega,((Hz.out.set 0 _).set 1 _).set 2 _,((Hb.out.setCell zp _).setCell zp _).setCell zp _⟩
          . go_simp;have Ee:=Hb.out.size;refine hK _ _ (λ_=>by first|exact aN.out.alloc _|exact(aN.out.alloc _).drew|exact(aN.out.drew).alloc _) ?_;clear hK K;try simp only[UU]
            refine IU (λW9=>ak W9 (wr.heap.size) 30 [.bool false,.string ⟨#[]⟩,.int .i64 0]/\Bw wr W9) (by first|exact dU|exact dV) ?_;rintro W9 ⟨qz,ae⟩;replace aN:=ah (aN.out.below ae);have Hz:=ah qz;clear qz;obtain⟨z0,jg,z1,iI,z2,nV⟩:=Hz.out.g3;replace Hb:=az Hb ae;clear ae;refine nK ?_;refine aI rfl rfl (λK hK=>?_);go_simp;with_reducible refine(Rb.out _ (by first|exact Hb.out|exact Hb.out.drew)).mono ?_
            rintro e w7 ⟨rfl,hq⟩;have ae:Bw W9 w7:=by first|exact hq|exact aV hq
            clear z0 jg z1 iI z2 nV;replace aN:=ah (aN.out.below ae);replace Hz:=kB Hz ae;obtain⟨z0,jg,z1,iI,z2,nV⟩:=Hz.out.g3;replace Hb:=az Hb ae;clear ae;refine hK _ _ (λ_=>aN.out) ?_;clear hK K;try simp only[UU]
            refine aI rfl rfl (λK hK=>?_);go_simp;with_reducible refine(Kk.out _).mono ?_
            rintro e w8 ⟨rfl,hq⟩;have ae:Bw w7 w8:=by first|exact hq|exact aV hq
            clear z0 jg z1 iI z2 nV;replace aN:=ah (aN.out.below ae);replace Hz:=kB Hz ae;obtain⟨z0,jg,z1,iI,z2,nV⟩:=Hz.out.g3;replace Hb:=az Hb ae;clear ae;refine hK _ _ (λ_=>aN.out) ?_;clear hK K;try simp only[UU]
            refine aI rfl rfl (λK hK=>?_);go_simp;refine hK _ _ (by first|exact λh=>absurd h zd|exact λ_=>aN.out|exact λ_=>(by first|exact aN.out.setCell zp _|exact(aN.out.setCell zp _).setCell zp _|exact((aN.out.setCell zp _).setCell zp _).setCell zp _)) ?_;clear hK K;try simp only[UU]
            simp only[aZ];go_wp2_with fail;go_meet;exact⟨_,rfl,by omega,((Hz.out.set 0 _).set 1 _).set 2 _,((Hb.out.setCell zp _).setCell zp _).setCell zp _⟩
         case rest=>
          obtain⟨g,rfl,hg,qd,qb⟩:=hcut;have dt:=aK aQ.out qb;obtain⟨wU,mB⟩:=aM (Hr.out.below dt) (Hs.out.below dt);have lr2:=Hr.out.lt;have XI:=Hs.out.lt;have lg:=qd.lt;obtain⟨wH,uA⟩:=aM (aK gL.out dt) qd;clear qd qb dt Hb Hu Hp;obtain⟨Z,hZ⟩:=aB (if k%2=1 then-Y else Y);obtain⟨X2,rS⟩:=aB (X+Z);have hst:=cE.out;rw[hZ,rS]at hst;have ny:Sm (5*B+6) Z:=by rw[<-hZ];split;exact yS.out.neg;exact yS.out
          have hpl:∀W,Calls Tryz.prog 54 #[.agg #[.bool (ar (dN X)),.string (bs (nt (dN X).natAbs)),.int .i64 (dE X)],.agg #[.bool (ar (dN Z)),.string (bs (nt (dN Z).natAbs)),.int .i64 (dE Z)]] W λe w'=>e=.returned (bH X2)/\Bw W w':=λW=>Ph _ _ _ _ _ _ X2 (by show aC (canon X)+aC (canon Z)=X2;rw[bP,bP];exact rS) W (yQ.out.aqT zo) (ny.aqT zo);have Dw:k%2=1->∀W,Calls Tryz.prog 65 #[.agg #[.bool (ar (dN Y)),.string (bs (nt (dN Y).natAbs)),.int .i64 (dE Y)]] W λe w'=>e=.returned (bH Z)/\Bw W w':=λh W=>Pe _ _ _ Z (by show-aC (canon Y)=Z;rw[bP,<-hZ,if_pos h]) W (yS.out.aqT zo);have MB:¬k%2=1->Y=Z:=λh=>by rw[<-hZ,if_neg h]
          obtain⟨Ce,ll,Kn⟩:=cX hst hpl Dw;clear hst hpl Dw ny rS hZ;have Hb:=wH;have Hr:=wU;have Hs:=mB;have Hd:=uA;have hk4:k<=4:=by omega
          obtain⟨r0,r1,r2⟩:=Hr.out.c3;obtain⟨s0,bW,s1,bX,s2,cJ⟩:=Hs.out.g3;obtain⟨d0,pz,d1,pC,d2,pD⟩:=Hd.out.g3;by_cases hp:k%2=1
          case neg=>
           obtain rfl:=MB hp;clear MB;have hkb:((k:Int)%2==1)=false:=by simp;omega
           go_wp2_with fail;refine(ll.out _).mono ?_;rintro e w7 ⟨rfl,ae⟩;clear r0 r1 r2 s0 bW s1 bX s2 cJ d0 pz d1 pC d2 pD;replace Hr:=kB Hr ae;replace Hs:=kB Hs ae;replace Hd:=kB Hd ae;obtain⟨r0,r1,r2⟩:=Hr.out.c3;obtain⟨s0,bW,s1,bX,s2,cJ⟩:=Hs.out.g3;obtain⟨d0,pz,d1,pC,d2,pD⟩:=Hd.out.g3;replace Hb:=az Hb ae;clear ae;go_wp2;go_roundw;case rel=>exact⟨k+1,X2,by omega,by go_num,Ce.out,(((Hr.out.so (w.heap.size+1) 0 zo _).so (w.heap.size+1) 1 zo _).so (w.heap.size+1) 2 zo _),((Hs.out.set 0 _).set 1 _).set 2 _,(((Hb.out.sc (w.heap.size+1) 0 ZS _).sc (w.heap.size+1) 1 ZS _).sc (w.heap.size+1) 2 ZS _)⟩
           case measure=>simp[intOf];omega
          clear MB;have hkb:((k:Int)%2==1)=true:=by simp;omega
          go_wp2_with fail;refine(Kn.out hp _).mono ?_;rintro e w7 ⟨rfl,ae⟩;clear r0 r1 r2 s0 bW s1 bX s2 cJ d0 pz d1 pC d2 pD;replace Hr:=kB Hr ae;replace Hs:=kB Hs ae;replace Hd:=kB Hd ae;obtain⟨r0,r1,r2⟩:=Hr.out.c3;obtain⟨s0,bW,s1,bX,s2,cJ⟩:=Hs.out.g3;obtain⟨d0,pz,d1,pC,d2,pD⟩:=Hd.out.g3;replace Hb:=az Hb ae;clear ae;go_wp2_with fail;clear r0 r1 r2 s0 bW s1 bX s2 cJ d0 pz d1 pC d2 pD;first|refine bN (bK w7 (g) 0 [.bool (ar (dN Z)),.string (bs (nt (dN Z).natAbs)),.int .i64 (dE Z)]) bV ?_|refine bL (bK w7 (g) 0 [.bool (ar (dN Z)),.string (bs (nt (dN Z).natAbs)),.int .i64 (dE Z)]) bV ?_
          intro W8 hs;replace Hr:=kS Hr hs zo;replace Hs:=kS Hs hs zo;replace Hd:=cF Hd hs;obtain⟨r0,r1,r2⟩:=Hr.out.c3;obtain⟨s0,bW,s1,bX,s2,cJ⟩:=Hs.out.g3;obtain⟨d0,pz,d1,pC,d2,pD⟩:=Hd.out.g3;replace Hb:=bS Hb hs ZS;clear hs;go_wp2_with fail;refine(ll.out _).mono ?_;rintro e w9 ⟨rfl,ae⟩;clear r0 r1 r2 s0 bW s1 bX s2 cJ d0 pz d1 pC d2 pD;replace Hr:=kB Hr ae;replace Hs:=kB Hs ae;replace Hd:=kB Hd ae;obtain⟨r0,r1,r2⟩:=Hr.out.c3;obtain⟨s0,bW,s1,bX,s2,cJ⟩:=Hs.out.g3;obtain⟨d0,pz,d1,pC,d2,pD⟩:=Hd.out.g3;replace Hb:=az Hb ae;clear ae;go_wp2;go_roundw;case rel=>exact⟨k+1,X2,by omega,by go_num,Ce.out,(((Hr.out.so (w.heap.size+1) 0 zo _).so (w.heap.size+1) 1 zo _).so (w.heap.size+1) 2 zo _),((Hs.out.set 0 _).set 1 _).set 2 _,(((Hb.out.sc (w.heap.size+1) 0 ZS _).sc (w.heap.size+1) 1 ZS _).sc (w.heap.size+1) 2 ZS _)⟩
          case measure=>simp[intOf];omega
    . obtain rfl:k=N:=by omega
      have Hr:=ah pr;have Hs:Hid (ak wr (w.heap.size+1) 30 [.bool (ar (dN X)),.string (bs (nt (dN X).natAbs)),.int .i64 (dE X)]):=ps;obtain⟨Hb,HX⟩:=aM pb hX;clear pr ps pb hX;obtain⟨r0,ai,r1,aj,r2,aG⟩:=Hr.out.g3;obtain⟨s0,s1,s2⟩:=Hs.out.c3;go_wp2;clear r0 ai r1 aj r2 aG s0 s1 s2;refine fy (bK wr (w.heap.size) 0 [.bool (ar (dN X)),.string (bs (nt (dN X).natAbs)),.int .i64 (dE X)]) bV ?_;intro w9 hs;replace Hr:=cF Hr hs;replace Hs:=kS Hs hs zo;obtain⟨r0,ai,r1,aj,r2,aG⟩:=Hr.out.g3;obtain⟨s0,s1,s2⟩:=Hs.out.c3;replace Hb:=bS Hb hs ZS;clear hs;refine bodyPost_ret (v:=bH X) (by simp[results,Tryz.results52,go_sem,r0,r1,r2]) rfl ⟨by rw[HX.out],Hb.out⟩
theorem Pj (a:Option Addr)(cap n B:Nat)(rows:List (List Raw))(w:World)(hL:rows.length=n+1)(hn:1<=n)(bI:n<=4)(hrow:∀r∈rows,r.length=n)(hfit:∀r∈rows,∀c∈r,gY B c)(hB:B<=1000)(ha:bo w a rows):
 Calls Tryz.prog 20 #[.slice a (n+1) cap] w λe w'=>e=.returned (bH (dz n (bJ rows)))/\Bw w w':=by
 obtain⟨i0,hi,hz0,hz1,hz2⟩:=info_parts Tryz.aqU;obtain⟨j0,hj,hy0,hy1,hy2⟩:=info_parts Tryz.aqY;have h00:0<rows.length:=by omega
 have jv:rows.getD 0 []=rows[0]:=by simp[h00]
 obtain⟨S,hS⟩:=aB ((rows.drop 1).map λp=>iw (rows.getD 0 []) p);have fZ:S.length=n:=by rw[<-hS];simp[hL]
 have nZ:∀r∈S,r.length=n:=by intro r hr;rw[<-hS]at hr;obtain⟨p,hp,rfl⟩:=List.mem_map.1 hr;rw[zP (by rw[jv,hrow _ (List.mem_of_mem_drop hp),hrow _ (List.getElem_mem h00)]),hrow _ (List.mem_of_mem_drop hp)]
 have oc:∀r∈S,∀d∈r,Sm (B+1) d:=by intro r hr d hd;rw[<-hS]at hr;obtain⟨p,hp,rfl⟩:=List.mem_map.1 hr;unfold iw at hd;obtain⟨i,hi,rfl⟩:=List.mem_iff_getElem.1 hd;rw[List.getElem_zipWith];refine Sm.sub (hfit p (List.mem_of_mem_drop hp) _ (List.getElem_mem _)).2 (hfit (rows.getD 0 []) ?_ _ (List.getElem_mem _)).2;rw[jv];exact List.getElem_mem h00
 have hent:cm n (bG S)=dz n (bJ rows):=by rw[xt];refine zN n bI (λi j hi hj=>?_);rw[<-hS];exact PH n rows hL hrow i j hi hj
 have iW:∀k (h1:k+1<rows.length),(S.map λx=>x.map canon).getD k []=(iw rows[0] rows[k+1]).map canon:=by
  intro k h1;subst hS;rw[jv];have h2:k<(rows.drop 1).length:=by simp;omega
  simp[List.getD_eq_getElem?_getD,h1]
 have jz:=λa' c' W (h1:kC W a' (S.map λx=>x.map canon)) (h2:Sl a' n c')=>ald n bI a' c' (B+1) S W fZ nZ oc zo h1 h2;rw[hent]at jz;obtain⟨X,hX⟩:=aB (dz n (bJ rows));rw[hX]at jz⊢;obtain⟨T,hT⟩:=aB (S.map λx=>x.map canon);rw[hT]at jz iW;have UE:T.length=n:=by rw[<-hT,List.length_map,fZ]
 obtain⟨zr,kN⟩:=aB (rows[0]);have rX:=λW (hW:Bw w W) k (hk:k<rows.length)=>(ha.below hW).row k hk;have hw0:=λW (hW:Bw w W)=>rX W hW 0 h00;have hn0:zr.length=n:=by rw[<-kN];exact hrow _ (List.getElem_mem _)
 have vg:∀x∈zr,gY B x:=by rw[<-kN];exact hfit _ (List.getElem_mem _)
 simp only[kN,hn0]at hw0 iW;obtain⟨Hi,cN,cO,cH,Hj,ir,jd,je,mg,wM,HTl,Cb⟩:=gh hi hz0 hz1 hz2 hj hy0 hy1 hy2 iW jz UE rX;obtain⟨xb,rJ,uB,sZ,wO,HL⟩:=gF hw0 hn0 vg hrow hfit hL;clear hi hz0 hz1 hz2 hj hy0 hy1 hy2 iW jz UE rX hw0 hn0 vg hrow hfit hL h00 jv hS fZ nZ oc hent hX hT kN ha;obtain⟨W,dw,Hb,Hr⟩:=iP w 30 [.bool false,.string ⟨#[]⟩,.int .i64 0];obtain⟨r0,ai,r1,aj,r2,aG⟩:=Hr.out.g3;go_enter Tryz.func20,Tryz.ntmps20;have lr:=Hr.out.lt;go_wp2_with fail;go_loopw[3,4] (λs3 x wr=>∃(i:Nat) (v:Value),1<=i/\i<=n+1/\x=.int .i64 (i:Int)/\v=s3/\mD 45 wr W.heap.size T (i-1) v/\Bw W wr) (λ_ x _=>n+1-(intOf x).toNat);case atStart=>exact⟨1,_,Nat.le_refl _,by omega,rfl,rfl,mD.nil _ _ _ _,Below.refl _ _⟩
 case round=>
  obtain⟨i,v,hi1,hiN,rfl,rfl,pv,pb⟩:=hrel;by_cases hlt:i<n+1
  . have hk2:i<rows.length:=by rw[HL.out];exact hlt
    obtain⟨j,hj⟩:=aB (i-1);have nC:i+1-1=j+1:=by omega
    obtain⟨p,gD⟩:=aB (rows[i]);obtain⟨b,o,a1,c1,hab,hc1,hat⟩:=Cb.out wr (aK Hb.out pb) i hk2;obtain⟨b',o',a0,c0,oh,hc0,gQ⟩:=xb.out wr (aK Hb.out pb);obtain⟨rfl,rfl⟩:b'=b/\o'=o:=by rw[oh]at hab;simp at hab;exact hab
    have ke:p.length=n:=by rw[<-gD];exact sZ.out _ (List.getElem_mem hk2)
    have iN:∀x∈p,gY B x:=by rw[<-gD];exact wO.out _ (List.getElem_mem hk2)
    have nY:T.getD j []=(iw zr p).map canon:=by have h:=mg.out j zo;rw[h];congr 2;rw[<-gD];congr 1;omega
    rw[gD]at hc1 hat;rw[ke]at hc1;have ua:=jN (n+1) cap 0 0 hab zo rfl;have ub:=jN (n+1) cap i (i:Int) hab hlt rfl;rw[Nat.mul_one]at ua ub;rw[Nat.add_zero]at ua hc0;obtain⟨Z,hZ⟩:=aB (iw zr p);rw[hZ]at nY;have nu:Z.length=n:=by rw[<-hZ,zP (by rw[ke,rJ.out]),ke]
    rw[hj]at pv;have hvl:=pv.lt;obtain⟨fx,im,lu,oX,uv,HZ,mh,aQ,dx,jF,BO,ky⟩:=gh hat gQ ke iN nY hZ nu pb pv hvl nC hab;obtain⟨sN,oQ⟩:=aM hc1 hc0;clear hat gQ ke iN nY hZ nu pb pv hvl nC hab oh gD hc1 hc0;have gm:=aQ.out.size;have hjn:j<n:=by omega
    clear hj;obtain⟨wc,hwc⟩:∃wc,wc=wr:=⟨_,rfl⟩;subst hwc;have lH:(i:Int)<(n:Int)+1:=by omega
    go_wp2_with fail;go_loopw[5,6] (λs5 x wr=>∃(k:Nat) (v2:Value),k<=n/\x=.int .i64 (k:Int)/\v2=s5/\wr.ownsRow wc.heap.size 30 3 v2 k (dC (Z.take k))/\Bw wc wr) (λ_ x _=>n-(intOf x).toNat);case atStart=>exact⟨0,_,Nat.zero_le _,rfl,rfl,World.ownsRow_nil _ _ _ _,Below.refl _ _⟩
    case round=>
     obtain⟨k,v2,hk,rfl,rfl,ho,hb2⟩:=hrel;have hc1:=cell_later hb2 sN.out;have hc0:=cell_later hb2 oQ.out;by_cases bj:k<n
     . have k1:k<p.length:=by rw[lu.out];exact bj
       have k2:k<zr.length:=by rw[rJ.out];exact bj
       obtain⟨sp,mp,ep,gg⟩:=kI (p[k]);obtain⟨sq,mq,eq,jB⟩:=kI (zr[k]);have eJ:=oX.out _ (List.getElem_mem k1);have iX:=uB.out _ (List.getElem_mem k2);rw[gg]at eJ;rw[jB]at iX;obtain⟨D,hD⟩:=aB (aC (sp,mp,ep)-aC (sq,mq,eq));have mB:Hid (dC (Z.take (k+1))=dC (Z.take k)++[.bool (ar (dN D)),.string (bs (nt (dN D).natAbs)),.int .i64 (dE D)]):=by
        show _=_
        rw[<-HZ.out,Tn _ _ _ k1 k2,rN,gg,jB,hD];rfl
       obtain⟨b1,o1,eI,p0,p1,p2⟩:=(fx.out.below hb2).num k k1 gg;obtain⟨b2,o2,fg,q0,q1,q2⟩:=(im.out.below hb2).num k k2 jB;have MZ:=lM n c1 k (k:Int) eI bj rfl;have ahy:=lM n c0 k (k:Int) fg bj rfl;have jD:b1<wc.heap.size:=(by subst eI;exact fx.out.lt (by intro h0;have:=congrArg List.length h0;rw[yx]at this;simp at this;omega));have iO:b2<wc.heap.size:=(by subst fg;exact im.out.lt (by intro h0;have:=congrArg List.length h0;rw[yx]at this;simp at this;omega));have se:b'<wc.heap.size:=World.block_lt_of_cell? wc _ oQ.out;have Hu:Hid (bB wr b' (o'+i) [.slice a1 n c1]):=λj hj=>by
        obtain rfl:j=0:=by simp at hj;omega
        exact cell_later hb2 sN.out
       have Hv:Hid (bB wr b' o' [.slice a0 n c0]):=λj hj=>by
        obtain rfl:j=0:=by simp at hj;omega
        exact cell_later hb2 oQ.out
       have Hp:Hid (bB wr b1 (o1+k*3) [.bool sp,.string (bs mp),.int .i64 ep]):=iB p0 p1 p2;have Hq:Hid (bB wr b2 (o2+k*3) [.bool sq,.string (bs mq),.int .i64 eq]):=iB q0 q1 q2;obtain⟨lj,sV,HD,Ho,sM⟩:=fC eJ iX hD ho hb2;have yK:=hb2.size;have gL:=Hb;clear Hb ho hb2 eJ iX hD gg jB eI fg p0 p1 p2 q0 q1 q2;have Hb:Hid (Bw wr wr):=Below.refl _ _;go_wp2_with fail;clear hc1 hc0;have u0:=Hu.out.w1;have v0:=Hv.out.w1;obtain⟨p0,p1,p2⟩:=Hp.out.w3;obtain⟨q0,q1,q2⟩:=Hq.out.w3;refine bM (λw'=>w'.cell? ⟨b',o'+i,none⟩=some (.slice a1 n c1)/\w'.cell? ⟨b',o',none⟩=some (.slice a0 n c0)/\w'.cell? ⟨b1,o1+k*3,none⟩=some (.bool sp)/\w'.cell? ⟨b1,o1+k*3+1,none⟩=some (.string (bs mp))/\w'.cell? ⟨b1,o1+k*3+2,none⟩=some (.int .i64 ep)/\w'.cell? ⟨b2,o2+k*3,none⟩=some (.bool sq)/\w'.cell? ⟨b2,o2+k*3+1,none⟩=some (.string (bs mq))/\w'.cell? ⟨b2,o2+k*3+2,none⟩=some (.int .i64 eq)) (λi=>Nat.blt i 100000) [(0,true),(1,true),(2,true),(3,true),(4,true),(5,true),(6,true),(7,true),(8,true),(9,true),(10,true),(11,true),(12,true),(13,true),(14,false),(15,false),(16,false),(17,true)] zk zk rfl zk zc ⟨u0,v0,p0,p1,p2,q0,q1,q2⟩ ?_;iterate 14 (refine pT rfl rfl ?_ (by intro w' ⟨q0,q1,q2,q3,q4,q5,q6,q7⟩;go_simp;try with_reducible rfl);try simp only[UU])
       refine aI rfl rfl (λK hK=>?_);go_simp;with_reducible refine(YV sp mp ep sq mq eq D HD.out _ lj.out.1 sV.out.1 (Sm.aqT (Sm.neg sV.out.2) zo)).mono ?_
       rintro e w5 ⟨rfl,hq⟩;have ae:Bw wr w5:=by first|exact hq|exact aV hq
       clear u0 v0 p0 p1 p2 q0 q1 q2;replace Hu:=kW Hu ae;replace Hv:=kW Hv ae;replace Hp:=kW Hp ae;replace Hq:=kW Hq ae;have u0:=Hu.out.w1;have v0:=Hv.out.w1;obtain⟨p0,p1,p2⟩:=Hp.out.w3;obtain⟨q0,q1,q2⟩:=Hq.out.w3;replace Hb:=az Hb ae;clear ae;refine hK _ _ (λ_=>⟨u0,v0,p0,p1,p2,q0,q1,q2⟩) ?_;clear hK K;try simp only[UU]
       refine aI rfl rfl (λK hK=>?_);go_simp;refine hK _ _ (λ_=>⟨aJ u0,aJ v0,aJ p0,aJ p1,aJ p2,aJ q0,aJ q1,aJ q2⟩) ?_;clear hK K;try simp only[UU]
       refine bO (λw7=>ak w7 (w5.heap.size) 30 [.bool (ar (dN D)),.string (bs (nt (dN D).natAbs)),.int .i64 (dE D)]/\Bw w5 w7) (by first|exact dU|exact dV) ?_;rintro w7 ⟨qc,ae⟩;clear u0 v0 p0 p1 p2 q0 q1 q2;replace Hu:=kW Hu ae;replace Hv:=kW Hv ae;replace Hp:=kW Hp ae;replace Hq:=kW Hq ae;have Hc:=ah qc;clear qc;have u0:=Hu.out.w1;have v0:=Hv.out.w1;obtain⟨p0,p1,p2⟩:=Hp.out.w3;obtain⟨q0,q1,q2⟩:=Hq.out.w3;obtain⟨c0,c1,c2⟩:=Hc.out.c3;replace Hb:=az Hb ae;clear ae;refine aI rfl rfl (λK hK=>?_);have cG:=ownsRow_below Ho.out Hb.out;have iz:=Hb.out.size;refine wp_append_own _ _ _ 45 rfl wc.heap.size 30 i0 _ 3 32 Tryz.underlying45 Hi.out cN.out cO.out cH.out rfl zd v2 k (dC (Z.take k)) rfl cG ⟨w5.heap.size,0,none⟩ 1 1 [.bool (ar (dN D)),.string (bs (nt (dN D).natAbs)),.int .i64 (dE D)] rfl rfl (fX Hc.out) zy zx zo zo ?_;intro v' w8 dW bz _;obtain⟨g',cq,rfl⟩:=ownsRow_succ dW;have nb:∀b,b<wc.heap.size->some b≠v2.ownBlock:=λb hb e=>by have:=cZ cG b e.symm;omega
       refine hK _ _ (λ_=>⟨bY bz u0 (nb _ se),bY bz v0 (nb _ se),bY bz p0 (nb _ jD),bY bz p1 (nb _ jD),bY bz p2 (nb _ jD),bY bz q0 (nb _ iO),bY bz q1 (nb _ iO),bY bz q2 (nb _ iO)⟩) ?_;clear hK K;try simp only[UU]
       refine pT rfl rfl ?_;try simp only[UU]
       simp only[aZ];clear u0 v0 p0 p1 p2 q0 q1 q2 c0 c1 c2;go_wp2;go_roundw;case rel=>
        refine⟨k+1,_,by omega,by go_num,rfl,?_,?_⟩
        . rw[mB.out];exact dW
        . exact(aK sM.out Hb.out).grown bz zo (λj e=>cZ cG j e)
       case measure=>simp[intOf];omega
     . obtain rfl:k=n:=by omega
       have iJ:Z.take k=Z:=List.take_of_length_le (by rw[mh.out];exact Nat.le_refl _);rw[iJ,pq]at ho;have hq2:Pd wr v.ownBlock v2 (Z.map canon):=Pd.own ho (by rw[List.length_map];exact mh.out) (λg hg=>(jF.out g hg).2);obtain⟨av,cv,rfl,_,_⟩:=dG ho;obtain⟨Kz,bQ⟩:=aM hq2 hb2;have um:=hb2.size;clear ho hq2 hb2 iJ;go_wp2_with (at_builtin;refine ZY rfl _ _ 78 rfl W.heap.size 45 j0 _ Tryz.underlying78 Hj.out ir.out jd.out je.out rfl v j T rfl ((dx.out.below bQ.out).below zl) wr.heap.size 1 (.slice av k cv) rfl ((ak.new wr 45 [.slice av k cv]).cell 0) (by rw[uv.out];exact Kz.out.below zl) zo zi ?_;intro v3 w3 Ii hg3 Ns);have hb3:=(aK (aK aQ.out bQ.out) zl).grown hg3 zi Ns;go_roundw;case rel=>exact⟨i+1,v3,by omega,by omega,by go_num,rfl,by rw[BO.out];exact Ii,hb3⟩
       case measure=>simp[intOf];omega
  . obtain rfl:i=n+1:=by omega
    rw[Nat.add_sub_cancel]at pv;obtain⟨a5,c5,rfl,DJ,vF⟩:=pv.tbl HTl.out;have wU:=Hr.out.below pb;have dt:=aK Hb.out pb;have hd:=wM.out a5 c5 wr vF DJ;have Hd:=ah hd;clear hd pv vF DJ Hb pb r0 r1 r2 ai aj aG Hr;obtain⟨Hb,Hr⟩:=aM dt wU;clear dt wU;obtain⟨r0,ai,r1,aj,r2,aG⟩:=Hr.out.g3;go_wp2_with fail;refine(Hd.out).mono ?_;rintro e w5 ⟨rfl,ae⟩;clear r0 ai r1 aj r2 aG;replace Hr:=kB Hr ae;obtain⟨r0,ai,r1,aj,r2,aG⟩:=Hr.out.g3;replace Hb:=az Hb ae;clear ae;go_wp2;clear r0 ai r1 aj r2 aG;refine fy (bK w5 (w.heap.size) 0 [.bool (ar (dN X)),.string (bs (nt (dN X).natAbs)),.int .i64 (dE X)]) bV ?_;intro w9 hs;replace Hr:=cF Hr hs;obtain⟨r0,ai,r1,aj,r2,aG⟩:=Hr.out.g3;replace Hb:=bS Hb hs ZS;clear hs;refine bodyPost_ret (v:=bH X) (by simp[results,Tryz.results20,go_sem,r0,r1,r2]) rfl ⟨rfl,Hb.out⟩
theorem alb (a:Option Addr)(L cap B:Nat)(rows:List (List Raw))(w:World)(hL:rows.length=L)(h5:L<=5)(hfit:∀r∈rows,∀c∈r,gY B c)(hB:B<=1000)(ha:bo w a rows):
 Calls Tryz.prog 16 #[.slice a L cap] w λe w'=>e=.returned (.int .i64 (fD rows))/\Bw w w':=by
 obtain⟨V,hV⟩:=aB (eo rows);have hvar:=λW (hW:Bw w W)=>Pk a L cap rows V W hL zo (ha.below hW) hV;by_cases h0:V=0
 . subst h0;have e:fD rows=1:=by unfold fD;rw[if_pos hV]
   rw[e];have uI:=ah hvar;clear hvar hfit ha hV e hL;have Hb:Hid (Bw w w):=Below.refl _ _;go_enter Tryz.func16,Tryz.ntmps16;go_wp2_with fail;refine(uI.out _ Hb.out).mono ?_;rintro e w1 ⟨rfl,ae⟩;replace Hb:=az Hb ae;clear ae;go_wp2;refine bodyPost_ret (results_tmp rfl _ _ _) rfl ⟨rfl,Hb.out⟩
 . obtain⟨m,hm,hrl⟩:∃m,L=m+2/\∀r∈rows,r.length=m+1:=by obtain⟨c1,c2,c3,c4⟩:=wy hV h0;exact⟨L-2,by omega,λr hr=>by have:=c4 r hr;omega⟩
   have hV2:eo rows=((m+1:Nat):Int):=ww (by rw[hL,hm]) hrl zo zo;obtain rfl:V=((m+1:Nat):Int):=by rw[<-hV,hV2]
   obtain⟨X,hX⟩:=aB (dz (m+1) (bJ rows));obtain⟨g,hg⟩:=aB (bZ X);have e:fD rows=if g=0 then 5 else 0:=by
    unfold fD;rw[if_neg (by rw[hV2];omega),hV2,Int.toNat_natCast,hX];have:=LG X;rw[hg]at this;by_cases h:X=0
    . rw[if_pos h,if_pos (this.2 h)]
    . rw[if_neg h,if_neg (λh2=>h (this.1 h2))]
   rw[e];have hsz:=λW (hW:Bw w W)=>Pj a cap (m+1) B rows W (by rw[hL,hm]) zo zo hrl hfit hB (ha.below hW);rw[hX]at hsz;have fA:Sm (4*B+10) X:=by
    rw[<-hX];refine(Cy (B:=B+1) zo zo (λi j hi hj=>?_)).mono zo;have hps:∀a b,a<=m+1->b<m+1->Sm B (bJ rows a b):=λa b h1 h2=>by
     have ha1:a<rows.length:=by omega
     have hb1:b<rows[a].length:=by rw[hrl _ (List.getElem_mem ha1)];exact h2
     have ee:bJ rows a b=aC rows[a][b]:=by unfold bJ bG;simp[List.getD_eq_getElem?_getD,ha1,hb1]
     rw[ee];exact(hfit _ (List.getElem_mem ha1) _ (List.getElem_mem hb1)).2
    exact xu hps i j hi hj
   have fH:=λW=>yH (ar (dN X)) (nt (dN X).natAbs) (dE X) g (by show bZ (aC (canon X))=g;rw[bP];exact hg) W (by have:=(fA.aqT zo).1;exact Nat.le_trans this zd);obtain⟨uI,oY,iV⟩:=cX hvar hsz fH;clear hvar hsz fH hfit ha hV hV2 e hX hg fA hrl hL;obtain⟨n,hn⟩:=aB (m+1);have hmn:L=n+1:=by omega
   simp only[hn]at uI oY h0⊢;subst hmn;have hn0:1<=n:=by omega
   clear hn hm;have hb0:((n:Int)==0)=false:=by simpa using h0
   have hb1:¬(n:Int)=0:=h0;have Hb:Hid (Bw w w):=Below.refl _ _;go_enter Tryz.func16,Tryz.ntmps16;go_wp2_with fail;refine(uI.out _ Hb.out).mono ?_;rintro e w1 ⟨rfl,ae⟩;replace Hb:=az Hb ae;clear ae;go_wp2_with fail;refine(oY.out _ Hb.out).mono ?_;rintro e w2 ⟨rfl,ae⟩;replace Hb:=az Hb ae;clear ae;go_wp2_with fail;refine(iV.out _).mono ?_;rintro e w3 ⟨rfl,ae⟩;replace Hb:=az Hb ae;clear ae;by_cases hg0:g=0
   . subst hg0;go_wp2;refine bodyPost_ret (results_tmp rfl _ _ _) rfl ⟨rfl,Hb.out⟩
   . have hgb:(g==0)=false:=by simpa using hg0
     go_wp2;refine bodyPost_ret (results_tmp rfl _ _ _) rfl ⟨rfl,Hb.out⟩
theorem al0 (E T:Dyadic)(h:E≠0):(if bZ E<0 then-T else T)=lU E*T:=by
 rw[PD];by_cases h1:E<0
 . rw[if_pos ((CB E).2 h1),if_pos h1];grind
 . rw[if_neg (λh2=>h1 ((CB E).1 h2)),if_neg h1,if_neg h];grind
theorem Pm (a:Option Addr)(cap n B:Nat)(rows:List (List Raw))(xa:Option Addr)(xc:Nat)(xs:List Raw)(w:World)(hL:rows.length=n+1)(hn:1<=n)(bI:n<=4)(hrow:∀r∈rows,r.length=n)(hfit:∀r∈rows,∀c∈r,gY B c)(hxl:xs.length=n)(dL:∀x∈xs,gY B x)(hB:B<=1000)(ha:bo w a rows)(hx:At w xa (xs.flatMap bA))(h0:dz n (bJ rows)≠0):
 Calls Tryz.prog 27 #[.slice a (n+1) cap,.slice xa n xc] w λe w'=>∃a' c',e=.returned (.slice a' (n+1) c')/\n+1<=c'/\At w' a' (dC (gX n (bJ rows) (fE xs)))/\Bw w w':=by
 obtain⟨i0,hi,hz0,hz1,hz2⟩:=info_parts Tryz.aqU;have hsz:=λW (hW:Bw w W)=>Pj a cap n B rows W hL hn bI hrow hfit hB (ha.below hW);have lL:=λj W (hW:Bw w W)=>alN a (n+1) cap rows j xa n xc xs W hL zo hxl zo (λr hr=>by rw[hrow r hr];omega) (ha.below hW) (hx.below hW) (λr hr x hx=>(hfit r hr x hx).1) (λx hx=>(dL x hx).1);have kg:∀j,(∀r∈rows.set j xs,r.length=n)/\∀r∈rows.set j xs,∀c∈r,gY B c:=λj=>by
  constructor
  . intro r hr;rcases List.mem_or_eq_of_mem_set hr with h|h
    . exact hrow r h
    . rw[h];exact hxl
  . intro r hr;rcases List.mem_or_eq_of_mem_set hr with h|h
    . exact hfit r h
    . rw[h];exact dL
 have hup:∀j,j<n+1->dz n (bJ ((rows.set j xs).map iy))=dz n (mR (bJ rows) j (fE xs)):=λj hj=>by
  rw[akS];refine afY n bI (λi k hi hk=>?_);unfold mR bJ bG fE;have hi1:i<rows.length:=by omega
  by_cases e:i=j
  . subst e;simp[List.getD_eq_getElem?_getD,hi1]
  . rw[if_neg e];rw[List.map_set];have e2:((rows.map λr=>r.map aC).set j (xs.map aC)).getD i []=(rows.map λr=>r.map aC).getD i []:=by rw[List.getD_eq_getElem?_getD,List.getD_eq_getElem?_getD,List.getElem?_set_ne (λh=>e h.symm)]
    rw[e2]
 have hsj:=λj (hj:j<n+1) a' c' W (h:bo W a' ((rows.set j xs).map iy))=>Pj a' c' n B ((rows.set j xs).map iy) W (by simp[hL]) hn bI (λr hr=>by
  obtain⟨y,hy,rfl⟩:=List.mem_map.1 hr
  rw[TK];exact(kg j).1 y hy) (λr hr=>by
  obtain⟨y,hy,rfl⟩:=List.mem_map.1 hr
  exact gY.form ((kg j).2 y hy) zo) hB h
 have hps:∀i k,i<=n->k<n->Sm B (bJ rows i k):=λi k h1 h2=>by
  have hi1:i<rows.length:=by omega
  have hk1:k<rows[i].length:=by rw[hrow _ (List.getElem_mem hi1)];exact h2
  have ee:bJ rows i k=aC rows[i][k]:=by unfold bJ bG;simp[List.getD_eq_getElem?_getD,hi1,hk1]
  rw[ee];exact(hfit _ (List.getElem_mem hi1) _ (List.getElem_mem hk1)).2
 have hxs:∀k,k<n->Sm B (fE xs k):=λk hk=>by rw[Jh xs k zo];exact(dL _ (List.getElem_mem _)).2
 have hTs:∀j,j<n+1->Sm (4*B+10) (dz n (mR (bJ rows) j (fE xs))):=λj hj=>
  (Cy (B:=B+1) hn bI (λi k hi hk=>xu (λi k hi hk=>by unfold mR;split;exact hxs k hk;exact hps i k hi hk) i k hi hk)).mono zo
 have qO:Sm (4*B+10) (dz n (bJ rows)):=(Cy (B:=B+1) hn bI (λi k hi hk=>xu hps i k hi hk)).mono zo;have hW:∀j,gq n (bJ rows) (fE xs) j=if bZ (dz n (bJ rows))<0 then-dz n (mR (bJ rows) j (fE xs))else dz n (mR (bJ rows) j (fE xs)):=λj=>by rw[al0 _ _ h0];rfl
 have xA:(gX n (bJ rows) (fE xs)).length=n+1:=by simp[gX]
 have Mh:∀j,j<n+1->(gX n (bJ rows) (fE xs)).take (j+1)=(gX n (bJ rows) (fE xs)).take j++[gq n (bJ rows) (fE xs) j]:=λj hj=>by rw[List.take_succ_eq_append_getElem (by rw[xA];exact hj)];congr 2;simp[gX]
 obtain⟨R,hR⟩:∃R:Nat->List (List Raw),(λj=>(rows.set j xs).map iy)=R:=⟨_,rfl⟩;have UB:∀j,(rows.set j xs).map iy=R j:=λj=>by rw[<-hR]
 simp only[UB]at lL hsj hup;have NC:∀j,j<n+1->∀a' c' W,bo W a' (R j)->Calls Tryz.prog 20 #[.slice a' (n+1) c'] W λe w'=>e=.returned (bH (dz n (mR (bJ rows) j (fE xs))))/\Bw W w':=λj hj a' c' W h=>by have:=hsj j hj a' c' W h;rwa [hup j hj]at this
 obtain⟨E,hE⟩:=aB (dz n (bJ rows));obtain⟨T,hT⟩:∃T:Nat->Dyadic,(λj=>dz n (mR (bJ rows) j (fE xs)))=T:=⟨_,rfl⟩;have UD:∀j,dz n (mR (bJ rows) j (fE xs))=T j:=λj=>by rw[<-hT]
 obtain⟨F,hF⟩:∃F:Nat->Dyadic,gq n (bJ rows) (fE xs)=F:=⟨_,rfl⟩;obtain⟨Z,hZ⟩:=aB (gX n (bJ rows) (fE xs));simp only[UD,hE,hF,hZ]at hsz NC hTs qO hW xA Mh;rw[hZ];obtain⟨g,hg⟩:=aB (bZ E);simp only[hg]at hW;have fH:=λW=>yH (ar (dN E)) (nt (dN E).natAbs) (dE E) g (by show bZ (aC (canon E))=g;rw[bP];exact hg) W (by have:=(qO.aqT zo).1;exact Nat.le_trans this zd);obtain⟨Hi,cN,cO,cH,oY,uJ,Hsj,HTs,HW,HLl,HLs,iV⟩:=gh hi hz0 hz1 hz2 hsz lL NC hTs hW xA Mh fH;clear hi hz0 hz1 hz2 hsz lL hsj NC hTs qO hW xA Mh fH hR UB UD hT hF hZ hE hup kg hps hxs hg h0 ha hx hL hrow hfit hxl dL;have Hb:Hid (Bw w w):=Below.refl _ _;go_enter Tryz.func27,Tryz.ntmps27;go_wp2_with fail;go_loopw[5,6] (λs5 x wr=>∃(j:Nat) (v2:Value),j<=n+1/\x=.int .i64 (j:Int)/\v2=s5/\wr.ownsRow w.heap.size 30 3 v2 j (dC (Z.take j))/\Bw w wr) (λ_ x _=>n+1-(intOf x).toNat);case atStart=>exact⟨0,_,Nat.zero_le _,rfl,rfl,World.ownsRow_nil _ _ _ _,Hb.out⟩
 case round=>
  clear Hb;obtain⟨j,v2,hj,rfl,rfl,ho,hb2⟩:=hrel;obtain⟨Ho,bQ⟩:=aM ho hb2;have PP:=hb2.size;clear ho hb2;by_cases hlt:j<n+1
  . obtain⟨X,hX⟩:=aB (T j);obtain⟨Y,hY⟩:=aB (F j);have xI:=HW.out j;have fA:=HTs.out j hlt;have hst:dC (Z.take (j+1))=dC (Z.take j)++[.bool (ar (dN Y)),.string (bs (nt (dN Y).natAbs)),.int .i64 (dE Y)]:=by rw[HLs.out j hlt,hY,rN];rfl
    have hsj:=Hsj.out j hlt;rw[hX]at fA hsj;rw[hX,hY]at xI;have Dw:g<0->∀W,Calls Tryz.prog 65 #[.agg #[.bool (ar (dN X)),.string (bs (nt (dN X).natAbs)),.int .i64 (dE X)]] W λe w'=>e=.returned (bH Y)/\Bw W w':=λh W=>Pe _ _ _ Y (by show-aC (canon X)=Y;rw[bP,xI,if_pos h]) W (fA.aqT zo);have rz:=λW hW=>uJ.out j W hW;obtain⟨cE,yR,acQ,Kn,KS⟩:=fC hst xI hsj Dw rz;clear hst xI fA hsj Dw hX hY rz;have Hb:Hid (Bw wr wr):=Below.refl _ _;go_wp2_with fail;refine(KS.out _ (aK bQ.out Hb.out)).mono ?_;rintro e w3 ⟨a3,c3,rfl,hc3,ry,ae⟩;replace Hb:=az Hb ae;clear ae;have wX:=ah ry;clear ry;go_wp2_with fail;refine(acQ.out a3 c3 _ wX.out).mono ?_;rintro e w4 ⟨rfl,ae⟩;replace Hb:=az Hb ae;clear ae wX;have Zu:=Hb.out.size;obtain⟨W5,xH,ae,Hx⟩:=cS w4 30 [.bool (ar (dN X)),.string (bs (nt (dN X).natAbs)),.int .i64 (dE X)];obtain⟨x0,aX,x1,aY,x2,bi⟩:=Hx.out.g3;replace Hb:=az Hb ae;clear ae;go_wp2_with fail;refine(oY.out _ (aK bQ.out Hb.out)).mono ?_;rintro e w6 ⟨rfl,ae⟩;clear x0 aX x1 aY x2 bi;replace Hx:=kB Hx ae;obtain⟨x0,aX,x1,aY,x2,bi⟩:=Hx.out.g3;replace Hb:=az Hb ae;clear ae;go_wp2_with fail;refine(iV.out _).mono ?_;rintro e w7 ⟨rfl,ae⟩;clear x0 aX x1 aY x2 bi;replace Hx:=kB Hx ae;obtain⟨x0,aX,x1,aY,x2,bi⟩:=Hx.out.g3;replace Hb:=az Hb ae;clear ae;go_upto_if 22 with fail
    go_cut[7] (λs7 wx=>s7=.pointer (some ⟨w4.heap.size,0,none⟩)/\ak wx w4.heap.size 30 [.bool (ar (dN Y)),.string (bs (nt (dN Y).natAbs)),.int .i64 (dE Y)]/\Bw wr wx);case first=>
     by_cases hp:g<0
     . have h9:decide (g<0)=true:=by simpa using hp
       go_wp2_with fail;refine(Kn.out hp _).mono ?_;rintro e w8 ⟨rfl,ae⟩;clear x0 aX x1 aY x2 bi;replace Hx:=kB Hx ae;obtain⟨x0,aX,x1,aY,x2,bi⟩:=Hx.out.g3;replace Hb:=az Hb ae;clear ae;go_wp2_with fail;go_meet;exact⟨rfl,((Hx.out.set 0 _).set 1 _).set 2 _,((Hb.out.setCell zp _).setCell zp _).setCell zp _⟩
     . have h9:decide (g<0)=false:=by simpa using hp
       have hY:Y=X:=by rw[yR.out,if_neg hp]
       subst hY;go_wp2_with fail;go_meet;exact⟨rfl,Hx.out,Hb.out⟩
    case rest=>
     obtain⟨rfl,hx,hb⟩:=hcut;have Hx:Hid (ak wc w4.heap.size 30 [.bool (ar (dN Y)),.string (bs (nt (dN Y).natAbs)),.int .i64 (dE Y)]):=hx;have wH:=ah (aK bQ.out hb);have hov:=ownsRow_below Ho.out hb;have cM:=ah hov;have Zv:=hb.size;clear hx hb hov Ho Hb yR bQ;have Hb:Hid (Bw wc wc):=Below.refl _ _;obtain⟨x0,x1,x2⟩:=Hx.out.c3;have P0:=x0;have P1:=x1;have P2:=x2;have ajj:=Hx.out.lt;obtain⟨W6,od,ae,Hc⟩:=cS wc 30 [.bool (ar (dN Y)),.string (bs (nt (dN Y).natAbs)),.int .i64 (dE Y)];clear x0 x1 x2;replace Hx:=kB Hx ae;obtain⟨x0,x1,x2⟩:=Hx.out.c3;obtain⟨c0,c1,c2⟩:=Hc.out.c3;replace Hb:=az Hb ae;clear ae;have cG:=ownsRow_below cM.out Hb.out;have iz:=Hb.out.size;go_wp2_with (at_builtin;refine wpList_append_own_at _ rfl _ _ 45 rfl w.heap.size 30 i0 _ 3 32 Tryz.underlying45 Hi.out cN.out cO.out cH.out rfl zd _ j (dC (Z.take j)) rfl cG ⟨wc.heap.size,0,none⟩ 1 1 [.bool (ar (dN Y)),.string (bs (nt (dN Y).natAbs)),.int .i64 (dE Y)] rfl rfl (fX Hc.out) zy zx zo zo ?_;intro v' w7 dQ eT _ fq;obtain⟨g',lC,rfl⟩:=ownsRow_succ dQ);go_roundw;case rel=>exact⟨j+1,_,by omega,by go_num,rfl,by rw[cE.out];exact dQ,(aK wH.out Hb.out).grown eT zo (λj e=>cZ cG j e)⟩
     case measure=>simp[intOf];omega
  . obtain rfl:j=n+1:=by omega
    have iJ:Z.take (n+1)=Z:=List.take_of_length_le (by rw[HLl.out];exact Nat.le_refl _);rw[iJ]at Ho;obtain⟨a2,cap2,rfl,iK,_⟩:=dG Ho.out;have tG:=AK Ho.out;obtain⟨nP,BD⟩:=aM iK tG;clear iK tG iJ Ho;go_wp2;refine bodyPost_ret (results_tmp rfl _ _ _) rfl ⟨a2,cap2,rfl,BD.out,nP.out,bQ.out⟩
theorem alc (V B:Nat)(s:Bool)(m:List UInt8)(e:Int)(D:Dyadic)(l:Nat->Dyadic)(w:World)(hV:V<=12)(hf:gY B (s,m,e))(hB:B<=16000)(hD:aC (s,m,e)=D):
 Calls Tryz.prog 61 #[.int .i64 (V:Int),.agg #[.bool s,.string (bs m),.int .i64 e]] w λex w'=>∃a' c',ex=.returned (.tuple #[.agg #[.int .i64 (V:Int),.slice a' (dD V D l 0).length c'],.int .i64 0])/\bR w' a' c' (dD V D l 0)/\Bw w w':=by
 have hC:=Xy V D (s,m,e) l hD;obtain⟨C,zR⟩:=aB (dD V D l 0);rw[zR]at hC⊢;have hmk:=λW b (hb:ak W b 107 [.string (bs (mS V)),.bool s,.string (bs m),.int .i64 e])=>IW V (some ⟨b,0,none⟩) 1 1 [(mS V,(s,m,e))] B W rfl zo (At.aqS hb) (by intro t ht;simp at ht;subst ht;exact hf.1) (by intro t ht;simp at ht;subst ht;exact hf.2) zo;rw[hC]at hmk;have hmb:=λW=>rB (V:Int) V rfl zo W;have hcv:∀W b,Hid (ak W b 5 (cK V λ_=>0))->(convert 111 9 (.slice (some ⟨b,0,none⟩) V V)).run Tryz.prog W=.ok (.string (bs (mS V))) W:=λW b h=>by rw[<-aae];exact wm h.out V
 have mY:=ah hmk;clear hmk hC zR hf hD;have UJ:¬(V:Int)<0:=by omega
 have hV2:¬(12:Int)<(V:Int):=by omega
 obtain⟨W,dw,Hb,Hc,Hr⟩:=pW w 30 [.bool s,.string (bs m),.int .i64 e] 57 [.int .i64 0,.slice none 0 0];obtain⟨c0,c1,c2⟩:=Hc.out.c3;obtain⟨r0,ai,r1,aj⟩:=Hr.out.g2;go_enter Tryz.func61,Tryz.ntmps61;go_wp2_with fail;refine bM (λw'=>w'.cell? ⟨w.heap.size,0,none⟩=some (.bool s)/\w'.cell? ⟨w.heap.size,1,none⟩=some (.string (bs m))/\w'.cell? ⟨w.heap.size,2,none⟩=some (.int .i64 e)) (λi=>Nat.blt i 10) [(0,true),(1,true),(4,true),(2,false),(3,false),(5,true),(6,false),(7,false),(8,true),(9,true),(10,false),(11,false)] zk zk rfl zk zc ⟨c0,c1,c2⟩ ?_;iterate 3 (refine pT rfl rfl ?_ (by intro w' ⟨q0,q1,q2⟩;go_simp;try with_reducible rfl);try simp only[UU])
 refine aI rfl rfl (λK hK=>?_);go_simp;refine hK _ _ (λ_=>⟨aJ c0,aJ c1,aJ c2⟩) ?_;clear hK K;try simp only[UU]
 refine bO (λW3=>ak W3 (W.heap.size) 5 (cK V (λ_=>0))/\Bw W W3) (by first|exact dU|exact dV) ?_;rintro W3 ⟨qq,ae⟩;clear c0 c1 c2 r0 ai r1 aj;have Oh:=Hc.out.lt;have Ed:=Hr.out.lt;replace Hc:=kB Hc ae;replace Hr:=kB Hr ae;have Hq:=ah qq;clear qq;obtain⟨c0,c1,c2⟩:=Hc.out.c3;obtain⟨r0,ai,r1,aj⟩:=Hr.out.g2;replace Hb:=az Hb ae;clear ae;refine aI rfl rfl (λK hK=>?_);go_simp;refine hK _ _ (λ_=>⟨c0,c1,c2⟩) ?_;clear hK K;try simp only[UU]
 refine pT rfl rfl ?_;try simp only[UU]
 refine aI rfl rfl (λK hK=>?_);go_simp;refine hK _ _ (λ_=>⟨aJ c0,aJ c1,aJ c2⟩) ?_;clear hK K;try simp only[UU]
 refine bO (λW4=>ak W4 (W3.heap.size) 107 [.string (bs (mS V)),.bool s,.string (bs m),.int .i64 e]/\Bw W3 W4) (by first|exact dU|exact dV) ?_;rintro W4 ⟨qz,ae⟩;clear c0 c1 c2 r0 ai r1 aj;have XL:=Hc.out.lt;have XM:=Hr.out.lt;have ajf:=Hq.out.lt;replace Hc:=kB Hc ae;replace Hr:=kB Hr ae;replace Hq:=kB Hq ae;have Hz:=ah qz;clear qz;obtain⟨c0,c1,c2⟩:=Hc.out.c3;obtain⟨r0,ai,r1,aj⟩:=Hr.out.g2;obtain⟨z0,z1,z2,z3⟩:=Hz.out.c4;replace Hb:=az Hb ae;clear ae;refine aI rfl rfl (λK hK=>?_);go_simp;with_reducible refine(mY.out _ _ Hz.out).mono ?_
 rintro e w5 ⟨a2,d2,rfl,dP,hq⟩;have ae:Bw W4 w5:=by first|exact hq|exact aV hq
 clear c0 c1 c2 r0 ai r1 aj z0 z1 z2 z3;replace Hc:=kB Hc ae;replace Hr:=kB Hr ae;replace Hq:=kB Hq ae;replace Hz:=kB Hz ae;obtain⟨c0,c1,c2⟩:=Hc.out.c3;obtain⟨r0,ai,r1,aj⟩:=Hr.out.g2;obtain⟨z0,z1,z2,z3⟩:=Hz.out.c4;replace Hb:=az Hb ae;clear ae;refine hK _ _ (λ_=>⟨c0,c1,c2⟩) ?_;clear hK K;try simp only[UU]
 iterate 2 (refine pT rfl rfl ?_;try simp only[UU])
 refine aI rfl rfl (λK hK=>?_);go_simp;refine hK _ _ (by first|exact λh=>absurd h zd|exact λ_=>⟨c0,c1,c2⟩ |exact λ_=>⟨(by first|exact c0|exact aH zf c0|exact aH zf (aH zf c0) |exact aH zf (aH zf (aH zf c0))),(by first|exact c1|exact aH zf c1|exact aH zf (aH zf c1) |exact aH zf (aH zf (aH zf c1))),(by first|exact c2|exact aH zf c2|exact aH zf (aH zf c2) |exact aH zf (aH zf (aH zf c2)))⟩) ?_;clear hK K;try simp only[UU]
 refine aI rfl rfl (λK hK=>?_);go_simp;refine hK _ _ (λh=>absurd h zd) ?_;clear hK K;try simp only[UU]
 simp only[aZ];go_wp2;have h9:=dP.store Hr.out zd (.int .i64 (V:Int)) (.slice a2 C.length d2);refine fy (λw9=>bR w9 a2 d2 C/\ak w9 (w.heap.size+1) 57 [.int .i64 (V:Int),.slice a2 C.length d2]/\Bw w w9) ⟨h9,(Hr.out.set 0 _).set 1 _,(Hb.out.setCell zp _).setCell zp _⟩ ?_;rintro w9 ⟨q1,q2,q3⟩;obtain⟨p0,p1⟩:=q2.c2;exact bodyPost_ret (v:=.tuple #[.agg #[.int .i64 (V:Int),.slice a2 C.length d2],.int .i64 0]) (by simp[results,Tryz.results61,go_sem,p0,p1]) rfl ⟨_,_,rfl,q1,q3⟩
def zE (w:World)(b V:Nat)(A:Nat->Option Addr)(cp:Nat->Nat)(Ts:Nat->List aL):Prop:=∀k,k<2->w.cell? ⟨b,k*2,none⟩=some (.int .i64 (V:Int))/\w.cell? ⟨b,k*2+1,none⟩=some (.slice (A k) (Ts k).length (cp k))/\bR w (A k) (cp k) (Ts k)
theorem zE.below {w w':World}{b V:Nat}{A:Nat->Option Addr}{cp:Nat->Nat}{Ts:Nat->List aL}(h:zE w b V A cp Ts)(hb:Bw w w'):zE w' b V A cp Ts:=λk hk=>⟨cell_later hb (h k hk).1,cell_later hb (h k hk).2.1,(h k hk).2.2.below hb⟩
theorem LK {V B:Nat}{ts:List aL}(h:gZ V B ts)(hB:B<=16384):∀t∈ts,eZ t.2:=λt ht=>by rw[(h.1.1.2 t ht).2];exact Sm.aqT (h.2 t ht).2 hB
theorem aln (V B b:Nat)(A:Nat->Option Addr)(cp:Nat->Nat)(Ts:Nat->List aL)(w:World)(hb:zE w b V A cp Ts)(hf:∀k,k<2->gZ V B (Ts k))(hB:B<=16384):
 Calls Tryz.prog 102 #[.slice (some ⟨b,0,none⟩) 2 2] w λe w'=>e=.returned (.int .i64 0)/\Bw w w':=by
 have ez:=λk (hk:k<2) W (hW:Bw w W)=>YR V (A k) (cp k) (Ts k).length (Ts k) W rfl ((hb.below hW) k hk).2.2.1 (hf k hk).1 (LK (hf k hk) hB);obtain⟨jU,gL⟩:=aM ez hb;clear ez hb hf;have Hb:Hid (Bw w w):=Below.refl _ _;go_enter Tryz.func102,Tryz.ntmps102;go_wp2_with fail;go_loopw[3] (λx wr=>∃k:Nat,k<=2/\x=.int .i64 (k:Int)/\Bw w wr) (λx _=>2-(intOf x).toNat);case atStart=>exact⟨0,Nat.zero_le _,rfl,Hb.out⟩
 case round=>
  clear Hb;obtain⟨k,hk,rfl,pb⟩:=hrel;have hlb:∀k:Nat,k<2->∀W,Sem.run Tryz.prog (Instr.indexAt 50 (Value.slice (some {block:=b,off:=0}) 2 2) (Value.int IntKind.i64 (k:Int))) W=Result.ok (Value.pointer (some {block:=b,off:=k*2})) W:=λk hk=>by have h:=rA 2 2 k (k:Int) (rfl:(some ⟨b,0,none⟩:Option Addr)=_) hk rfl;rw[Nat.zero_add]at h;exact h
  by_cases hlt:k<2
  . obtain⟨c0,c1,_⟩:=(gL.out.below pb) k hlt;have bE:=hlb k hlt;obtain⟨N,hN⟩:=aB ((Ts k).length);have hc:=jU.out k hlt wr pb;rw[hN]at c1 hc;obtain⟨Hc,aQ⟩:=aM hc pb;clear hc pb hN hlb;have lH:(k:Int)<2:=by omega
    go_wp2_with fail;refine Hc.out.mono ?_;rintro e w1 ⟨rfl,hq⟩;have Hq:=ah (aK aQ.out hq);clear hq c0 c1 bE;go_wp2;go_roundw;case rel=>exact⟨k+1,by omega,by go_num,Hq.out⟩
    case measure=>simp[intOf];omega
  . obtain rfl:k=2:=by omega
    obtain⟨aQ,Fv⟩:=aM pb hlb;clear pb hlb hlt;go_wp2_with fail;go_loopw[5] (λx wr=>∃k:Nat,k<=2/\x=.int .i64 (k:Int)/\Bw w wr) (λx _=>2-(intOf x).toNat);case atStart=>exact⟨0,Nat.zero_le _,rfl,aQ.out⟩
    case round=>
     clear aQ;obtain⟨k,hk,rfl,pb⟩:=hrel;by_cases hlt:k<2
     . obtain ⟨c0,_,_⟩:=(gL.out.below pb) k hlt;obtain⟨d0,_,_⟩:=(gL.out.below pb) 0 zo;rw[Nat.zero_mul]at d0;have bE:=Fv.out k hlt;have vr:=Fv.out 0 zo;rw[Nat.zero_mul]at vr;have Hu:Hid (bB wr b (k*2) [.int .i64 (V:Int)]):=fun j hj=>by
        obtain rfl:j=0:=by simp at hj;omega
        exact c0
       have Hv:Hid (bB wr b 0 [.int .i64 (V:Int)]):=λj hj=>by
        obtain rfl:j=0:=by simp at hj;omega
        exact d0
       have aQ:=ah pb;clear pb c0 d0;have lH:(k:Int)<2:=by omega
       go_wp2_with fail;have u0:=Hu.out.w1;have v0:wr.cell? ⟨b,0,none⟩=some (.int .i64 (V:Int)):=Hv.out.cell 0 zm;refine bM (λw'=>w'.cell? ⟨b,k*2,none⟩=some (.int .i64 (V:Int))/\w'.cell? ⟨b,0,none⟩=some (.int .i64 (V:Int))) (λi=>Nat.blt i 100000) [(0,true),(1,true),(2,true),(3,true),(4,true),(5,true),(6,true),(7,true),(8,true),(9,true)] zk zk rfl zk zc ⟨u0,v0⟩ ?_;iterate 10 (refine pT rfl rfl ?_ (by intro w' ⟨q0,q1⟩;go_simp;try with_reducible rfl);try simp only[UU])
       simp only[aZ];go_wp2;go_roundw;case rel=>exact⟨k+1,by omega,by go_num,aQ.out.drew⟩
       case measure=>simp[intOf];omega
     . obtain rfl:k=2:=by omega
       have aQ:=ah pb;clear pb;go_wp2;refine bodyPost_ret (results_tmp rfl _ _ _) rfl ⟨rfl,aQ.out⟩
theorem ak9 (V B b:Nat)(A:Nat->Option Addr)(cp:Nat->Nat)(Ts:Nat->List aL)(C:List aL)(w:World)(hb:zE w b V A cp Ts)(hf:∀k,k<2->gZ V B (Ts k))(hB:B<=8000)(hl:∀k,k<2->(Ts k).length<=100)(hC:bF (Ts 0++Ts 1)=C):
 Calls Tryz.prog 63 #[.slice (some ⟨b,0,none⟩) 2 2] w λex w'=>∃a' c',ex=.returned (.tuple #[.agg #[.int .i64 (V:Int),.slice a' C.length c'],.int .i64 0])/\bR w' a' c' C/\Bw w w':=by
 obtain⟨i0,hi,hz0,hz1,hz2⟩:=info_parts Tryz.aqW;have hlk:=λW (hW:Bw w W)=>aln V B b A cp Ts W (hb.below hW) hf zo;obtain⟨Q,hQ⟩:=aB (lA Ts);have xB:Q 0=[]:=by rw[<-hQ];rfl
 have mG:∀k,Q (k+1)=Q k++Ts k:=λk=>by rw[<-hQ];rfl
 have Mm:Q 2=Ts 0++Ts 1:=by rw[mG,mG,xB,List.nil_append]
 have Mn:∀t∈Q 2,eZ t.2/\Sm B (aC t.2):=λt ht=>by
  rw[Mm]at ht;rcases List.mem_append.1 ht with h|h
  . exact⟨LK (hf 0 zo) zo t h,((hf 0 zo).2 t h).2⟩
  . exact⟨LK (hf 1 zo) zo t h,((hf 1 zo).2 t h).2⟩
 have uU:∀k,k<=2->(Q k).length<=100*k:=by
  intro k;induction k with
  |zero=>intro _;rw[xB];simp
  |succ k ih=>intro h;have h1:=ih zo;have h2:=hl k zo;rw[mG,List.length_append];omega
 have hg:=λa' n c' W (hn:(Q 2).length=n) (ha:At W a' ((Q 2).flatMap aO))=>IW V a' n c' (Q 2) B W hn (by have:=uU 2 zo;omega) ha (λt ht=>(Mn t ht).1) (λt ht=>(Mn t ht).2) (by have:=uU 2 zo;omega);have TX:bF (Q 2)=C:=by rw[Mm];exact hC
 rw[TX]at hg;obtain⟨Hi,cN,cO,cH,Kf,QF,QG,EX,Hg,gL⟩:=yj hi hz0 hz1 hz2 hlk xB mG uU hg hb;clear hi hz0 hz1 hz2 hlk xB mG Mm Mn uU hg TX hb hf hC hQ hl;obtain⟨W,dw,Hb,Hr⟩:=iP w 57 [.int .i64 0,.slice none 0 0];obtain⟨r0,ai,r1,aj⟩:=Hr.out.g2;go_enter Tryz.func63,Tryz.ntmps63;go_wp2_with fail;refine(Kf.out _ Hb.out).mono ?_;rintro e w1 ⟨rfl,ae⟩;clear r0 ai r1 aj;replace Hr:=kB Hr ae;obtain⟨r0,ai,r1,aj⟩:=Hr.out.g2;replace Hb:=az Hb ae;clear ae;have lr:=Hr.out.lt;have rX:=Hb.out.size;have jE:=Hr;have dK:=Hb;go_wp2_with fail;go_loopw[5,6] (λs5 x wr=>∃(k n:Nat) (v:Value),k<=2/\x=.int .i64 (k:Int)/\v=s5/\(Q k).length=n/\wr.ownsRow w1.heap.size 107 4 v n ((Q k).flatMap aO)/\Bw w1 wr) (λ_ x _=>2-(intOf x).toNat);case atStart=>exact⟨0,0,_,Nat.zero_le _,rfl,rfl,by rw[QF.out];rfl,by rw[QF.out];exact World.ownsRow_nil _ _ _ _,Below.refl _ _⟩
 case round=>
  clear r0 ai r1 aj Hr Hb;obtain⟨k,n,v,hk,rfl,rfl,hn,ho,pb⟩:=hrel;have dt:=aK dK.out pb;have hlb:∀k:Nat,k<2->∀W,Sem.run Tryz.prog (Instr.indexAt 50 (Value.slice (some {block:=b,off:=0}) 2 2) (Value.int IntKind.i64 (k:Int))) W=Result.ok (Value.pointer (some {block:=b,off:=k*2})) W:=λk hk=>by have h:=rA 2 2 k (k:Int) (rfl:(some ⟨b,0,none⟩:Option Addr)=_) hk rfl;rw[Nat.zero_add]at h;exact h
  by_cases hlt:k<2
  . obtain⟨c0,c1,hp⟩:=(gL.out.below dt) k hlt;have bE:=hlb k hlt;obtain⟨N,hN⟩:=aB ((Ts k).length);have hsl:=hp.2.1;have Ag:((Ts k).flatMap aO).length=N*4:=by rw[kX,hN]
    rw[hN]at c1 hsl;have hnx:(Q (k+1)).length=n+N:=by rw[QG.out,List.length_append,hn,hN]
    have DI:=EX.out (k+1) zo;rw[hnx]at DI;have gm:=pb.size;obtain⟨td,Hln,fx,mZ,Ho,aQ⟩:=gF hsl Ag hp.1 hnx ho pb;clear hsl Ag hp hnx ho pb dt hlb hn hN c0;have lH:(k:Int)<2:=by omega
    go_wp2_with (at_builtin;refine oN rfl _ _ 55 rfl w1.heap.size 107 i0 _ 4 48 Tryz.underlying55 Hi.out cN.out cO.out cH.out rfl zd v n ((Q k).flatMap aO) rfl Ho.out (A k) N (cp k) ((Ts k).flatMap aO) rfl td.out Hln.out fx.out (rF _) zx zo zo ?_;intro v9 w9 gT pJ Ij);have jX:=aQ.out.grown pJ gm (λj e=>cZ Ho.out j e);go_roundw;case rel=>exact⟨k+1,n+N,v9,by omega,by go_num,rfl,mZ.out,by rw[QG.out,List.flatMap_append];exact gT,jX⟩
    case measure=>simp[intOf];omega
  . obtain rfl:k=2:=by omega
    obtain⟨a4,c4,rfl,hat,_⟩:=dG ho;obtain⟨c0,_,_⟩:=(gL.out.below dt) 0 zo;have vr:=hlb 0 zo;rw[Nat.zero_mul]at c0 vr;have hgg:=Hg.out a4 n c4 wr hn hat;have hr2:=jE.out.below pb;obtain⟨Hgg,Hr,Hb⟩:=cX hgg hr2 dt;clear hgg hr2 dt hlb hat ho pb hn;obtain⟨r0,ai,r1,aj⟩:=Hr.out.g2;go_wp2_with fail;refine Hgg.out.mono ?_;rintro e w5 ⟨a2,d2,rfl,dP,hq⟩;clear r0 ai r1 aj;replace Hr:=kB Hr hq;obtain⟨r0,ai,r1,aj⟩:=Hr.out.g2;replace Hb:=ah (aK Hb.out hq);clear hq c0 vr;go_wp2;have h9:=dP.store Hr.out zd (.int .i64 (V:Int)) (.slice a2 C.length d2);refine fy (λw9=>bR w9 a2 d2 C/\ak w9 w.heap.size 57 [.int .i64 (V:Int),.slice a2 C.length d2]/\Bw w w9) ⟨h9,(Hr.out.set 0 _).set 1 _,(Hb.out.setCell zp _).setCell zp _⟩ ?_;rintro w9 ⟨q1,q2,q3⟩;obtain⟨p0,p1⟩:=q2.c2;exact bodyPost_ret (v:=.tuple #[.agg #[.int .i64 (V:Int),.slice a2 C.length d2],.int .i64 0]) (by simp[results,Tryz.results63,go_sem,p0,p1]) rfl ⟨_,_,rfl,q1,q3⟩
end Go.Proofs.YtdaadlblknpipaaGreatDoor
