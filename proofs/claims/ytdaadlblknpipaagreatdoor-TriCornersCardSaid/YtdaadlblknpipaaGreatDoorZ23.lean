/- Package ogeeref08: Var,Check of what may be,Scale,Terms,Same. -/
import Derived.Test.YtdaadlblknpipaaGreatDoorZ18
import Derived.Test.YtdaadlblknpipaaGreatDoorZ22
set_option linter.unusedVariables false
set_option linter.unusedSimpArgs false
set_option maxRecDepth 100000
set_option maxHeartbeats 16000000
namespace Go.Proofs.YtdaadlblknpipaaGreatDoor
open Go.RowKit
attribute [local go_sem ↓] Go.wp_at_zero Go.wp_at_succ
theorem amu (V k:Nat)(w:World)(hV:V<=12)(hk:k<V):
 Calls Tryz.prog 42 #[.int .i64 (V:Int),.int .i64 (k:Int)] w λex w'=>∃a' c',ex=.returned (.tuple #[.agg #[.int .i64 (V:Int),.slice a' (bH [(cQ V k,canon 1)]).length c'],.int .i64 0])/\cz w' a' c' (bH [(cQ V k,canon 1)])/\Bw w w':=by
 obtain⟨C,hC⟩:=aB (bH [(cQ V k,canon 1)]);rw[hC];obtain⟨O,hO⟩:∃O:Dyadic,(1:Dyadic)=O:=⟨_,rfl⟩;have hmk:=λW b (hb:ai W b 107 [.string (bs (cQ V k)),.bool (ar (dN O)),.string (bs (nt (dN O).natAbs)),.int .i64 (dE O)])=>YT V (some ⟨b,0,none⟩) 1 1 [(cQ V k,canon 1)] 1 W rfl zo (by rw[hO];exact At.arG hb) (by intro t ht;simp at ht;subst ht;exact Sm.arJ Sm.one zd) (by intro t ht;simp at ht;subst ht;show Sm 1 (aC (canon 1));rw[bK];exact Sm.one) zo;rw[hC]at hmk;have hof:∀W,Calls Tryz.prog 62 #[.int .i64 1] W λe w'=>e=.returned (bL O)/\Bw W w':=λW=>al8 1 O hO W zd;have hmb:=λW=>rz (V:Int) V rfl zo W;have hcv:∀W b,Hid (ai W b 5 (cw V λj=>if j=k then 1 else 0))->(convert 111 9 (.slice (some ⟨b,0,none⟩) V V)).run Tryz.prog W=.ok (.string (bs (cQ V k))) W:=λW b h=>by rw[<-ZH V k];exact xY h.out V
 have bB:=λb=>vh V V k (k:Int) (rfl:(some ⟨b,0,none⟩:Option Addr)=_) hk rfl;simp only[Nat.zero_add,Nat.mul_one]at bB;have hget:(cw V λ_=>0)[k]?=some (.int .u8 0):=kE _ _ _ hk;have mP:(cw V λ_=>0).set k (.int .u8 1)=cw V λj=>if j=k then 1 else 0:=xZ V _ k 1
 obtain⟨sf,ui⟩:=aL hmk hof;clear hmk hof hC hO;have CG:¬(k:Int)<0:=by omega
 have hVi:¬(V:Int)<0:=by omega
 have hV2:¬(12:Int)<(V:Int):=by omega
 have hkV:¬(V:Int)<=(k:Int):=by omega
 obtain⟨W,dF,Hb,Hr⟩:=jl w 57 [.int .i64 0,.slice none 0 0];obtain⟨r0,aj,r1,ak⟩:=Hr.out.g2;go_enter Tryz.func42,Tryz.ntmps42;go_wp2_with fail;have hrl:=Hr.out.lt;obtain⟨R,hR⟩:∃R:World->Prop,(λW3=>ai W3 W.heap.size 5 (cw V λj=>if j=k then 1 else 0)/\Bw W W3)=R:=⟨_,rfl⟩;first|refine bE R ?hR ?_|refine bD R ?hR ?_
 case hR=>subst hR;exact⟨ai.newAt W _ _ (b:=W.heap.size) rfl,zl⟩
 subst hR;intro W3 ⟨qm,ae⟩;clear r0 aj r1 ak;replace Hr:=kB Hr ae;obtain⟨r0,aj,r1,ak⟩:=Hr.out.g2;replace Hb:=ah (aJ Hb.out ae);have Hm:=ah qm;clear qm ae hget mP bB hmb;have rQ:∀w',iy W3 w'->(convert 111 9 (.slice (some ⟨W.heap.size,0,none⟩) V V)).run Tryz.prog w'=.ok (.string (bs (cQ V k))) w':=λw' h=>hcv w' _ (ah (Hm.out.below h));have bJ:Hid (iy W3 W3):=Below.refl _ _;refine bC (λw'=>iy W3 w') (λi=>Nat.blt i 9) [(0,true),(1,true),(2,true),(3,false),(4,true),(5,false),(6,false),(7,true),(8,true),(9,false),(10,false)] zk zk rfl zk zc bJ.out.drew ?_;iterate 3 (refine Oh rfl rfl (v:=?_) (λw' hw'=>?_) ?_;rotate_left;(focus have hw':=rQ w' hw';go_simp;try with_reducible rfl);try simp only[UU])
 refine aI rfl rfl (λK hK=>?_);go_simp;with_reducible refine(ui.out _).mono ?_
 rintro e w4 ⟨rfl,hq⟩;have ae:Bw W3 w4:=by first|exact hq|exact aN hq
 clear r0 aj r1 ak;replace bJ:=ah (bJ.out.below ae);replace Hr:=kB Hr ae;obtain⟨r0,aj,r1,ak⟩:=Hr.out.g2;replace Hb:=au Hb ae;clear ae;refine hK _ _ (λ_=>bJ.out) ?_;clear hK K;try simp only[UU]
 refine pT rfl rfl ?_;try simp only[UU]
 refine aI rfl rfl (λK hK=>?_);go_simp;refine hK _ _ (λ_=>by first|exact bJ.out.alloc _|exact(bJ.out.alloc _).drew|exact(bJ.out.drew).alloc _) ?_;clear hK K;try simp only[UU]
 refine bF (λW5=>ai W5 (w4.heap.size) 107 [.string (bs (cQ V k)),.bool (ar (dN O)),.string (bs (nt (dN O).natAbs)),.int .i64 (dE O)]/\Bw w4 W5) (by first|exact dL|exact dM) ?_;rintro W5 ⟨qz,ae⟩;clear r0 aj r1 ak;have Ic:=Hr.out.lt;replace bJ:=ah (bJ.out.below ae);replace Hr:=kB Hr ae;have Hz:=ah qz;clear qz;obtain⟨r0,aj,r1,ak⟩:=Hr.out.g2;obtain⟨z0,z1,z2,z3⟩:=Hz.out.c4;replace Hb:=au Hb ae;clear ae;refine aI rfl rfl (λK hK=>?_);go_simp;with_reducible refine(sf.out _ _ Hz.out).mono ?_
 rintro e w6 ⟨a2,d2,rfl,eF,hq⟩;have ae:Bw W5 w6:=by first|exact hq|exact aN hq
 clear r0 aj r1 ak z0 z1 z2 z3;replace bJ:=ah (bJ.out.below ae);replace Hr:=kB Hr ae;replace Hz:=kB Hz ae;obtain⟨r0,aj,r1,ak⟩:=Hr.out.g2;obtain⟨z0,z1,z2,z3⟩:=Hz.out.c4;replace Hb:=au Hb ae;clear ae;refine hK _ _ (λ_=>bJ.out) ?_;clear hK K;try simp only[UU]
 iterate 2 (refine pT rfl rfl ?_;try simp only[UU])
 refine aI rfl rfl (λK hK=>?_);go_simp;refine hK _ _ (by first|exact λh=>absurd h zd|exact λ_=>bJ.out|exact λ_=>ft zg bJ.out) ?_;clear hK K;try simp only[UU]
 refine aI rfl rfl (λK hK=>?_);go_simp;refine hK _ _ (λh=>absurd h zd) ?_;clear hK K;try simp only[UU]
 simp only[aS];go_wp2;have h9:=eF.store Hr.out zd (.int .i64 (V:Int)) (.slice a2 C.length d2);refine fR (λw9=>cz w9 a2 d2 C/\ai w9 w.heap.size 57 [.int .i64 (V:Int),.slice a2 C.length d2]/\Bw w w9) ⟨h9,(Hr.out.set 0 _).set 1 _,(Hb.out.setCell (Nat.le_refl _) _).setCell (Nat.le_refl _) _⟩ ?_;rintro w9 ⟨q1,q2,q3⟩;obtain⟨p0,p1⟩:=q2.c2;exact bodyPost_ret (v:=.tuple #[.agg #[.int .i64 (V:Int),.slice a2 C.length d2],.int .i64 0]) (by simp[results,Tryz.results42,go_sem,p0,p1]) rfl ⟨_,_,rfl,q1,q3⟩
theorem alg {V:Nat}{ts:List aK}(h:BF V ts)(k:Nat)(hk:k<ts.length):fH ts[k].1 V=true/\aC ts[k].2≠0/\ts[k].2=canon (aC ts[k].2)/\(0<k->Op.bytesLess (ts[k-1]'zo).1 ts[k].1=true):=by obtain⟨⟨h1,h2⟩,h3,h4,h5⟩:=h;have hm:=List.getElem_mem hk;exact⟨h3 _ hm,(h2 _ hm).1,(h2 _ hm).2,λh0=>List.pairwise_iff_getElem.1 h1 (k-1) k zo hk zo⟩
theorem ama (V:Nat)(a:Option Addr)(cap N:Nat)(ts:List aK)(w:World)(hN:ts.length=N)(ha:At w a (ts.flatMap aM))(hp:BF V ts)(hf:∀t∈ts,ic t.2):
 Calls Tryz.prog 82 #[.agg #[.int .i64 (V:Int),.slice a N cap]] w λe w'=>e=.returned (.int .i64 0)/\Bw w w':=by
 have hn:N<=4096:=by rw[<-hN];exact hp.2.2.1
 have hV:V<=12:=hp.2.2.2;have hg:=λk hk=>alg hp k hk;obtain⟨Ha,Hg,HN,Hf⟩:=dH ha hg hN hf;clear ha hg hN hf hp;have hVi:¬(V:Int)<0:=by omega
 have hV2:¬(12:Int)<(V:Int):=by omega
 have bz:¬(4096:Int)<(N:Int):=by omega
 have apC:decide ((4096:Int)<(N:Int))=false:=by simp;omega
 obtain⟨W,dF,Hb,Hp⟩:=jl w 57 [.int .i64 (V:Int),.slice a N cap];obtain⟨p0,p1⟩:=Hp.out.c2;go_enter Tryz.func82,Tryz.ntmps82;go_wp2_with fail;go_loopw[3] (λx wr=>∃k:Nat,k<=N/\x=.int .i64 (k:Int)/\ai wr w.heap.size 57 [.int .i64 (V:Int),.slice a N cap]/\Bw w wr) (λx _=>N-(intOf x).toNat);case atStart=>exact⟨0,Nat.zero_le _,rfl,Hp.out,Hb.out⟩
 case round=>
  clear p0 p1 Hp Hb;obtain⟨k,hk,rfl,iL,pb⟩:=hrel;by_cases hlt:k<N
  . have hk2:k<ts.length:=by rw[HN.out];exact hlt
    obtain⟨l,s,m,e,hx⟩:∃l s m e,ts[k]=(l,s,m,e):=⟨_,_,_,_,rfl⟩;obtain⟨b,o,hab,bY⟩:=(Ha.out.below pb).term k hk2 hx;obtain⟨g1,g2,g3,g4⟩:=Hg.out k hk2;have dc:ic (s,m,e):=by have:=Hf.out _ (List.getElem_mem hk2);rw[hx]at this;exact this
    have hfl:m.length<=16384:=dc.1;rw[hx]at g1 g2 g3;simp only[hx]at g4;obtain⟨X,hX⟩:=aB (aC (s,m,e));obtain⟨sg,gJ⟩:=aB (bV X);have hs1:(sg==0)=false:=by rw[<-gJ,ux,<-hX];exact g2
    have hne:=NS X s m e false (by rw[<-hX];simpa using g3.symm);have qh:=λW=>al5 l (V:Int) W (by have hll:l.length=V:=XZ g1;omega);rw[g1]at qh;have bB:=jg N cap k (k:Int) hab hlt rfl;have WI:=λW=>Iq s m e sg (by rw[hX];exact gJ) W zo;have hfo:=λW=>Aj s m e X hX W dc;obtain⟨se,Hsn,JA,aQ,kF,Hp⟩:=iz qh WI hfo pb hab iL;have lH:Hid (aY wr b (o+k*4) [.string (bs l),.bool s,.string (bs m),.int .i64 e]):=bY;have sz:=pb.size;clear qh WI hfo pb iL bY hX gJ g1 g2 g3 dc hab;have Hb:Hid (Bw wr wr):=Below.refl _ _;obtain⟨p0,p1⟩:=Hp.out.c2;obtain⟨tV,tW,tX,tY⟩:=lH.out.w4;have P0:=tV;have P1:=tW;have P2:=tX;have P3:=tY;have Q1:=p1;have ajR:=Hp.out.lt;obtain⟨W4,kj,ae,Ht⟩:=cL wr 107 [.string (bs l),.bool s,.string (bs m),.int .i64 e];clear p0 p1;replace Hp:=kB Hp ae;clear tV tW tX tY;replace lH:=kW lH ae;obtain⟨p0,p1⟩:=Hp.out.c2;obtain⟨tV,tW,tX,tY⟩:=lH.out.w4;obtain⟨t0,t1,t2,t3⟩:=Ht.out.c4;replace Hb:=au Hb ae;clear ae;go_wp2_with fail;clear P0 P1 P2 P3 Q1 tV tW tX tY lH;refine bC (λw'=>w'.cell? ⟨w.heap.size,0,none⟩=some (.int .i64 (V:Int))/\w'.cell? ⟨w.heap.size,1,none⟩=some (.slice a N cap)/\w'.cell? ⟨wr.heap.size,0,none⟩=some (.string (bs l))/\w'.cell? ⟨wr.heap.size,1,none⟩=some (.bool s)/\w'.cell? ⟨wr.heap.size,2,none⟩=some (.string (bs m))/\w'.cell? ⟨wr.heap.size,3,none⟩=some (.int .i64 e)) (λi=>Nat.blt i 100000) [(0,true),(1,true),(2,true),(3,true),(4,false),(5,true),(6,true),(7,true),(8,true),(9,false),(10,true),(11,true),(12,true),(13,true),(14,true),(16,true),(17,true),(15,false),(18,true),(19,true)] zk zk rfl zk zc ⟨p0,p1,t0,t1,t2,t3⟩ ?_;iterate 4 (refine pT rfl rfl ?_ (by intro w' ⟨q0,q1,q2,q3,q4,q5⟩;go_simp;try with_reducible rfl);try simp only[UU])
    refine aI rfl rfl (λK hK=>?_);go_simp;with_reducible refine(se.out _).mono ?_
    rintro e w5 ⟨rfl,hq⟩;have ae:Bw W4 w5:=by first|exact hq|exact aN hq
    clear p0 p1 t0 t1 t2 t3;replace Hp:=kB Hp ae;replace Ht:=kB Ht ae;obtain⟨p0,p1⟩:=Hp.out.c2;obtain⟨t0,t1,t2,t3⟩:=Ht.out.c4;replace Hb:=au Hb ae;clear ae;refine hK _ _ (λ_=>⟨p0,p1,t0,t1,t2,t3⟩) ?_;clear hK K;try simp only[UU]
    iterate 4 (refine pT rfl rfl ?_ (by intro w' ⟨q0,q1,q2,q3,q4,q5⟩;go_simp;try with_reducible rfl);try simp only[UU])
    refine aI rfl rfl (λK hK=>?_);go_simp;with_reducible refine(Hsn.out _).mono ?_
    rintro e w6 ⟨rfl,hq⟩;have ae:Bw w5 w6:=by first|exact hq|exact aN hq
    clear p0 p1 t0 t1 t2 t3;replace Hp:=kB Hp ae;replace Ht:=kB Ht ae;obtain⟨p0,p1⟩:=Hp.out.c2;obtain⟨t0,t1,t2,t3⟩:=Ht.out.c4;replace Hb:=au Hb ae;clear ae;refine hK _ _ (λ_=>⟨p0,p1,t0,t1,t2,t3⟩) ?_;clear hK K;try simp only[UU]
    iterate 7 (refine pT rfl rfl ?_ (by intro w' ⟨q0,q1,q2,q3,q4,q5⟩;go_simp;try with_reducible rfl);try simp only[UU])
    refine aI rfl rfl (λK hK=>?_);go_simp;with_reducible refine(JA.out _).mono ?_
    rintro e w7 ⟨rfl,hq⟩;have ae:Bw w6 w7:=by first|exact hq|exact aN hq
    clear p0 p1 t0 t1 t2 t3;replace Hp:=kB Hp ae;replace Ht:=kB Ht ae;obtain⟨p0,p1⟩:=Hp.out.c2;obtain⟨t0,t1,t2,t3⟩:=Ht.out.c4;replace Hb:=au Hb ae;clear ae;refine hK _ _ (λ_=>⟨p0,p1,t0,t1,t2,t3⟩) ?_;clear hK K;try simp only[UU]
    iterate 2 (refine pT rfl rfl ?_;try simp only[UU])
    simp only[aS];by_cases kr:k=0
    . have hk1:decide (0<k)=false:=by simp;omega
      have ah4:decide ((0:Int)<(k:Int))=false:=by simp;omega
      clear kr g4;go_wp2_with fail;refine bC (λw'=>w'.cell? ⟨w.heap.size,0,none⟩=some (.int .i64 (V:Int))/\w'.cell? ⟨w.heap.size,1,none⟩=some (.slice a N cap)/\w'.cell? ⟨wr.heap.size,0,none⟩=some (.string (bs l))/\w'.cell? ⟨wr.heap.size,1,none⟩=some (.bool s)/\w'.cell? ⟨wr.heap.size,2,none⟩=some (.string (bs m))/\w'.cell? ⟨wr.heap.size,3,none⟩=some (.int .i64 e)) (λi=>Nat.blt i 100000) [(0,true),(1,true),(2,true),(3,true),(4,true),(5,true),(6,true),(7,true),(8,true),(9,true),(10,true),(11,true),(12,true),(13,true)] zk zk rfl zk zc ⟨p0,p1,t0,t1,t2,t3⟩ ?_;iterate 3 (refine pT rfl rfl ?_;try simp only[UU])
      refine aZ rfl rfl ?_;try simp only[UU]
      refine aZ rfl rfl ?_;try simp only[UU]
      refine aZ rfl rfl ?_;try simp only[UU]
      refine aZ rfl rfl ?_;try simp only[UU]
      refine aZ rfl rfl ?_;try simp only[UU]
      refine aZ rfl rfl ?_;try simp only[UU]
      refine aZ rfl rfl ?_;try simp only[UU]
      refine aZ rfl rfl ?_;try simp only[UU]
      refine aZ rfl rfl ?_;try simp only[UU]
      refine aZ rfl rfl ?_;try simp only[UU]
      refine pT rfl rfl ?_;try simp only[UU]
      simp only[aS];go_wp2;go_roundw;case rel=>exact⟨k+1,by omega,by go_num,Hp.out,(aJ aQ.out Hb.out).drew⟩
      case measure=>simp[intOf];omega
    . have qZ:=g4 zo;have mM:k-1<ts.length:=by omega
      obtain⟨l',s',m',e',hx'⟩:∃l s m e,ts[k-1]=(l,s,m,e):=⟨_,_,_,_,rfl⟩;obtain⟨b',o',qX,rq⟩:=(Ha.out.below (aJ aQ.out Hb.out)).term (k-1) mM hx';have hab:=kF.out;rw[hab]at qX;simp only[Option.some.injEq,Addr.mk.injEq,and_true]at qX;obtain⟨rfl,rfl⟩:=qX;rw[hx']at qZ;have gX:Op.bytesLess (bs l').toList (bs l).toList=true:=by rw[fS,fS];exact qZ
      have hge:Op.bytesLess (bs l).toList (bs l').toList=false:=by
       rw[fS,fS];cases hc:Op.bytesLess l l' with
       |false=>rfl
       |true=>have:=BJ qZ hc;rw[yF]at this;cases this
      have ah4:decide ((0:Int)<(k:Int))=true:=by simp;omega
      have hk1:decide (0<k)=true:=by simp;omega
      have qY:IntKind.i64.wrap ((k:Int)-1)=((k-1:Nat):Int):=by rw[IntKind.wrap_i64];omega
      have Mw:=jg N cap (k-1) ((k-1:Nat):Int) hab zo rfl;obtain⟨kp,zH⟩:=aB (k-1);rw[zH]at Mw qY rq;have ah6:kp<N:=by omega
      have dK:Hid (aY w7 b (o+kp*4) [.string (bs l'),.bool s',.string (bs m'),.int .i64 e']):=rq;clear rq kr hx' zH hab qZ g4 mM;obtain⟨p0,p1⟩:=Hp.out.c2;obtain⟨t0,t1,t2,t3⟩:=Ht.out.c4;have iw:w7.cell? ⟨b,o+kp*4,none⟩=some (.string (bs l')):=dK.out.cell 0 zm;go_wp2_with fail;refine bC (λw'=>w'.cell? ⟨w.heap.size,0,none⟩=some (.int .i64 (V:Int))/\w'.cell? ⟨w.heap.size,1,none⟩=some (.slice a N cap)/\w'.cell? ⟨wr.heap.size,0,none⟩=some (.string (bs l))/\w'.cell? ⟨b,o+kp*4,none⟩=some (.string (bs l'))) (λi=>Nat.blt i 100000) [(0,true),(1,true),(2,true),(3,true),(4,true),(5,true),(6,true),(7,true),(8,true),(9,true),(10,true),(11,true),(12,true),(13,true)] zk zk rfl zk zc ⟨p0,p1,t0,iw⟩ ?_;iterate 14 (refine pT rfl rfl ?_ (by intro w' ⟨q0,q1,q2,q3⟩;go_simp;try with_reducible rfl);try simp only[UU])
      simp only[aS];go_wp2;go_roundw;case rel=>exact⟨k+1,by omega,by go_num,Hp.out,(aJ aQ.out Hb.out).drew⟩
      case measure=>simp[intOf];omega
  . obtain rfl:k=N:=by omega
    obtain⟨Hp,aQ⟩:=aL iL pb;obtain⟨p0,p1⟩:=Hp.out.c2;go_wp2;refine bodyPost_ret (results_tmp rfl _ _ _) rfl ⟨rfl,aQ.out⟩
theorem ami (V:Nat)(a:Option Addr)(cap:Nat)(ts:List aK)(s:Bool)(m:List UInt8)(e:Int)(D:Dyadic)(B:Nat)(w:World)(hp:jo V B ts)(ha:cz w a cap ts)(dc:ic (s,m,e))(qw:Sm B (aC (s,m,e)))(hB:2*B+4096<=16384)(hD:aC (s,m,e)=D):
 Calls Tryz.prog 43 #[.agg #[.int .i64 (V:Int),.slice a ts.length cap],.agg #[.bool s,.string (bs m),.int .i64 e]] w λex w'=>∃a' c',ex=.returned (.tuple #[.agg #[.int .i64 (V:Int),.slice a' (bH (dQ D ts)).length c'],.int .i64 0])/\cz w' a' c' (bH (dQ D ts))/\Bw w w':=by
 obtain⟨i0,hi,hz0,hz1,hz2⟩:=info_parts Tryz.arL;obtain⟨n,hn⟩:=aB ts.length;have hnl:n<=4096:=by have:=hp.1.2.2.1;omega
 have iJ:(dQ D ts).length=n:=by unfold dQ;rw[List.length_map,hn]
 have hsm:∀t∈ts,Sm B (aC t.2):=λt ht=>(hp.2 t ht).2;have lO:∀t∈ts,ic t.2:=λt ht=>by rw[(hp.1.1.2 t ht).2];exact(hsm t ht).arJ zo
 rw[hD]at qw;have mI:∀t∈dQ D ts,Sm (2*B) (aC t.2):=by
  intro t ht;unfold dQ at ht;obtain⟨x,hx,rfl⟩:=List.mem_map.1 ht;show Sm _ (aC (canon _))
  rw[bK];exact(Sm.mul (hsm x hx) qw).mono zo
 have Ck:∀t∈dQ D ts,ic t.2:=by
  intro t ht;have h1:=mI t ht;unfold dQ at ht;obtain⟨x,hx,rfl⟩:=List.mem_map.1 ht;have h2:Sm (2*B) (aC x.2*D):=by have h3:aC (canon (aC x.2*D))=aC x.2*D:=bK _;rw[<-h3];exact h1
  exact h2.arJ zo
 have fp:=λW (hW:Bw w W)=>ama V a cap n ts W hn (ha.1.below hW) hp.1 lO;have uM:=λW a' c' (h:At W a' ((dQ D ts).flatMap aM))=>YT V a' n c' (dQ D ts) (2*B) W iJ hnl h Ck mI zo;obtain⟨C,hC⟩:=aB (bH (dQ D ts));obtain⟨Q,hQ⟩:=aB (dQ D ts);rw[hC]at uM⊢;have Uo:∀k (h:k<ts.length) (h2:k<Q.length),Q[k]=(ts[k].1,canon (aC ts[k].2*D)):=λk h h2=>by subst hQ;simp[dQ]
 rw[hQ]at uM iJ;rw[hn];obtain⟨Hi,cX,cN,cO,mn,vY,Bb,Hn,fI,HD,Ha,HQg⟩:=gY hi hz0 hz1 hz2 fp uM lO hn dc hD ha.1 Uo;have Qd:=ah iJ;clear hi hz0 hz1 hz2 fp uM lO hn dc hD hC hQ iJ mI Ck hsm ha hp qw Uo;have Hb:Hid (Bw w w):=Below.refl _ _;go_enter Tryz.func43,Tryz.ntmps43;go_wp2_with fail;obtain⟨R,hR⟩:∃R:World->Prop,(λW=>ai W (w.heap.size) 57 [.int .i64 (V:Int),.slice a n cap]/\ai W (w.heap.size+1) 30 [.bool s,.string (bs m),.int .i64 e]/\ai W (w.heap.size+1+1) 57 [.int .i64 0,.slice none 0 0]/\Bw w W)=R:=⟨_,rfl⟩;first|refine bE R ?hR ?_|refine bD R ?hR ?_
 case hR=>subst hR;exact⟨(((ai.newAt w _ _ (b:=w.heap.size) rfl).alloc _).alloc _),((ai.newAt (w.alloc _) _ _ (b:=w.heap.size+1) zm).alloc _),(ai.newAt ((w.alloc _).alloc _) _ _ (b:=w.heap.size+1+1) zm),((zl.alloc zj _).alloc zj _)⟩
 subst hR;rintro W ⟨qp,qc,qr,ae⟩;have Hp:=ah qp;clear qp;have Hc:=ah qc;clear qc;have Hr:=ah qr;clear qr;obtain⟨p0,p1⟩:=Hp.out.c2;obtain⟨c0,c1,c2⟩:=Hc.out.c3;obtain⟨r0,aj,r1,ak⟩:=Hr.out.g2;replace Hb:=au Hb ae;clear ae;go_wp2_with fail;refine(mn.out _ Hb.out).mono ?_;rintro e w1 ⟨rfl,ae⟩;clear p0 p1 c0 c1 c2 r0 aj r1 ak;replace Hp:=kB Hp ae;replace Hc:=kB Hc ae;replace Hr:=kB Hr ae;obtain⟨p0,p1⟩:=Hp.out.c2;obtain⟨c0,c1,c2⟩:=Hc.out.c3;obtain⟨r0,aj,r1,ak⟩:=Hr.out.g2;replace Hb:=au Hb ae;clear ae;have Bj:=Hp;have yj:=Hc;have jX:=Hr;have dI:=Hb;go_wp2_with fail;go_loopw[7,8] (λs7 x wr=>∃(k:Nat) (v:Value),k<=n/\x=.int .i64 (k:Int)/\v=s7/\wr.ownsRow w1.heap.size 107 4 v k ((Q.take k).flatMap aM)/\Bw w1 wr) (λ_ x _=>n-(intOf x).toNat);case atStart=>exact⟨0,_,Nat.zero_le _,rfl,rfl,World.ownsRow_nil _ _ _ _,Below.refl _ _⟩
 case round=>
  clear p0 p1 c0 c1 c2 r0 aj r1 ak Hp Hc Hr Hb;obtain⟨k,v,hk,rfl,rfl,ho,pb⟩:=hrel;obtain⟨Hp,Hc,Hr⟩:=cK (Bj.out.below pb) (yj.out.below pb) (jX.out.below pb);have eo:=aJ dI.out pb;have Al:=dI.out.size;have lc1:=yj.out.lt;have lr1:=jX.out.lt;by_cases hlt:k<n
  . have hk2:k<ts.length:=by rw[Hn.out];exact hlt
    have VM:k<Q.length:=by rw[Qd.out];exact hlt
    obtain⟨l,s1,q1,e1,hx⟩:∃l s m e,ts[k]=(l,s,m,e):=⟨_,_,_,_,rfl⟩;obtain⟨b,o,rfl,bY⟩:=(Ha.out.below eo).term k hk2 hx;have lbt:b<w.heap.size:=by obtain⟨b3,o3,h3,hw3⟩:=Ha.out.term k hk2 hx;simp only[Option.some.injEq,Addr.mk.injEq,and_true]at h3;obtain⟨rfl,rfl⟩:=h3;exact World.block_lt_of_cell? w _ (hw3.cell 0 zm)
    have bB:=jg n cap k (k:Int) (rfl:(some ⟨b,o,none⟩:Option Addr)=_) hlt rfl;have jI:ic (s1,q1,e1):=by have:=Bb.out _ (List.getElem_mem hk2);rw[hx]at this;exact this
    obtain⟨X,hX⟩:=aB (aC (s1,q1,e1) *D);have Uq:(Q.take (k+1)).flatMap aM=(Q.take k).flatMap aM++[.string (bs l),.bool (ar (dN X)),.string (bs (nt (dN X).natAbs)),.int .i64 (dE X)]:=by
     rw[List.take_succ_eq_append_getElem VM,List.flatMap_append,HQg.out k hk2 VM,hx];show _++[Value.string (bs l),Value.bool (ar (dN (aC (s1,q1,e1) *D))),_,_]=_
     rw[hX];rfl
    have HX:Hid (aC (s1,q1,e1) *aC (s,m,e)=X):=by show _=_;rw[HD.out];exact hX
    have Ht:Hid (aY wr b (o+k*4) [.string (bs l),.bool s1,.string (bs q1),.int .i64 e1]):=bY;obtain⟨cH,aQ,HQk,lD⟩:=dH ho pb Uq jI;have iG:=pb.size;clear ho pb Uq jI hX hx bY eo;have Hb:Hid (Bw wr wr):=Below.refl _ _;obtain⟨p0,p1⟩:=Hp.out.c2;obtain⟨c0,c1,c2⟩:=Hc.out.c3;obtain⟨t0,t1,t2,t3⟩:=Ht.out.w4;go_wp2_with fail;refine bC (λw'=>w'.cell? ⟨w.heap.size,1,none⟩=some (.slice (some ⟨b,o,none⟩) n cap)/\w'.cell? ⟨w.heap.size+1,0,none⟩=some (.bool s)/\w'.cell? ⟨w.heap.size+1,1,none⟩=some (.string (bs m))/\w'.cell? ⟨w.heap.size+1,2,none⟩=some (.int .i64 e)/\w'.cell? ⟨b,o+k*4,none⟩=some (.string (bs l))/\w'.cell? ⟨b,o+k*4+1,none⟩=some (.bool s1)/\w'.cell? ⟨b,o+k*4+2,none⟩=some (.string (bs q1))/\w'.cell? ⟨b,o+k*4+3,none⟩=some (.int .i64 e1)) (λi=>Nat.blt i 100000) [(0,true),(1,true),(2,true),(3,true),(4,true),(5,true),(6,true),(7,true),(8,true),(9,true),(10,true),(11,true),(12,true),(13,true),(14,false),(15,true),(16,false),(17,false),(18,true)] zk zk rfl zk zc ⟨p1,c0,c1,c2,t0,t1,t2,t3⟩ ?_;iterate 14 (refine pT rfl rfl ?_ (by intro w' ⟨q0,q1,q2,q3,q4,q5,q6,q7⟩;go_simp;try with_reducible rfl);try simp only[UU])
    refine aI rfl rfl (λK hK=>?_);go_simp;with_reducible refine(ams s1 q1 e1 s m e X HX.out _ lD.out fI.out).mono ?_
    rintro e w4 ⟨rfl,hq⟩;have ae:Bw wr w4:=by first|exact hq|exact aN hq
    clear p0 p1 c0 c1 c2 t0 t1 t2 t3;replace Hp:=kB Hp ae;replace Hc:=kB Hc ae;replace Ht:=kW Ht ae;obtain⟨p0,p1⟩:=Hp.out.c2;obtain⟨c0,c1,c2⟩:=Hc.out.c3;obtain⟨t0,t1,t2,t3⟩:=Ht.out.w4;replace Hb:=au Hb ae;clear ae;refine hK _ _ (λ_=>⟨p1,c0,c1,c2,t0,t1,t2,t3⟩) ?_;clear hK K;try simp only[UU]
    refine pT rfl rfl ?_;try simp only[UU]
    refine aI rfl rfl (λK hK=>?_);go_simp;refine hK _ _ (λ_=>⟨aG p1,aG c0,aG c1,aG c2,aG t0,aG t1,aG t2,aG t3⟩) ?_;clear hK K;try simp only[UU]
    refine bF (λW5=>ai W5 (w4.heap.size) 107 [.string (bs l),.bool (ar (dN X)),.string (bs (nt (dN X).natAbs)),.int .i64 (dE X)]/\Bw w4 W5) (by first|exact dL|exact dM) ?_;rintro W5 ⟨qd,ae⟩;clear p0 p1 c0 c1 c2 t0 t1 t2 t3;have aqz:=Hp.out.lt;have aqc:=Hc.out.lt;replace Hp:=kB Hp ae;replace Hc:=kB Hc ae;replace Ht:=kW Ht ae;have Hd:=ah qd;clear qd;obtain⟨p0,p1⟩:=Hp.out.c2;obtain⟨c0,c1,c2⟩:=Hc.out.c3;obtain⟨t0,t1,t2,t3⟩:=Ht.out.w4;obtain⟨d0,d1,d2,d3⟩:=Hd.out.c4;replace Hb:=au Hb ae;clear ae;refine aI rfl rfl (λK hK=>?_);have dZ:=ownsRow_below cH.out Hb.out;have hs3:=Hb.out.size;refine wp_append_own _ _ _ 55 rfl w1.heap.size 107 i0 _ 4 48 Tryz.underlying55 Hi.out cX.out cN.out cO.out rfl zd v k ((Q.take k).flatMap aM) rfl dZ ⟨w4.heap.size,0,none⟩ 1 1 [.string (bs l),.bool (ar (dN X)),.string (bs (nt (dN X).natAbs)),.int .i64 (dE X)] rfl rfl (gW Hd.out) zy zx zo zo ?_;intro v' w8 dP bi _;have nb:∀b,b<w1.heap.size->some b≠v.ownBlock:=λb hb e=>by have:=dt dZ b e.symm;omega
    refine hK _ _ (λ_=>⟨bU bi p1 (nb _ zp),bU bi c0 (nb _ zp),bU bi c1 (nb _ zp),bU bi c2 (nb _ zp),bU bi t0 (nb _ zp),bU bi t1 (nb _ zp),bU bi t2 (nb _ zp),bU bi t3 (nb _ zp)⟩) ?_;clear hK K;try simp only[UU]
    have fu:=(aJ aQ.out Hb.out).grown bi zo (λj e=>dt dZ j e);rw[<-HQk.out]at dP;obtain⟨fw,ig⟩:=aL fu dP;refine pT rfl rfl ?_;try simp only[UU]
    simp only[aS];clear nb dZ dP bi fu p0 p1 c0 c1 c2 t0 t1 t2 t3 d0 d1 d2 d3;go_wp2;go_roundw;case rel=>exact⟨k+1,v',by omega,by go_num,rfl,ig.out,fw.out⟩
    case measure=>simp[intOf];omega
  . obtain rfl:k=n:=by omega
    have htk:Q.take k=Q:=List.take_of_length_le (by rw[Qd.out];exact Nat.le_refl _);rw[htk]at ho;obtain⟨a2,c2,rfl,hat,_⟩:=dS ho;have fD:=ah hat;have Hb:Hid (Bw w wr):=eo;have abM:=ah (vY.out wr a2 c2 hat);clear ho pb eo htk hat Hc;obtain⟨p0,p1⟩:=Hp.out.c2;obtain⟨r0,aj,r1,ak⟩:=Hr.out.g2;go_wp2_with fail;refine(abM.out).mono ?_;rintro e w6 ⟨a9,d9,rfl,uU,ae⟩;clear p0 p1 r0 aj r1 ak;replace Hp:=kB Hp ae;replace Hr:=kB Hr ae;obtain⟨p0,p1⟩:=Hp.out.c2;obtain⟨r0,aj,r1,ak⟩:=Hr.out.g2;replace Hb:=au Hb ae;clear ae;have yz:=ah uU;clear uU;go_wp2;have h9:=yz.out.store Hr.out zd (.int .i64 (V:Int)) (.slice a9 C.length d9);refine fR (λw9=>cz w9 a9 d9 C/\ai w9 (w.heap.size+1+1) 57 [.int .i64 (V:Int),.slice a9 C.length d9]/\Bw w w9) ⟨h9,(Hr.out.set 0 _).set 1 _,(Hb.out.setCell zp _).setCell zp _⟩ ?_;rintro w9 ⟨q1,q2,q3⟩;obtain⟨x0,x1⟩:=q2.c2;exact bodyPost_ret (v:=.tuple #[.agg #[.int .i64 (V:Int),.slice a9 C.length d9],.int .i64 0]) (by simp[results,Tryz.results43,go_sem,x0,x1]) rfl ⟨_,_,rfl,q1,q3⟩
theorem amn (ts:List aK)(a a':Option Addr)(n cap cap':Nat)(w:World)(hn:ts.length=n)(hl:n<=65536)(ha:At w a (ts.flatMap aM))(ha':At w a' (ts.flatMap aM)):
 Calls Tryz.prog 64 #[.slice a n cap,.slice a' n cap'] w λe w'=>e=.returned (.bool true)/\Bw w w':=by
 obtain⟨Ha,qF,Hn⟩:=cK ha ha' hn;clear ha ha' hn;have Hb:Hid (Bw w w):=Below.refl _ _;go_enter Tryz.func64,Tryz.ntmps64;go_wp2_with fail;go_loopw[5] (λx wr=>∃k:Nat,k<=n/\x=.int .i64 (k:Int)/\Bw w wr) (λx _=>n-(intOf x).toNat);case atStart=>exact⟨0,Nat.zero_le _,rfl,Hb.out⟩
 case round=>
  clear Hb;obtain⟨k,hk,rfl,pb⟩:=hrel;by_cases hlt:k<n
  . have hk2:k<ts.length:=by rw[Hn.out];exact hlt
    obtain⟨l,s,m,e,hx⟩:∃l s m e,ts[k]=(l,s,m,e):=⟨_,_,_,_,rfl⟩;obtain⟨b,o,rfl,bY⟩:=(Ha.out.below pb).term k hk2 hx;obtain⟨b',o',rfl,rq⟩:=(qF.out.below pb).term k hk2 hx;have bB:=jg n cap k (k:Int) (rfl:(some ⟨b,o,none⟩:Option Addr)=_) hlt rfl;have VF:=jg n cap' k (k:Int) (rfl:(some ⟨b',o',none⟩:Option Addr)=_) hlt rfl;have Hx:Hid (aY wr b (o+k*4) [.string (bs l),.bool s,.string (bs m),.int .i64 e]):=bY;have Hy:Hid (aY wr b' (o'+k*4) [.string (bs l),.bool s,.string (bs m),.int .i64 e]):=rq;have aQ:=ah pb;clear pb bY rq hx;have Hb:Hid (Bw wr wr):=Below.refl _ _;obtain⟨x0,x1,x2,x3⟩:=Hx.out.w4;obtain⟨y0,y1,y2,y3⟩:=Hy.out.w4;go_wp2_with fail;refine bC (λw'=>w'.cell? ⟨b,o+k*4,none⟩=some (.string (bs l))/\w'.cell? ⟨b,o+k*4+1,none⟩=some (.bool s)/\w'.cell? ⟨b,o+k*4+2,none⟩=some (.string (bs m))/\w'.cell? ⟨b,o+k*4+3,none⟩=some (.int .i64 e)/\w'.cell? ⟨b',o'+k*4,none⟩=some (.string (bs l))/\w'.cell? ⟨b',o'+k*4+1,none⟩=some (.bool s)/\w'.cell? ⟨b',o'+k*4+2,none⟩=some (.string (bs m))/\w'.cell? ⟨b',o'+k*4+3,none⟩=some (.int .i64 e)) (λi=>Nat.blt i 100000) [(0,true),(1,true),(2,true),(3,true),(4,true),(5,true),(6,true),(7,true),(8,true)] zk zk rfl zk zc ⟨x0,x1,x2,x3,y0,y1,y2,y3⟩ ?_;iterate 9 (refine pT rfl rfl ?_ (by intro w' ⟨q0,q1,q2,q3,q4,q5,q6,q7⟩;go_simp;try with_reducible rfl);try simp only[UU])
    simp only[aS];go_wp2;go_roundw;case rel=>exact⟨k+1,by omega,by go_num,aQ.out.drew⟩
    case measure=>simp[intOf];omega
  . obtain rfl:k=n:=by omega
    have aQ:=ah pb;go_wp2;refine bodyPost_ret (results_tmp rfl _ _ _) rfl ⟨rfl,aQ.out⟩
theorem amg (V:Int)(ts:List aK)(a a':Option Addr)(cap cap':Nat)(w:World)(hl:ts.length<=65536)(ha:At w a (ts.flatMap aM))(ha':At w a' (ts.flatMap aM)):
 Calls Tryz.prog 25 #[.agg #[.int .i64 V,.slice a ts.length cap],.agg #[.int .i64 V,.slice a' ts.length cap']] w λe w'=>e=.returned (.bool true)/\Bw w w':=by
 obtain⟨n,hn⟩:=aB ts.length;have h1:=λW (hW:Bw w W)=>amn ts a a' n cap cap' W hn zo (ha.below hW) (ha'.below hW);rw[hn];have H1:=ah h1;clear h1 ha ha' hn hl;have Hb:Hid (Bw w w):=Below.refl _ _;go_enter Tryz.func25,Tryz.ntmps25;go_wp2_with fail;obtain⟨R,hR⟩:∃R:World->Prop,(λW=>ai W (w.heap.size) 57 [.int .i64 V,.slice a n cap]/\ai W (w.heap.size+1) 57 [.int .i64 V,.slice a' n cap']/\Bw w W)=R:=⟨_,rfl⟩;first|refine bE R ?hR ?_|refine bD R ?hR ?_
 case hR=>subst hR;exact⟨((ai.newAt w _ _ (b:=w.heap.size) rfl).alloc _),(ai.newAt (w.alloc _) _ _ (b:=w.heap.size+1) zm),(zl.alloc zj _)⟩
 subst hR;rintro W ⟨qp,qq,ae⟩;have Hp:=ah qp;clear qp;have Hq:=ah qq;clear qq;obtain⟨p0,p1⟩:=Hp.out.c2;obtain⟨q0,q1⟩:=Hq.out.c2;replace Hb:=au Hb ae;clear ae;go_wp2_with fail;refine(H1.out _ Hb.out).mono ?_;rintro e w1 ⟨rfl,ae⟩;clear p0 p1 q0 q1;replace Hp:=kB Hp ae;replace Hq:=kB Hq ae;obtain⟨p0,p1⟩:=Hp.out.c2;obtain⟨q0,q1⟩:=Hq.out.c2;replace Hb:=au Hb ae;clear ae;go_wp2;go_ret;exact⟨rfl,Hb.out⟩
end Go.Proofs.YtdaadlblknpipaaGreatDoor
