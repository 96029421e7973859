/- Package ogeeref08: Var,Check of what may be,Scale,Terms,Same. -/
import Derived.Test.YtdaadlblknpipaaGreatDoorZ21
import Derived.Test.YtdaadlblknpipaaGreatDoorZ23
set_option linter.unusedVariables false
set_option linter.unusedSimpArgs false
set_option maxRecDepth 100000
set_option maxHeartbeats 16000000
namespace Go.Proofs.YtdaadlblknpipaaGreatDoor
open Go.RowKit
attribute [local go_sem ↓] Go.wp_at_zero Go.wp_at_succ
theorem ajp (V k:Nat)(w:World)(hV:V<=12)(hk:k<V):
 Calls Tryz.prog 42 #[.int .i64 (V:Int),.int .i64 (k:Int)] w λex w'=>∃a' c',ex=.returned (.tuple #[.agg #[.int .i64 (V:Int),.slice a' (bH [(cV V k,canon 1)]).length c'],.int .i64 0])/\cu w' a' c' (bH [(cV V k,canon 1)])/\Bw w w':=by
 obtain⟨C,hC⟩:=aC (bH [(cV V k,canon 1)]);rw[hC];obtain⟨O,hO⟩:∃O:Dyadic,(1:Dyadic)=O:=⟨_,rfl⟩;have hmk:=λW b (hb:ai W b 107 [.string (bs (cV V k)),.bool (au (dN O)),.string (bs (nt (dN O).natAbs)),.int .i64 (dE O)])=>WM V (some ⟨b,0,none⟩) 1 1 [(cV V k,canon 1)] 1 W rfl zo (by rw[hO];exact At.an6 hb) (by intro t ht;simp at ht;subst ht;exact Sm.an7 Sm.one zd) (by intro t ht;simp at ht;subst ht;show Sm 1 (aB (canon 1));rw[bP];exact Sm.one) zo;rw[hC]at hmk;have hof:∀W,Calls Tryz.prog 62 #[.int .i64 1] W λe w'=>e=.returned (bC O)/\Bw W w':=λW=>ai3 1 O hO W zd;have hmb:=λW=>qR (V:Int) V rfl zo W;have hcv:∀W b,Hid (ai W b 5 (cn V λj=>if j=k then 1 else 0))->(convert 111 9 (.slice (some ⟨b,0,none⟩) V V)).run Tryz.prog W=.ok (.string (bs (cV V k))) W:=λW b h=>by rw[<-XB V k];exact xx h.out V
 have bA:=λb=>ut V V k (k:Int) (rfl:(some ⟨b,0,none⟩:Option Addr)=_) hk rfl;simp only[Nat.zero_add,Nat.mul_one]at bA;have hget:(cn V λ_=>0)[k]?=some (.int .u8 0):=kg _ _ _ hk;have jV:(cn V λ_=>0).set k (.int .u8 1)=cn V λj=>if j=k then 1 else 0:=xy V _ k 1
 obtain⟨rK,tB⟩:=aM hmk hof;clear hmk hof hC hO;have Ci:¬(k:Int)<0:=by omega
 have hVi:¬(V:Int)<0:=by omega
 have hV2:¬(12:Int)<(V:Int):=by omega
 have hkV:¬(V:Int)<=(k:Int):=by omega
 obtain⟨W,cO,Hb,Hr⟩:=iF w 57 [.int .i64 0,.slice none 0 0];obtain⟨r0,aj,r1,ar⟩:=Hr.out.g2;go_enter Tryz.func42,Tryz.ntmps42;go_wp2_with fail;have hrl:=Hr.out.lt;obtain⟨R,hR⟩:∃R:World->Prop,(λW3=>ai W3 W.heap.size 5 (cn V λj=>if j=k then 1 else 0)/\Bw W W3)=R:=⟨_,rfl⟩;first|refine bG R ?hR ?_|refine bF R ?hR ?_
 case hR=>subst hR;exact⟨ai.newAt W _ _ (b:=W.heap.size) rfl,zl⟩
 subst hR;intro W3 ⟨qm,ae⟩;clear r0 aj r1 ar;replace Hr:=kB Hr ae;obtain⟨r0,aj,r1,ar⟩:=Hr.out.g2;replace Hb:=ah (aK Hb.out ae);have Hm:=ah qm;clear qm ae hget jV bA hmb;have rB:∀w',iy W3 w'->(convert 111 9 (.slice (some ⟨W.heap.size,0,none⟩) V V)).run Tryz.prog w'=.ok (.string (bs (cV V k))) w':=λw' h=>hcv w' _ (ah (Hm.out.below h));have bJ:Hid (iy W3 W3):=Below.refl _ _;refine bD (λw'=>iy W3 w') (λi=>Nat.blt i 9) [(0,true),(1,true),(2,true),(3,false),(4,true),(5,false),(6,false),(7,true),(8,true),(9,false),(10,false)] zk zk rfl zk zc bJ.out.drew ?_;iterate 3 (refine Nn rfl rfl (v:=?_) (λw' hw'=>?_) ?_;rotate_left;(focus have hw':=rB w' hw';go_simp;try with_reducible rfl);try simp only[UU])
 refine aJ rfl rfl (λK hK=>?_);go_simp;with_reducible refine(tB.out _).mono ?_
 rintro e w4 ⟨rfl,hq⟩;have ae:Bw W3 w4:=by first|exact hq|exact aO hq
 clear r0 aj r1 ar;replace bJ:=ah (bJ.out.below ae);replace Hr:=kB Hr ae;obtain⟨r0,aj,r1,ar⟩:=Hr.out.g2;replace Hb:=az Hb ae;clear ae;refine hK _ _ (λ_=>bJ.out) ?_;clear hK K;try simp only[UU]
 refine pT rfl rfl ?_;try simp only[UU]
 refine aJ rfl rfl (λK hK=>?_);go_simp;refine hK _ _ (λ_=>by first|exact bJ.out.alloc _|exact(bJ.out.alloc _).drew|exact(bJ.out.drew).alloc _) ?_;clear hK K;try simp only[UU]
 refine bE (λW5=>ai W5 (w4.heap.size) 107 [.string (bs (cV V k)),.bool (au (dN O)),.string (bs (nt (dN O).natAbs)),.int .i64 (dE O)]/\Bw w4 W5) (by first|exact dW|exact dX) ?_;rintro W5 ⟨qz,ae⟩;clear r0 aj r1 ar;have Ge:=Hr.out.lt;replace bJ:=ah (bJ.out.below ae);replace Hr:=kB Hr ae;have Hz:=ah qz;clear qz;obtain⟨r0,aj,r1,ar⟩:=Hr.out.g2;obtain⟨z0,z1,z2,z3⟩:=Hz.out.c4;replace Hb:=az Hb ae;clear ae;refine aJ rfl rfl (λK hK=>?_);go_simp;with_reducible refine(rK.out _ _ Hz.out).mono ?_
 rintro e w6 ⟨a2,d2,rfl,eo,hq⟩;have ae:Bw W5 w6:=by first|exact hq|exact aO hq
 clear r0 aj r1 ar z0 z1 z2 z3;replace bJ:=ah (bJ.out.below ae);replace Hr:=kB Hr ae;replace Hz:=kB Hz ae;obtain⟨r0,aj,r1,ar⟩:=Hr.out.g2;obtain⟨z0,z1,z2,z3⟩:=Hz.out.c4;replace Hb:=az Hb ae;clear ae;refine hK _ _ (λ_=>bJ.out) ?_;clear hK K;try simp only[UU]
 iterate 2 (refine pT rfl rfl ?_;try simp only[UU])
 refine aJ rfl rfl (λK hK=>?_);go_simp;refine hK _ _ (by first|exact λh=>absurd h zd|exact λ_=>bJ.out|exact λ_=>fc zg bJ.out) ?_;clear hK K;try simp only[UU]
 refine aJ rfl rfl (λK hK=>?_);go_simp;refine hK _ _ (λh=>absurd h zd) ?_;clear hK K;try simp only[UU]
 simp only[aU];go_wp2;have h9:=eo.store Hr.out zd (.int .i64 (V:Int)) (.slice a2 C.length d2);refine gu (λw9=>cu w9 a2 d2 C/\ai w9 w.heap.size 57 [.int .i64 (V:Int),.slice a2 C.length d2]/\Bw w w9) ⟨h9,(Hr.out.set 0 _).set 1 _,(Hb.out.setCell (Nat.le_refl _) _).setCell (Nat.le_refl _) _⟩ ?_;rintro w9 ⟨q1,q2,q3⟩;obtain⟨p0,p1⟩:=q2.c2;exact bodyPost_ret (v:=.tuple #[.agg #[.int .i64 (V:Int),.slice a2 C.length d2],.int .i64 0]) (by simp[results,Tryz.results42,go_sem,p0,p1]) rfl ⟨_,_,rfl,q1,q3⟩
theorem aib {V:Nat}{ts:List aL}(h:AX V ts)(k:Nat)(hk:k<ts.length):fK ts[k].1 V=true/\aB ts[k].2≠0/\ts[k].2=canon (aB ts[k].2)/\(0<k->Op.bytesLess (ts[k-1]'zo).1 ts[k].1=true):=by obtain⟨⟨h1,h2⟩,h3,h4,h5⟩:=h;have hm:=List.getElem_mem hk;exact⟨h3 _ hm,(h2 _ hm).1,(h2 _ hm).2,λh0=>List.pairwise_iff_getElem.1 h1 (k-1) k zo hk zo⟩
theorem ai5 (V:Nat)(a:Option Addr)(cap N:Nat)(ts:List aL)(w:World)(hN:ts.length=N)(ha:At w a (ts.flatMap aN))(hp:AX V ts)(hf:∀t∈ts,dw t.2):
 Calls Tryz.prog 82 #[.agg #[.int .i64 (V:Int),.slice a N cap]] w λe w'=>e=.returned (.int .i64 0)/\Bw w w':=by
 have hn:N<=4096:=by rw[<-hN];exact hp.2.2.1
 have hV:V<=12:=hp.2.2.2;have hg:=λk hk=>aib hp k hk;obtain⟨Ha,Hg,HN,Hf⟩:=dO ha hg hN hf;clear ha hg hN hf hp;have hVi:¬(V:Int)<0:=by omega
 have hV2:¬(12:Int)<(V:Int):=by omega
 have cd:¬(4096:Int)<(N:Int):=by omega
 have amd:decide ((4096:Int)<(N:Int))=false:=by simp;omega
 obtain⟨W,cO,Hb,Hp⟩:=iF w 57 [.int .i64 (V:Int),.slice a N cap];obtain⟨p0,p1⟩:=Hp.out.c2;go_enter Tryz.func82,Tryz.ntmps82;go_wp2_with fail;go_loopw[3] (λx wr=>∃k:Nat,k<=N/\x=.int .i64 (k:Int)/\ai wr w.heap.size 57 [.int .i64 (V:Int),.slice a N cap]/\Bw w wr) (λx _=>N-(intOf x).toNat);case atStart=>exact⟨0,Nat.zero_le _,rfl,Hp.out,Hb.out⟩
 case round=>
  clear p0 p1 Hp Hb;obtain⟨k,hk,rfl,gH,pb⟩:=hrel;by_cases hlt:k<N
  . have hk2:k<ts.length:=by rw[HN.out];exact hlt
    obtain⟨l,s,m,e,hx⟩:∃l s m e,ts[k]=(l,s,m,e):=⟨_,_,_,_,rfl⟩;obtain⟨b,o,hab,cw⟩:=(Ha.out.below pb).term k hk2 hx;obtain⟨g1,g2,g3,g4⟩:=Hg.out k hk2;have eF:dw (s,m,e):=by have:=Hf.out _ (List.getElem_mem hk2);rw[hx]at this;exact this
    have hfl:m.length<=16384:=eF.1;rw[hx]at g1 g2 g3;simp only[hx]at g4;obtain⟨X,hX⟩:=aC (aB (s,m,e));obtain⟨sg,ie⟩:=aC (bW X);have hs1:(sg==0)=false:=by rw[<-ie,vM,<-hX];exact g2
    have hne:=MZ X s m e false (by rw[<-hX];simpa using g3.symm);have pH:=λW=>aiY l (V:Int) W (by have hll:l.length=V:=VN g1;omega);rw[g1]at pH;have bA:=jl N cap k (k:Int) hab hlt rfl;have UC:=λW=>Dj s m e sg (by rw[hX];exact ie) W zo;have hfo:=λW=>xq s m e X hX W eF;obtain⟨rJ,Hsn,YY,aR,jI,Hp⟩:=gJ pH UC hfo pb hab gH;have kU:Hid (aZ wr b (o+k*4) [.string (bs l),.bool s,.string (bs m),.int .i64 e]):=cw;have sz:=pb.size;clear pH UC hfo pb gH cw hX ie g1 g2 g3 eF hab;have Hb:Hid (Bw wr wr):=Below.refl _ _;obtain⟨p0,p1⟩:=Hp.out.c2;obtain⟨sW,sX,sY,sZ⟩:=kU.out.w4;have P0:=sW;have P1:=sX;have P2:=sY;have P3:=sZ;have Q1:=p1;have agL:=Hp.out.lt;obtain⟨W4,nY,ae,Ht⟩:=cQ wr 107 [.string (bs l),.bool s,.string (bs m),.int .i64 e];clear p0 p1;replace Hp:=kB Hp ae;clear sW sX sY sZ;replace kU:=kW kU ae;obtain⟨p0,p1⟩:=Hp.out.c2;obtain⟨sW,sX,sY,sZ⟩:=kU.out.w4;obtain⟨t0,t1,t2,t3⟩:=Ht.out.c4;replace Hb:=az Hb ae;clear ae;go_wp2_with fail;clear P0 P1 P2 P3 Q1 sW sX sY sZ kU;refine bD (λw'=>w'.cell? ⟨w.heap.size,0,none⟩=some (.int .i64 (V:Int))/\w'.cell? ⟨w.heap.size,1,none⟩=some (.slice a N cap)/\w'.cell? ⟨wr.heap.size,0,none⟩=some (.string (bs l))/\w'.cell? ⟨wr.heap.size,1,none⟩=some (.bool s)/\w'.cell? ⟨wr.heap.size,2,none⟩=some (.string (bs m))/\w'.cell? ⟨wr.heap.size,3,none⟩=some (.int .i64 e)) (λi=>Nat.blt i 100000) [(0,true),(1,true),(2,true),(3,true),(4,false),(5,true),(6,true),(7,true),(8,true),(9,false),(10,true),(11,true),(12,true),(13,true),(14,true),(16,true),(17,true),(15,false),(18,true),(19,true)] zk zk rfl zk zc ⟨p0,p1,t0,t1,t2,t3⟩ ?_;iterate 4 (refine pT rfl rfl ?_ (by intro w' ⟨q0,q1,q2,q3,q4,q5⟩;go_simp;try with_reducible rfl);try simp only[UU])
    refine aJ rfl rfl (λK hK=>?_);go_simp;with_reducible refine(rJ.out _).mono ?_
    rintro e w5 ⟨rfl,hq⟩;have ae:Bw W4 w5:=by first|exact hq|exact aO hq
    clear p0 p1 t0 t1 t2 t3;replace Hp:=kB Hp ae;replace Ht:=kB Ht ae;obtain⟨p0,p1⟩:=Hp.out.c2;obtain⟨t0,t1,t2,t3⟩:=Ht.out.c4;replace Hb:=az Hb ae;clear ae;refine hK _ _ (λ_=>⟨p0,p1,t0,t1,t2,t3⟩) ?_;clear hK K;try simp only[UU]
    iterate 4 (refine pT rfl rfl ?_ (by intro w' ⟨q0,q1,q2,q3,q4,q5⟩;go_simp;try with_reducible rfl);try simp only[UU])
    refine aJ rfl rfl (λK hK=>?_);go_simp;with_reducible refine(Hsn.out _).mono ?_
    rintro e w6 ⟨rfl,hq⟩;have ae:Bw w5 w6:=by first|exact hq|exact aO hq
    clear p0 p1 t0 t1 t2 t3;replace Hp:=kB Hp ae;replace Ht:=kB Ht ae;obtain⟨p0,p1⟩:=Hp.out.c2;obtain⟨t0,t1,t2,t3⟩:=Ht.out.c4;replace Hb:=az Hb ae;clear ae;refine hK _ _ (λ_=>⟨p0,p1,t0,t1,t2,t3⟩) ?_;clear hK K;try simp only[UU]
    iterate 7 (refine pT rfl rfl ?_ (by intro w' ⟨q0,q1,q2,q3,q4,q5⟩;go_simp;try with_reducible rfl);try simp only[UU])
    refine aJ rfl rfl (λK hK=>?_);go_simp;with_reducible refine(YY.out _).mono ?_
    rintro e w7 ⟨rfl,hq⟩;have ae:Bw w6 w7:=by first|exact hq|exact aO hq
    clear p0 p1 t0 t1 t2 t3;replace Hp:=kB Hp ae;replace Ht:=kB Ht ae;obtain⟨p0,p1⟩:=Hp.out.c2;obtain⟨t0,t1,t2,t3⟩:=Ht.out.c4;replace Hb:=az Hb ae;clear ae;refine hK _ _ (λ_=>⟨p0,p1,t0,t1,t2,t3⟩) ?_;clear hK K;try simp only[UU]
    iterate 2 (refine pT rfl rfl ?_;try simp only[UU])
    simp only[aU];by_cases jU:k=0
    . have hk1:decide (0<k)=false:=by simp;omega
      have afc:decide ((0:Int)<(k:Int))=false:=by simp;omega
      clear jU g4;go_wp2_with fail;refine bD (λw'=>w'.cell? ⟨w.heap.size,0,none⟩=some (.int .i64 (V:Int))/\w'.cell? ⟨w.heap.size,1,none⟩=some (.slice a N cap)/\w'.cell? ⟨wr.heap.size,0,none⟩=some (.string (bs l))/\w'.cell? ⟨wr.heap.size,1,none⟩=some (.bool s)/\w'.cell? ⟨wr.heap.size,2,none⟩=some (.string (bs m))/\w'.cell? ⟨wr.heap.size,3,none⟩=some (.int .i64 e)) (λi=>Nat.blt i 100000) [(0,true),(1,true),(2,true),(3,true),(4,true),(5,true),(6,true),(7,true),(8,true),(9,true),(10,true),(11,true),(12,true),(13,true)] zk zk rfl zk zc ⟨p0,p1,t0,t1,t2,t3⟩ ?_;iterate 3 (refine pT rfl rfl ?_;try simp only[UU])
      refine bi rfl rfl ?_;try simp only[UU]
      refine bi rfl rfl ?_;try simp only[UU]
      refine bi rfl rfl ?_;try simp only[UU]
      refine bi rfl rfl ?_;try simp only[UU]
      refine bi rfl rfl ?_;try simp only[UU]
      refine bi rfl rfl ?_;try simp only[UU]
      refine bi rfl rfl ?_;try simp only[UU]
      refine bi rfl rfl ?_;try simp only[UU]
      refine bi rfl rfl ?_;try simp only[UU]
      refine bi rfl rfl ?_;try simp only[UU]
      refine pT rfl rfl ?_;try simp only[UU]
      simp only[aU];go_wp2;go_roundw;case rel=>exact⟨k+1,by omega,by go_num,Hp.out,(aK aR.out Hb.out).drew⟩
      case measure=>simp[intOf];omega
    . have qE:=g4 zo;have mh:k-1<ts.length:=by omega
      obtain⟨l',s',m',e',hx'⟩:∃l s m e,ts[k-1]=(l,s,m,e):=⟨_,_,_,_,rfl⟩;obtain⟨b',o',qA,qJ⟩:=(Ha.out.below (aK aR.out Hb.out)).term (k-1) mh hx';have hab:=jI.out;rw[hab]at qA;simp only[Option.some.injEq,Addr.mk.injEq,and_true]at qA;obtain⟨rfl,rfl⟩:=qA;rw[hx']at qE;have ky:Op.bytesLess (bs l').toList (bs l).toList=true:=by rw[fH,fH];exact qE
      have hge:Op.bytesLess (bs l).toList (bs l').toList=false:=by
       rw[fH,fH];cases hc:Op.bytesLess l l' with
       |false=>rfl
       |true=>have:=Bc qE hc;rw[ya]at this;cases this
      have afc:decide ((0:Int)<(k:Int))=true:=by simp;omega
      have hk1:decide (0<k)=true:=by simp;omega
      have LM:IntKind.i64.wrap ((k:Int)-1)=((k-1:Nat):Int):=by rw[IntKind.wrap_i64];omega
      have LI:=jl N cap (k-1) ((k-1:Nat):Int) hab zo rfl;obtain⟨kp,yE⟩:=aC (k-1);rw[yE]at LI LM qJ;have afe:kp<N:=by omega
      have cW:Hid (aZ w7 b (o+kp*4) [.string (bs l'),.bool s',.string (bs m'),.int .i64 e']):=qJ;clear qJ jU hx' yE hab qE g4 mh;obtain⟨p0,p1⟩:=Hp.out.c2;obtain⟨t0,t1,t2,t3⟩:=Ht.out.c4;have gX:w7.cell? ⟨b,o+kp*4,none⟩=some (.string (bs l')):=cW.out.cell 0 zm;go_wp2_with fail;refine bD (λw'=>w'.cell? ⟨w.heap.size,0,none⟩=some (.int .i64 (V:Int))/\w'.cell? ⟨w.heap.size,1,none⟩=some (.slice a N cap)/\w'.cell? ⟨wr.heap.size,0,none⟩=some (.string (bs l))/\w'.cell? ⟨b,o+kp*4,none⟩=some (.string (bs l'))) (λi=>Nat.blt i 100000) [(0,true),(1,true),(2,true),(3,true),(4,true),(5,true),(6,true),(7,true),(8,true),(9,true),(10,true),(11,true),(12,true),(13,true)] zk zk rfl zk zc ⟨p0,p1,t0,gX⟩ ?_;iterate 14 (refine pT rfl rfl ?_ (by intro w' ⟨q0,q1,q2,q3⟩;go_simp;try with_reducible rfl);try simp only[UU])
      simp only[aU];go_wp2;go_roundw;case rel=>exact⟨k+1,by omega,by go_num,Hp.out,(aK aR.out Hb.out).drew⟩
      case measure=>simp[intOf];omega
  . obtain rfl:k=N:=by omega
    obtain⟨Hp,aR⟩:=aM gH pb;obtain⟨p0,p1⟩:=Hp.out.c2;go_wp2;refine bodyPost_ret (results_tmp rfl _ _ _) rfl ⟨rfl,aR.out⟩
theorem ajc (V:Nat)(a:Option Addr)(cap:Nat)(ts:List aL)(s:Bool)(m:List UInt8)(e:Int)(D:Dyadic)(B:Nat)(w:World)(hp:jq V B ts)(ha:cu w a cap ts)(eF:dw (s,m,e))(mW:Sm B (aB (s,m,e)))(hB:2*B+4096<=16384)(hD:aB (s,m,e)=D):
 Calls Tryz.prog 43 #[.agg #[.int .i64 (V:Int),.slice a ts.length cap],.agg #[.bool s,.string (bs m),.int .i64 e]] w λex w'=>∃a' c',ex=.returned (.tuple #[.agg #[.int .i64 (V:Int),.slice a' (bH (dG D ts)).length c'],.int .i64 0])/\cu w' a' c' (bH (dG D ts))/\Bw w w':=by
 obtain⟨i0,hi,hz0,hz1,hz2⟩:=info_parts Tryz.aob;obtain⟨n,hn⟩:=aC ts.length;have hnl:n<=4096:=by have:=hp.1.2.2.1;omega
 have iB:(dG D ts).length=n:=by unfold dG;rw[List.length_map,hn]
 have hsm:∀t∈ts,Sm B (aB t.2):=λt ht=>(hp.2 t ht).2;have lw:∀t∈ts,dw t.2:=λt ht=>by rw[(hp.1.1.2 t ht).2];exact(hsm t ht).an7 zo
 rw[hD]at mW;have lu:∀t∈dG D ts,Sm (2*B) (aB t.2):=by
  intro t ht;unfold dG at ht;obtain⟨x,hx,rfl⟩:=List.mem_map.1 ht;show Sm _ (aB (canon _))
  rw[bP];exact(Sm.mul (hsm x hx) mW).mono zo
 have BM:∀t∈dG D ts,dw t.2:=by
  intro t ht;have h1:=lu t ht;unfold dG at ht;obtain⟨x,hx,rfl⟩:=List.mem_map.1 ht;have h2:Sm (2*B) (aB x.2*D):=by have h3:aB (canon (aB x.2*D))=aB x.2*D:=bP _;rw[<-h3];exact h1
  exact h2.an7 zo
 have fy:=λW (hW:Bw w W)=>ai5 V a cap n ts W hn (ha.1.below hW) hp.1 lw;have ue:=λW a' c' (h:At W a' ((dG D ts).flatMap aN))=>WM V a' n c' (dG D ts) (2*B) W iB hnl h BM lu zo;obtain⟨C,hC⟩:=aC (bH (dG D ts));obtain⟨Q,hQ⟩:=aC (dG D ts);rw[hC]at ue⊢;have Sy:∀k (h:k<ts.length) (h2:k<Q.length),Q[k]=(ts[k].1,canon (aB ts[k].2*D)):=λk h h2=>by subst hQ;simp[dG]
 rw[hQ]at ue iB;rw[hn];obtain⟨Hi,cM,cN,cJ,nD,vr,Ap,Hn,gZ,HD,Ha,Yn⟩:=gW hi hz0 hz1 hz2 fy ue lw hn eF hD ha.1 Sy;have OT:=ah iB;clear hi hz0 hz1 hz2 fy ue lw hn eF hD hC hQ iB lu BM hsm ha hp mW Sy;have Hb:Hid (Bw w w):=Below.refl _ _;go_enter Tryz.func43,Tryz.ntmps43;go_wp2_with fail;obtain⟨R,hR⟩:∃R:World->Prop,(λW=>ai W (w.heap.size) 57 [.int .i64 (V:Int),.slice a n cap]/\ai W (w.heap.size+1) 30 [.bool s,.string (bs m),.int .i64 e]/\ai W (w.heap.size+1+1) 57 [.int .i64 0,.slice none 0 0]/\Bw w W)=R:=⟨_,rfl⟩;first|refine bG R ?hR ?_|refine bF R ?hR ?_
 case hR=>subst hR;exact⟨(((ai.newAt w _ _ (b:=w.heap.size) rfl).alloc _).alloc _),((ai.newAt (w.alloc _) _ _ (b:=w.heap.size+1) zm).alloc _),(ai.newAt ((w.alloc _).alloc _) _ _ (b:=w.heap.size+1+1) zm),((zl.alloc zj _).alloc zj _)⟩
 subst hR;rintro W ⟨qp,qc,qr,ae⟩;have Hp:=ah qp;clear qp;have Hc:=ah qc;clear qc;have Hr:=ah qr;clear qr;obtain⟨p0,p1⟩:=Hp.out.c2;obtain⟨c0,c1,c2⟩:=Hc.out.c3;obtain⟨r0,aj,r1,ar⟩:=Hr.out.g2;replace Hb:=az Hb ae;clear ae;go_wp2_with fail;refine(nD.out _ Hb.out).mono ?_;rintro e w1 ⟨rfl,ae⟩;clear p0 p1 c0 c1 c2 r0 aj r1 ar;replace Hp:=kB Hp ae;replace Hc:=kB Hc ae;replace Hr:=kB Hr ae;obtain⟨p0,p1⟩:=Hp.out.c2;obtain⟨c0,c1,c2⟩:=Hc.out.c3;obtain⟨r0,aj,r1,ar⟩:=Hr.out.g2;replace Hb:=az Hb ae;clear ae;have AB:=Hp;have xK:=Hc;have jL:=Hr;have dt:=Hb;go_wp2_with fail;go_loopw[7,8] (λs7 x wr=>∃(k:Nat) (v:Value),k<=n/\x=.int .i64 (k:Int)/\v=s7/\wr.ownsRow w1.heap.size 107 4 v k ((Q.take k).flatMap aN)/\Bw w1 wr) (λ_ x _=>n-(intOf x).toNat);case atStart=>exact⟨0,_,Nat.zero_le _,rfl,rfl,World.ownsRow_nil _ _ _ _,Below.refl _ _⟩
 case round=>
  clear p0 p1 c0 c1 c2 r0 aj r1 ar Hp Hc Hr Hb;obtain⟨k,v,hk,rfl,rfl,ho,pb⟩:=hrel;obtain⟨Hp,Hc,Hr⟩:=cH (AB.out.below pb) (xK.out.below pb) (jL.out.below pb);have dV:=aK dt.out pb;have zE:=dt.out.size;have lc1:=xK.out.lt;have lr1:=jL.out.lt;by_cases hlt:k<n
  . have hk2:k<ts.length:=by rw[Hn.out];exact hlt
    have TM:k<Q.length:=by rw[OT.out];exact hlt
    obtain⟨l,s1,q1,e1,hx⟩:∃l s m e,ts[k]=(l,s,m,e):=⟨_,_,_,_,rfl⟩;obtain⟨b,o,rfl,cw⟩:=(Ha.out.below dV).term k hk2 hx;have lbt:b<w.heap.size:=by obtain⟨b3,o3,h3,hw3⟩:=Ha.out.term k hk2 hx;simp only[Option.some.injEq,Addr.mk.injEq,and_true]at h3;obtain⟨rfl,rfl⟩:=h3;exact World.block_lt_of_cell? w _ (hw3.cell 0 zm)
    have bA:=jl n cap k (k:Int) (rfl:(some ⟨b,o,none⟩:Option Addr)=_) hlt rfl;have jz:dw (s1,q1,e1):=by have:=Ap.out _ (List.getElem_mem hk2);rw[hx]at this;exact this
    obtain⟨X,hX⟩:=aC (aB (s1,q1,e1) *D);have Sz:(Q.take (k+1)).flatMap aN=(Q.take k).flatMap aN++[.string (bs l),.bool (au (dN X)),.string (bs (nt (dN X).natAbs)),.int .i64 (dE X)]:=by
     rw[List.take_succ_eq_append_getElem TM,List.flatMap_append,Yn.out k hk2 TM,hx];show _++[Value.string (bs l),Value.bool (au (dN (aB (s1,q1,e1) *D))),_,_]=_
     rw[hX];rfl
    have HX:Hid (aB (s1,q1,e1) *aB (s,m,e)=X):=by show _=_;rw[HD.out];exact hX
    have Ht:Hid (aZ wr b (o+k*4) [.string (bs l),.bool s1,.string (bs q1),.int .i64 e1]):=cw;obtain⟨cp,aR,Yo,kR⟩:=dO ho pb Sz jz;have iu:=pb.size;clear ho pb Sz jz hX hx cw dV;have Hb:Hid (Bw wr wr):=Below.refl _ _;obtain⟨p0,p1⟩:=Hp.out.c2;obtain⟨c0,c1,c2⟩:=Hc.out.c3;obtain⟨t0,t1,t2,t3⟩:=Ht.out.w4;go_wp2_with fail;refine bD (λw'=>w'.cell? ⟨w.heap.size,1,none⟩=some (.slice (some ⟨b,o,none⟩) n cap)/\w'.cell? ⟨w.heap.size+1,0,none⟩=some (.bool s)/\w'.cell? ⟨w.heap.size+1,1,none⟩=some (.string (bs m))/\w'.cell? ⟨w.heap.size+1,2,none⟩=some (.int .i64 e)/\w'.cell? ⟨b,o+k*4,none⟩=some (.string (bs l))/\w'.cell? ⟨b,o+k*4+1,none⟩=some (.bool s1)/\w'.cell? ⟨b,o+k*4+2,none⟩=some (.string (bs q1))/\w'.cell? ⟨b,o+k*4+3,none⟩=some (.int .i64 e1)) (λi=>Nat.blt i 100000) [(0,true),(1,true),(2,true),(3,true),(4,true),(5,true),(6,true),(7,true),(8,true),(9,true),(10,true),(11,true),(12,true),(13,true),(14,false),(15,true),(16,false),(17,false),(18,true)] zk zk rfl zk zc ⟨p1,c0,c1,c2,t0,t1,t2,t3⟩ ?_;iterate 14 (refine pT rfl rfl ?_ (by intro w' ⟨q0,q1,q2,q3,q4,q5,q6,q7⟩;go_simp;try with_reducible rfl);try simp only[UU])
    refine aJ rfl rfl (λK hK=>?_);go_simp;with_reducible refine(WS s1 q1 e1 s m e X HX.out _ kR.out gZ.out).mono ?_
    rintro e w4 ⟨rfl,hq⟩;have ae:Bw wr w4:=by first|exact hq|exact aO hq
    clear p0 p1 c0 c1 c2 t0 t1 t2 t3;replace Hp:=kB Hp ae;replace Hc:=kB Hc ae;replace Ht:=kW Ht ae;obtain⟨p0,p1⟩:=Hp.out.c2;obtain⟨c0,c1,c2⟩:=Hc.out.c3;obtain⟨t0,t1,t2,t3⟩:=Ht.out.w4;replace Hb:=az Hb ae;clear ae;refine hK _ _ (λ_=>⟨p1,c0,c1,c2,t0,t1,t2,t3⟩) ?_;clear hK K;try simp only[UU]
    refine pT rfl rfl ?_;try simp only[UU]
    refine aJ rfl rfl (λK hK=>?_);go_simp;refine hK _ _ (λ_=>⟨aI p1,aI c0,aI c1,aI c2,aI t0,aI t1,aI t2,aI t3⟩) ?_;clear hK K;try simp only[UU]
    refine bE (λW5=>ai W5 (w4.heap.size) 107 [.string (bs l),.bool (au (dN X)),.string (bs (nt (dN X).natAbs)),.int .i64 (dE X)]/\Bw w4 W5) (by first|exact dW|exact dX) ?_;rintro W5 ⟨qd,ae⟩;clear p0 p1 c0 c1 c2 t0 t1 t2 t3;have am2:=Hp.out.lt;have amE:=Hc.out.lt;replace Hp:=kB Hp ae;replace Hc:=kB Hc ae;replace Ht:=kW Ht ae;have Hd:=ah qd;clear qd;obtain⟨p0,p1⟩:=Hp.out.c2;obtain⟨c0,c1,c2⟩:=Hc.out.c3;obtain⟨t0,t1,t2,t3⟩:=Ht.out.w4;obtain⟨d0,d1,d2,d3⟩:=Hd.out.c4;replace Hb:=az Hb ae;clear ae;refine aJ rfl rfl (λK hK=>?_);have dR:=ownsRow_below cp.out Hb.out;have hs3:=Hb.out.size;refine wp_append_own _ _ _ 55 rfl w1.heap.size 107 i0 _ 4 48 Tryz.underlying55 Hi.out cM.out cN.out cJ.out rfl zd v k ((Q.take k).flatMap aN) rfl dR ⟨w4.heap.size,0,none⟩ 1 1 [.string (bs l),.bool (au (dN X)),.string (bs (nt (dN X).natAbs)),.int .i64 (dE X)] rfl rfl (fZ Hd.out) zy zx zo zo ?_;intro v' w8 dF bj _;have nb:∀b,b<w1.heap.size->some b≠v.ownBlock:=λb hb e=>by have:=cL dR b e.symm;omega
    refine hK _ _ (λ_=>⟨bO bj p1 (nb _ zp),bO bj c0 (nb _ zp),bO bj c1 (nb _ zp),bO bj c2 (nb _ zp),bO bj t0 (nb _ zp),bO bj t1 (nb _ zp),bO bj t2 (nb _ zp),bO bj t3 (nb _ zp)⟩) ?_;clear hK K;try simp only[UU]
    have gg:=(aK aR.out Hb.out).grown bj zo (λj e=>cL dR j e);rw[<-Yo.out]at dF;obtain⟨fY,gP⟩:=aM gg dF;refine pT rfl rfl ?_;try simp only[UU]
    simp only[aU];clear nb dR dF bj gg p0 p1 c0 c1 c2 t0 t1 t2 t3 d0 d1 d2 d3;go_wp2;go_roundw;case rel=>exact⟨k+1,v',by omega,by go_num,rfl,gP.out,fY.out⟩
    case measure=>simp[intOf];omega
  . obtain rfl:k=n:=by omega
    have htk:Q.take k=Q:=List.take_of_length_le (by rw[OT.out];exact Nat.le_refl _);rw[htk]at ho;obtain⟨a2,c2,rfl,hat,_⟩:=dK ho;have fF:=ah hat;have Hb:Hid (Bw w wr):=dV;have Zb:=ah (vr.out wr a2 c2 hat);clear ho pb dV htk hat Hc;obtain⟨p0,p1⟩:=Hp.out.c2;obtain⟨r0,aj,r1,ar⟩:=Hr.out.g2;go_wp2_with fail;refine(Zb.out).mono ?_;rintro e w6 ⟨a9,d9,rfl,Cs,ae⟩;clear p0 p1 r0 aj r1 ar;replace Hp:=kB Hp ae;replace Hr:=kB Hr ae;obtain⟨p0,p1⟩:=Hp.out.c2;obtain⟨r0,aj,r1,ar⟩:=Hr.out.g2;replace Hb:=az Hb ae;clear ae;have ZV:=ah Cs;clear Cs;go_wp2;have h9:=ZV.out.store Hr.out zd (.int .i64 (V:Int)) (.slice a9 C.length d9);refine gu (λw9=>cu w9 a9 d9 C/\ai w9 (w.heap.size+1+1) 57 [.int .i64 (V:Int),.slice a9 C.length d9]/\Bw w w9) ⟨h9,(Hr.out.set 0 _).set 1 _,(Hb.out.setCell zp _).setCell zp _⟩ ?_;rintro w9 ⟨q1,q2,q3⟩;obtain⟨x0,x1⟩:=q2.c2;exact bodyPost_ret (v:=.tuple #[.agg #[.int .i64 (V:Int),.slice a9 C.length d9],.int .i64 0]) (by simp[results,Tryz.results43,go_sem,x0,x1]) rfl ⟨_,_,rfl,q1,q3⟩
theorem ajk (ts:List aL)(a a':Option Addr)(n cap cap':Nat)(w:World)(hn:ts.length=n)(hl:n<=65536)(ha:At w a (ts.flatMap aN))(ha':At w a' (ts.flatMap aN)):
 Calls Tryz.prog 64 #[.slice a n cap,.slice a' n cap'] w λe w'=>e=.returned (.bool true)/\Bw w w':=by
 obtain⟨Ha,nz,Hn⟩:=cH ha ha' hn;clear ha ha' hn;have Hb:Hid (Bw w w):=Below.refl _ _;go_enter Tryz.func64,Tryz.ntmps64;go_wp2_with fail;go_loopw[5] (λx wr=>∃k:Nat,k<=n/\x=.int .i64 (k:Int)/\Bw w wr) (λx _=>n-(intOf x).toNat);case atStart=>exact⟨0,Nat.zero_le _,rfl,Hb.out⟩
 case round=>
  clear Hb;obtain⟨k,hk,rfl,pb⟩:=hrel;by_cases hlt:k<n
  . have hk2:k<ts.length:=by rw[Hn.out];exact hlt
    obtain⟨l,s,m,e,hx⟩:∃l s m e,ts[k]=(l,s,m,e):=⟨_,_,_,_,rfl⟩;obtain⟨b,o,rfl,cw⟩:=(Ha.out.below pb).term k hk2 hx;obtain⟨b',o',rfl,qJ⟩:=(nz.out.below pb).term k hk2 hx;have bA:=jl n cap k (k:Int) (rfl:(some ⟨b,o,none⟩:Option Addr)=_) hlt rfl;have TG:=jl n cap' k (k:Int) (rfl:(some ⟨b',o',none⟩:Option Addr)=_) hlt rfl;have Hx:Hid (aZ wr b (o+k*4) [.string (bs l),.bool s,.string (bs m),.int .i64 e]):=cw;have Hy:Hid (aZ wr b' (o'+k*4) [.string (bs l),.bool s,.string (bs m),.int .i64 e]):=qJ;have aR:=ah pb;clear pb cw qJ hx;have Hb:Hid (Bw wr wr):=Below.refl _ _;obtain⟨x0,x1,x2,x3⟩:=Hx.out.w4;obtain⟨y0,y1,y2,y3⟩:=Hy.out.w4;go_wp2_with fail;refine bD (λw'=>w'.cell? ⟨b,o+k*4,none⟩=some (.string (bs l))/\w'.cell? ⟨b,o+k*4+1,none⟩=some (.bool s)/\w'.cell? ⟨b,o+k*4+2,none⟩=some (.string (bs m))/\w'.cell? ⟨b,o+k*4+3,none⟩=some (.int .i64 e)/\w'.cell? ⟨b',o'+k*4,none⟩=some (.string (bs l))/\w'.cell? ⟨b',o'+k*4+1,none⟩=some (.bool s)/\w'.cell? ⟨b',o'+k*4+2,none⟩=some (.string (bs m))/\w'.cell? ⟨b',o'+k*4+3,none⟩=some (.int .i64 e)) (λi=>Nat.blt i 100000) [(0,true),(1,true),(2,true),(3,true),(4,true),(5,true),(6,true),(7,true),(8,true)] zk zk rfl zk zc ⟨x0,x1,x2,x3,y0,y1,y2,y3⟩ ?_;iterate 9 (refine pT rfl rfl ?_ (by intro w' ⟨q0,q1,q2,q3,q4,q5,q6,q7⟩;go_simp;try with_reducible rfl);try simp only[UU])
    simp only[aU];go_wp2;go_roundw;case rel=>exact⟨k+1,by omega,by go_num,aR.out.drew⟩
    case measure=>simp[intOf];omega
  . obtain rfl:k=n:=by omega
    have aR:=ah pb;go_wp2;refine bodyPost_ret (results_tmp rfl _ _ _) rfl ⟨rfl,aR.out⟩
theorem aja (V:Int)(ts:List aL)(a a':Option Addr)(cap cap':Nat)(w:World)(hl:ts.length<=65536)(ha:At w a (ts.flatMap aN))(ha':At w a' (ts.flatMap aN)):
 Calls Tryz.prog 25 #[.agg #[.int .i64 V,.slice a ts.length cap],.agg #[.int .i64 V,.slice a' ts.length cap']] w λe w'=>e=.returned (.bool true)/\Bw w w':=by
 obtain⟨n,hn⟩:=aC ts.length;have h1:=λW (hW:Bw w W)=>ajk ts a a' n cap cap' W hn zo (ha.below hW) (ha'.below hW);rw[hn];have H1:=ah h1;clear h1 ha ha' hn hl;have Hb:Hid (Bw w w):=Below.refl _ _;go_enter Tryz.func25,Tryz.ntmps25;go_wp2_with fail;obtain⟨R,hR⟩:∃R:World->Prop,(λW=>ai W (w.heap.size) 57 [.int .i64 V,.slice a n cap]/\ai W (w.heap.size+1) 57 [.int .i64 V,.slice a' n cap']/\Bw w W)=R:=⟨_,rfl⟩;first|refine bG R ?hR ?_|refine bF R ?hR ?_
 case hR=>subst hR;exact⟨((ai.newAt w _ _ (b:=w.heap.size) rfl).alloc _),(ai.newAt (w.alloc _) _ _ (b:=w.heap.size+1) zm),(zl.alloc zj _)⟩
 subst hR;rintro W ⟨qp,qq,ae⟩;have Hp:=ah qp;clear qp;have Hq:=ah qq;clear qq;obtain⟨p0,p1⟩:=Hp.out.c2;obtain⟨q0,q1⟩:=Hq.out.c2;replace Hb:=az Hb ae;clear ae;go_wp2_with fail;refine(H1.out _ Hb.out).mono ?_;rintro e w1 ⟨rfl,ae⟩;clear p0 p1 q0 q1;replace Hp:=kB Hp ae;replace Hq:=kB Hq ae;obtain⟨p0,p1⟩:=Hp.out.c2;obtain⟨q0,q1⟩:=Hq.out.c2;replace Hb:=az Hb ae;clear ae;go_wp2;go_ret;exact⟨rfl,Hb.out⟩
end Go.Proofs.YtdaadlblknpipaaGreatDoor
