/- Package ogeeref08: Var,Check of what may be,Scale,Terms,Same. -/
import Derived.Test.YtdaadlblknpipaaGreatDoorZ18
import Derived.Test.YtdaadlblknpipaaGreatDoorZ23
set_option linter.unusedVariables false
set_option linter.unusedSimpArgs false
set_option maxRecDepth 100000
set_option maxHeartbeats 16000000
namespace Go.Proofs.YtdaadlblknpipaaGreatDoor
open Go.RowKit
attribute [local go_sem ↓] Go.wp_at_zero Go.wp_at_succ
theorem akw (V k:Nat)(w:World)(hV:V<=12)(hk:k<V):
 Calls Tryz.prog 42 #[.int .i64 (V:Int),.int .i64 (k:Int)] w λex w'=>∃a' c',ex=.returned (.tuple #[.agg #[.int .i64 (V:Int),.slice a' (bR [(dw V k,canon 1)]).length c'],.int .i64 0])/\cV w' a' c' (bR [(dw V k,canon 1)])/\Bw w w':=by
 obtain⟨C,hC⟩:=aB (bR [(dw V k,canon 1)]);rw[hC];obtain⟨O,hO⟩:∃O:Dyadic,(1:Dyadic)=O:=⟨_,rfl⟩;have hmk:=λW b (hb:ak W b 107 [.string (bs (dw V k)),.bool (ar (dN O)),.string (bs (nt (dN O).natAbs)),.int .i64 (dE O)])=>Yd V (some ⟨b,0,none⟩) 1 1 [(dw V k,canon 1)] 1 W rfl zo (by rw[hO];exact At.apk hb) (by intro t ht;simp at ht;subst ht;exact Sm.apj Sm.one zd) (by intro t ht;simp at ht;subst ht;show Sm 1 (az (canon 1));rw[bU];exact Sm.one) zo;rw[hC]at hmk;have hof:∀W,Calls Tryz.prog 62 #[.int .i64 1] W λe w'=>e=.returned (bC O)/\Bw W w':=λW=>Yi 1 O hO W zd;have hmb:=λW=>sD (V:Int) V rfl zo W;have hcv:∀W b,Hid (ak W b 5 (cQ V λj=>if j=k then 1 else 0))->(convert 111 9 (.slice (some ⟨b,0,none⟩) V V)).run Tryz.prog W=.ok (.string (bs (dw V k))) W:=λW b h=>by rw[<-YR V k];exact yu h.out V
 have bD:=λb=>vG V V k (k:Int) (rfl:(some ⟨b,0,none⟩:Option Addr)=_) hk rfl;simp only[Nat.zero_add,Nat.mul_one]at bD;have hget:(cQ V λ_=>0)[k]?=some (.int .u8 0):=kZ _ _ _ hk;have nD:(cQ V λ_=>0).set k (.int .u8 1)=cQ V λj=>if j=k then 1 else 0:=yw V _ k 1
 obtain⟨tC,rF⟩:=aL hmk hof;clear hmk hof hC hO;have Dk:¬(k:Int)<0:=by omega
 have hVi:¬(V:Int)<0:=by omega
 have hV2:¬(12:Int)<(V:Int):=by omega
 have hkV:¬(V:Int)<=(k:Int):=by omega
 obtain⟨W,dc,Hb,Hr⟩:=iF w 57 [.int .i64 0,.slice none 0 0];obtain⟨r0,ai,r1,aj⟩:=Hr.out.g2;go_enter Tryz.func42,Tryz.ntmps42;go_wp2_with fail;have hrl:=Hr.out.lt;obtain⟨R,hR⟩:∃R:World->Prop,(λW3=>ak W3 W.heap.size 5 (cQ V λj=>if j=k then 1 else 0)/\Bw W W3)=R:=⟨_,rfl⟩;first|refine bO R ?hR ?_|refine bK R ?hR ?_
 case hR=>subst hR;exact⟨ak.newAt W _ _ (b:=W.heap.size) rfl,zl⟩
 subst hR;intro W3 ⟨qm,ae⟩;clear r0 ai r1 aj;replace Hr:=kB Hr ae;obtain⟨r0,ai,r1,aj⟩:=Hr.out.g2;replace Hb:=ah (aJ Hb.out ae);have Hm:=ah qm;clear qm ae hget nD bD hmb;have oP:∀w',iw W3 w'->(convert 111 9 (.slice (some ⟨W.heap.size,0,none⟩) V V)).run Tryz.prog w'=.ok (.string (bs (dw V k))) w':=λw' h=>hcv w' _ (ah (Hm.out.below h));have aZ:Hid (iw W3 W3):=Below.refl _ _;refine bJ (λw'=>iw W3 w') (λi=>Nat.blt i 9) [(0,true),(1,true),(2,true),(3,false),(4,true),(5,false),(6,false),(7,true),(8,true),(9,false),(10,false)] zk zk rfl zk zc aZ.out.drew ?_;iterate 3 (refine OA rfl rfl (v:=?_) (λw' hw'=>?_) ?_;rotate_left;(focus have hw':=oP w' hw';go_simp;try with_reducible rfl);try simp only[UU])
 refine aI rfl rfl (λK hK=>?_);go_simp;with_reducible refine(rF.out _).mono ?_
 rintro e w4 ⟨rfl,hq⟩;have ae:Bw W3 w4:=by first|exact hq|exact aM hq
 clear r0 ai r1 aj;replace aZ:=ah (aZ.out.below ae);replace Hr:=kB Hr ae;obtain⟨r0,ai,r1,aj⟩:=Hr.out.g2;replace Hb:=au Hb ae;clear ae;refine hK _ _ (λ_=>aZ.out) ?_;clear hK K;try simp only[UU]
 refine pT rfl rfl ?_;try simp only[UU]
 refine aI rfl rfl (λK hK=>?_);go_simp;refine hK _ _ (λ_=>by first|exact aZ.out.alloc _|exact(aZ.out.alloc _).drew|exact(aZ.out.drew).alloc _) ?_;clear hK K;try simp only[UU]
 refine bN (λW5=>ak W5 (w4.heap.size) 107 [.string (bs (dw V k)),.bool (ar (dN O)),.string (bs (nt (dN O).natAbs)),.int .i64 (dE O)]/\Bw w4 W5) (by first|exact dP|exact dQ) ?_;rintro W5 ⟨qz,ae⟩;clear r0 ai r1 aj;have Im:=Hr.out.lt;replace aZ:=ah (aZ.out.below ae);replace Hr:=kB Hr ae;have Hz:=ah qz;clear qz;obtain⟨r0,ai,r1,aj⟩:=Hr.out.g2;obtain⟨z0,z1,z2,z3⟩:=Hz.out.c4;replace Hb:=au Hb ae;clear ae;refine aI rfl rfl (λK hK=>?_);go_simp;with_reducible refine(tC.out _ _ Hz.out).mono ?_
 rintro e w6 ⟨a2,d2,rfl,dO,hq⟩;have ae:Bw W5 w6:=by first|exact hq|exact aM hq
 clear r0 ai r1 aj z0 z1 z2 z3;replace aZ:=ah (aZ.out.below ae);replace Hr:=kB Hr ae;replace Hz:=kB Hz ae;obtain⟨r0,ai,r1,aj⟩:=Hr.out.g2;obtain⟨z0,z1,z2,z3⟩:=Hz.out.c4;replace Hb:=au Hb ae;clear ae;refine hK _ _ (λ_=>aZ.out) ?_;clear hK K;try simp only[UU]
 iterate 2 (refine pT rfl rfl ?_;try simp only[UU])
 refine aI rfl rfl (λK hK=>?_);go_simp;refine hK _ _ (by first|exact λh=>absurd h zd|exact λ_=>aZ.out|exact λ_=>fC zg aZ.out) ?_;clear hK K;try simp only[UU]
 refine aI rfl rfl (λK hK=>?_);go_simp;refine hK _ _ (λh=>absurd h zd) ?_;clear hK K;try simp only[UU]
 simp only[aU];go_wp2;have h9:=dO.store Hr.out zd (.int .i64 (V:Int)) (.slice a2 C.length d2);refine fF (λw9=>cV w9 a2 d2 C/\ak w9 w.heap.size 57 [.int .i64 (V:Int),.slice a2 C.length d2]/\Bw w w9) ⟨h9,(Hr.out.set 0 _).set 1 _,(Hb.out.setCell (Nat.le_refl _) _).setCell (Nat.le_refl _) _⟩ ?_;rintro w9 ⟨q1,q2,q3⟩;obtain⟨p0,p1⟩:=q2.c2;exact bodyPost_ret (v:=.tuple #[.agg #[.int .i64 (V:Int),.slice a2 C.length d2],.int .i64 0]) (by simp[results,Tryz.results42,go_sem,p0,p1]) rfl ⟨_,_,rfl,q1,q3⟩
theorem ajh {V:Nat}{ts:List aK}(h:Cn V ts)(k:Nat)(hk:k<ts.length):gA ts[k].1 V=true/\az ts[k].2≠0/\ts[k].2=canon (az ts[k].2)/\(0<k->Op.bytesLess (ts[k-1]'zo).1 ts[k].1=true):=by obtain⟨⟨h1,h2⟩,h3,h4,h5⟩:=h;have hm:=List.getElem_mem hk;exact⟨h3 _ hm,(h2 _ hm).1,(h2 _ hm).2,λh0=>List.pairwise_iff_getElem.1 h1 (k-1) k zo hk zo⟩
theorem akc (V:Nat)(a:Option Addr)(cap N:Nat)(ts:List aK)(w:World)(hN:ts.length=N)(ha:At w a (ts.flatMap aN))(hp:Cn V ts)(hf:∀t∈ts,dV t.2):
 Calls Tryz.prog 82 #[.agg #[.int .i64 (V:Int),.slice a N cap]] w λe w'=>e=.returned (.int .i64 0)/\Bw w w':=by
 have hn:N<=4096:=by rw[<-hN];exact hp.2.2.1
 have hV:V<=12:=hp.2.2.2;have hg:=λk hk=>ajh hp k hk;obtain⟨Ha,Hg,HN,Hf⟩:=dW ha hg hN hf;clear ha hg hN hf hp;have hVi:¬(V:Int)<0:=by omega
 have hV2:¬(12:Int)<(V:Int):=by omega
 have cF:¬(4096:Int)<(N:Int):=by omega
 have anw:decide ((4096:Int)<(N:Int))=false:=by simp;omega
 obtain⟨W,dc,Hb,Hp⟩:=iF w 57 [.int .i64 (V:Int),.slice a N cap];obtain⟨p0,p1⟩:=Hp.out.c2;go_enter Tryz.func82,Tryz.ntmps82;go_wp2_with fail;go_loopw[3] (λx wr=>∃k:Nat,k<=N/\x=.int .i64 (k:Int)/\ak wr w.heap.size 57 [.int .i64 (V:Int),.slice a N cap]/\Bw w wr) (λx _=>N-(intOf x).toNat);case atStart=>exact⟨0,Nat.zero_le _,rfl,Hp.out,Hb.out⟩
 case round=>
  clear p0 p1 Hp Hb;obtain⟨k,hk,rfl,gM,pb⟩:=hrel;by_cases hlt:k<N
  . have hk2:k<ts.length:=by rw[HN.out];exact hlt
    obtain⟨l,s,m,e,hx⟩:∃l s m e,ts[k]=(l,s,m,e):=⟨_,_,_,_,rfl⟩;obtain⟨b,o,hab,cW⟩:=(Ha.out.below pb).term k hk2 hx;obtain⟨g1,g2,g3,g4⟩:=Hg.out k hk2;have eP:dV (s,m,e):=by have:=Hf.out _ (List.getElem_mem hk2);rw[hx]at this;exact this
    have hfl:m.length<=16384:=eP.1;rw[hx]at g1 g2 g3;simp only[hx]at g4;obtain⟨X,hX⟩:=aB (az (s,m,e));obtain⟨sg,il⟩:=aB (cw X);have hs1:(sg==0)=false:=by rw[<-il,xo,<-hX];exact g2
    have hne:=Oh X s m e false (by rw[<-hX];simpa using g3.symm);have qX:=λW=>aj5 l (V:Int) W (by have hll:l.length=V:=Xj g1;omega);rw[g1]at qX;have bD:=jJ N cap k (k:Int) hab hlt rfl;have VW:=λW=>AE s m e sg (by rw[hX];exact il) W zo;have hfo:=λW=>yr s m e X hX W eP;obtain⟨tB,Hsn,Hfo,aO,jB,Hp⟩:=gN qX VW hfo pb hab gM;have mB:Hid (aV wr b (o+k*4) [.string (bs l),.bool s,.string (bs m),.int .i64 e]):=cW;have sz:=pb.size;clear qX VW hfo pb gM cW hX il g1 g2 g3 eP hab;have Hb:Hid (Bw wr wr):=Below.refl _ _;obtain⟨p0,p1⟩:=Hp.out.c2;obtain⟨ut,uu,uv,uw⟩:=mB.out.w4;have P0:=ut;have P1:=uu;have P2:=uv;have P3:=uw;have Q1:=p1;have ahY:=Hp.out.lt;obtain⟨W4,mF,ae,Ht⟩:=cN wr 107 [.string (bs l),.bool s,.string (bs m),.int .i64 e];clear p0 p1;replace Hp:=kB Hp ae;clear ut uu uv uw;replace mB:=kW mB ae;obtain⟨p0,p1⟩:=Hp.out.c2;obtain⟨ut,uu,uv,uw⟩:=mB.out.w4;obtain⟨t0,t1,t2,t3⟩:=Ht.out.c4;replace Hb:=au Hb ae;clear ae;go_wp2_with fail;clear P0 P1 P2 P3 Q1 ut uu uv uw mB;refine bJ (λw'=>w'.cell? ⟨w.heap.size,0,none⟩=some (.int .i64 (V:Int))/\w'.cell? ⟨w.heap.size,1,none⟩=some (.slice a N cap)/\w'.cell? ⟨wr.heap.size,0,none⟩=some (.string (bs l))/\w'.cell? ⟨wr.heap.size,1,none⟩=some (.bool s)/\w'.cell? ⟨wr.heap.size,2,none⟩=some (.string (bs m))/\w'.cell? ⟨wr.heap.size,3,none⟩=some (.int .i64 e)) (λi=>Nat.blt i 100000) [(0,true),(1,true),(2,true),(3,true),(4,false),(5,true),(6,true),(7,true),(8,true),(9,false),(10,true),(11,true),(12,true),(13,true),(14,true),(16,true),(17,true),(15,false),(18,true),(19,true)] zk zk rfl zk zc ⟨p0,p1,t0,t1,t2,t3⟩ ?_;iterate 4 (refine pT rfl rfl ?_ (by intro w' ⟨q0,q1,q2,q3,q4,q5⟩;go_simp;try with_reducible rfl);try simp only[UU])
    refine aI rfl rfl (λK hK=>?_);go_simp;with_reducible refine(tB.out _).mono ?_
    rintro e w5 ⟨rfl,hq⟩;have ae:Bw W4 w5:=by first|exact hq|exact aM hq
    clear p0 p1 t0 t1 t2 t3;replace Hp:=kB Hp ae;replace Ht:=kB Ht ae;obtain⟨p0,p1⟩:=Hp.out.c2;obtain⟨t0,t1,t2,t3⟩:=Ht.out.c4;replace Hb:=au Hb ae;clear ae;refine hK _ _ (λ_=>⟨p0,p1,t0,t1,t2,t3⟩) ?_;clear hK K;try simp only[UU]
    iterate 4 (refine pT rfl rfl ?_ (by intro w' ⟨q0,q1,q2,q3,q4,q5⟩;go_simp;try with_reducible rfl);try simp only[UU])
    refine aI rfl rfl (λK hK=>?_);go_simp;with_reducible refine(Hsn.out _).mono ?_
    rintro e w6 ⟨rfl,hq⟩;have ae:Bw w5 w6:=by first|exact hq|exact aM hq
    clear p0 p1 t0 t1 t2 t3;replace Hp:=kB Hp ae;replace Ht:=kB Ht ae;obtain⟨p0,p1⟩:=Hp.out.c2;obtain⟨t0,t1,t2,t3⟩:=Ht.out.c4;replace Hb:=au Hb ae;clear ae;refine hK _ _ (λ_=>⟨p0,p1,t0,t1,t2,t3⟩) ?_;clear hK K;try simp only[UU]
    iterate 7 (refine pT rfl rfl ?_ (by intro w' ⟨q0,q1,q2,q3,q4,q5⟩;go_simp;try with_reducible rfl);try simp only[UU])
    refine aI rfl rfl (λK hK=>?_);go_simp;with_reducible refine(Hfo.out _).mono ?_
    rintro e w7 ⟨rfl,hq⟩;have ae:Bw w6 w7:=by first|exact hq|exact aM hq
    clear p0 p1 t0 t1 t2 t3;replace Hp:=kB Hp ae;replace Ht:=kB Ht ae;obtain⟨p0,p1⟩:=Hp.out.c2;obtain⟨t0,t1,t2,t3⟩:=Ht.out.c4;replace Hb:=au Hb ae;clear ae;refine hK _ _ (λ_=>⟨p0,p1,t0,t1,t2,t3⟩) ?_;clear hK K;try simp only[UU]
    iterate 2 (refine pT rfl rfl ?_;try simp only[UU])
    simp only[aU];by_cases kP:k=0
    . have hk1:decide (0<k)=false:=by simp;omega
      have ago:decide ((0:Int)<(k:Int))=false:=by simp;omega
      clear kP g4;go_wp2_with fail;refine bJ (λw'=>w'.cell? ⟨w.heap.size,0,none⟩=some (.int .i64 (V:Int))/\w'.cell? ⟨w.heap.size,1,none⟩=some (.slice a N cap)/\w'.cell? ⟨wr.heap.size,0,none⟩=some (.string (bs l))/\w'.cell? ⟨wr.heap.size,1,none⟩=some (.bool s)/\w'.cell? ⟨wr.heap.size,2,none⟩=some (.string (bs m))/\w'.cell? ⟨wr.heap.size,3,none⟩=some (.int .i64 e)) (λi=>Nat.blt i 100000) [(0,true),(1,true),(2,true),(3,true),(4,true),(5,true),(6,true),(7,true),(8,true),(9,true),(10,true),(11,true),(12,true),(13,true)] zk zk rfl zk zc ⟨p0,p1,t0,t1,t2,t3⟩ ?_;iterate 3 (refine pT rfl rfl ?_;try simp only[UU])
      refine bu rfl rfl ?_;try simp only[UU]
      refine bu rfl rfl ?_;try simp only[UU]
      refine bu rfl rfl ?_;try simp only[UU]
      refine bu rfl rfl ?_;try simp only[UU]
      refine bu rfl rfl ?_;try simp only[UU]
      refine bu rfl rfl ?_;try simp only[UU]
      refine bu rfl rfl ?_;try simp only[UU]
      refine bu rfl rfl ?_;try simp only[UU]
      refine bu rfl rfl ?_;try simp only[UU]
      refine bu rfl rfl ?_;try simp only[UU]
      refine pT rfl rfl ?_;try simp only[UU]
      simp only[aU];go_wp2;go_roundw;case rel=>exact⟨k+1,by omega,by go_num,Hp.out,(aJ aO.out Hb.out).drew⟩
      case measure=>simp[intOf];omega
    . have rW:=g4 zo;have nu:k-1<ts.length:=by omega
      obtain⟨l',s',m',e',hx'⟩:∃l s m e,ts[k-1]=(l,s,m,e):=⟨_,_,_,_,rfl⟩;obtain⟨b',o',ou,sk⟩:=(Ha.out.below (aJ aO.out Hb.out)).term (k-1) nu hx';have hab:=jB.out;rw[hab]at ou;simp only[Option.some.injEq,Addr.mk.injEq,and_true]at ou;obtain⟨rfl,rfl⟩:=ou;rw[hx']at rW;have lI:Op.bytesLess (bs l').toList (bs l).toList=true:=by rw[gq,gq];exact rW
      have hge:Op.bytesLess (bs l).toList (bs l').toList=false:=by
       rw[gq,gq];cases hc:Op.bytesLess l l' with
       |false=>rfl
       |true=>have:=Cs rW hc;rw[yU]at this;cases this
      have ago:decide ((0:Int)<(k:Int))=true:=by simp;omega
      have hk1:decide (0<k)=true:=by simp;omega
      have MJ:IntKind.i64.wrap ((k:Int)-1)=((k-1:Nat):Int):=by rw[IntKind.wrap_i64];omega
      have MF:=jJ N cap (k-1) ((k-1:Nat):Int) hab zo rfl;obtain⟨kp,zU⟩:=aB (k-1);rw[zU]at MF MJ sk;have agq:kp<N:=by omega
      have cK:Hid (aV w7 b (o+kp*4) [.string (bs l'),.bool s',.string (bs m'),.int .i64 e']):=sk;clear sk kP hx' zU hab rW g4 nu;obtain⟨p0,p1⟩:=Hp.out.c2;obtain⟨t0,t1,t2,t3⟩:=Ht.out.c4;have iT:w7.cell? ⟨b,o+kp*4,none⟩=some (.string (bs l')):=cK.out.cell 0 zm;go_wp2_with fail;refine bJ (λw'=>w'.cell? ⟨w.heap.size,0,none⟩=some (.int .i64 (V:Int))/\w'.cell? ⟨w.heap.size,1,none⟩=some (.slice a N cap)/\w'.cell? ⟨wr.heap.size,0,none⟩=some (.string (bs l))/\w'.cell? ⟨b,o+kp*4,none⟩=some (.string (bs l'))) (λi=>Nat.blt i 100000) [(0,true),(1,true),(2,true),(3,true),(4,true),(5,true),(6,true),(7,true),(8,true),(9,true),(10,true),(11,true),(12,true),(13,true)] zk zk rfl zk zc ⟨p0,p1,t0,iT⟩ ?_;iterate 14 (refine pT rfl rfl ?_ (by intro w' ⟨q0,q1,q2,q3⟩;go_simp;try with_reducible rfl);try simp only[UU])
      simp only[aU];go_wp2;go_roundw;case rel=>exact⟨k+1,by omega,by go_num,Hp.out,(aJ aO.out Hb.out).drew⟩
      case measure=>simp[intOf];omega
  . obtain rfl:k=N:=by omega
    obtain⟨Hp,aO⟩:=aL gM pb;obtain⟨p0,p1⟩:=Hp.out.c2;go_wp2;refine bodyPost_ret (results_tmp rfl _ _ _) rfl ⟨rfl,aO.out⟩
theorem akj (V:Nat)(a:Option Addr)(cap:Nat)(ts:List aK)(s:Bool)(m:List UInt8)(e:Int)(D:Dyadic)(B:Nat)(w:World)(hp:jO V B ts)(ha:cV w a cap ts)(eP:dV (s,m,e))(oG:Sm B (az (s,m,e)))(hB:2*B+4096<=16384)(hD:az (s,m,e)=D):
 Calls Tryz.prog 43 #[.agg #[.int .i64 (V:Int),.slice a ts.length cap],.agg #[.bool s,.string (bs m),.int .i64 e]] w λex w'=>∃a' c',ex=.returned (.tuple #[.agg #[.int .i64 (V:Int),.slice a' (bR (dX D ts)).length c'],.int .i64 0])/\cV w' a' c' (bR (dX D ts))/\Bw w w':=by
 obtain⟨i0,hi,hz0,hz1,hz2⟩:=info_parts Tryz.apr;obtain⟨n,hn⟩:=aB ts.length;have hnl:n<=4096:=by have:=hp.1.2.2.1;omega
 have gu:(dX D ts).length=n:=by unfold dX;rw[List.length_map,hn]
 have hsm:∀t∈ts,Sm B (az t.2):=λt ht=>(hp.2 t ht).2;have mH:∀t∈ts,dV t.2:=λt ht=>by rw[(hp.1.1.2 t ht).2];exact(hsm t ht).apj zo
 rw[hD]at oG;have jZ:∀t∈dX D ts,Sm (2*B) (az t.2):=by
  intro t ht;unfold dX at ht;obtain⟨x,hx,rfl⟩:=List.mem_map.1 ht;show Sm _ (az (canon _))
  rw[bU];exact(Sm.mul (hsm x hx) oG).mono zo
 have CU:∀t∈dX D ts,dV t.2:=by
  intro t ht;have h1:=jZ t ht;unfold dX at ht;obtain⟨x,hx,rfl⟩:=List.mem_map.1 ht;have h2:Sm (2*B) (az x.2*D):=by have h3:az (canon (az x.2*D))=az x.2*D:=bU _;rw[<-h3];exact h1
  exact h2.apj zo
 have gv:=λW (hW:Bw w W)=>akc V a cap n ts W hn (ha.1.below hW) hp.1 mH;have vr:=λW a' c' (h:At W a' ((dX D ts).flatMap aN))=>Yd V a' n c' (dX D ts) (2*B) W gu hnl h CU jZ zo;obtain⟨C,hC⟩:=aB (bR (dX D ts));obtain⟨Q,hQ⟩:=aB (dX D ts);rw[hC]at vr⊢;have Ub:∀k (h:k<ts.length) (h2:k<Q.length),Q[k]=(ts[k].1,canon (az ts[k].2*D)):=λk h h2=>by subst hQ;simp[dX]
 rw[hQ]at vr gu;rw[hn];obtain⟨Hi,cG,cH,cE,oU,wP,BH,Hn,iW,HD,Ha,ZH⟩:=fR hi hz0 hz1 hz2 gv vr mH hn eP hD ha.1 Ub;have Qq:=ah gu;clear hi hz0 hz1 hz2 gv vr mH hn eP hD hC hQ gu jZ CU hsm ha hp oG Ub;have Hb:Hid (Bw w w):=Below.refl _ _;go_enter Tryz.func43,Tryz.ntmps43;go_wp2_with fail;obtain⟨R,hR⟩:∃R:World->Prop,(λW=>ak W (w.heap.size) 57 [.int .i64 (V:Int),.slice a n cap]/\ak W (w.heap.size+1) 30 [.bool s,.string (bs m),.int .i64 e]/\ak W (w.heap.size+1+1) 57 [.int .i64 0,.slice none 0 0]/\Bw w W)=R:=⟨_,rfl⟩;first|refine bO R ?hR ?_|refine bK R ?hR ?_
 case hR=>subst hR;exact⟨(((ak.newAt w _ _ (b:=w.heap.size) rfl).alloc _).alloc _),((ak.newAt (w.alloc _) _ _ (b:=w.heap.size+1) zm).alloc _),(ak.newAt ((w.alloc _).alloc _) _ _ (b:=w.heap.size+1+1) zm),((zl.alloc zj _).alloc zj _)⟩
 subst hR;rintro W ⟨qp,qc,qr,ae⟩;have Hp:=ah qp;clear qp;have Hc:=ah qc;clear qc;have Hr:=ah qr;clear qr;obtain⟨p0,p1⟩:=Hp.out.c2;obtain⟨c0,c1,c2⟩:=Hc.out.c3;obtain⟨r0,ai,r1,aj⟩:=Hr.out.g2;replace Hb:=au Hb ae;clear ae;go_wp2_with fail;refine(oU.out _ Hb.out).mono ?_;rintro e w1 ⟨rfl,ae⟩;clear p0 p1 c0 c1 c2 r0 ai r1 aj;replace Hp:=kB Hp ae;replace Hc:=kB Hc ae;replace Hr:=kB Hr ae;obtain⟨p0,p1⟩:=Hp.out.c2;obtain⟨c0,c1,c2⟩:=Hc.out.c3;obtain⟨r0,ai,r1,aj⟩:=Hr.out.g2;replace Hb:=au Hb ae;clear ae;have BQ:=Hp;have yI:=Hc;have kD:=Hr;have dM:=Hb;go_wp2_with fail;go_loopw[7,8] (λs7 x wr=>∃(k:Nat) (v:Value),k<=n/\x=.int .i64 (k:Int)/\v=s7/\wr.ownsRow w1.heap.size 107 4 v k ((Q.take k).flatMap aN)/\Bw w1 wr) (λ_ x _=>n-(intOf x).toNat);case atStart=>exact⟨0,_,Nat.zero_le _,rfl,rfl,World.ownsRow_nil _ _ _ _,Below.refl _ _⟩
 case round=>
  clear p0 p1 c0 c1 c2 r0 ai r1 aj Hp Hc Hr Hb;obtain⟨k,v,hk,rfl,rfl,ho,pb⟩:=hrel;obtain⟨Hp,Hc,Hr⟩:=cL (BQ.out.below pb) (yI.out.below pb) (kD.out.below pb);have dG:=aJ dM.out pb;have wj:=dM.out.size;have lc1:=yI.out.lt;have lr1:=kD.out.lt;by_cases hlt:k<n
  . have hk2:k<ts.length:=by rw[Hn.out];exact hlt
    have Vk:k<Q.length:=by rw[Qq.out];exact hlt
    obtain⟨l,s1,q1,e1,hx⟩:∃l s m e,ts[k]=(l,s,m,e):=⟨_,_,_,_,rfl⟩;obtain⟨b,o,rfl,cW⟩:=(Ha.out.below dG).term k hk2 hx;have lbt:b<w.heap.size:=by obtain⟨b3,o3,h3,hw3⟩:=Ha.out.term k hk2 hx;simp only[Option.some.injEq,Addr.mk.injEq,and_true]at h3;obtain⟨rfl,rfl⟩:=h3;exact World.block_lt_of_cell? w _ (hw3.cell 0 zm)
    have bD:=jJ n cap k (k:Int) (rfl:(some ⟨b,o,none⟩:Option Addr)=_) hlt rfl;have ke:dV (s1,q1,e1):=by have:=BH.out _ (List.getElem_mem hk2);rw[hx]at this;exact this
    obtain⟨X,hX⟩:=aB (az (s1,q1,e1) *D);have Uc:(Q.take (k+1)).flatMap aN=(Q.take k).flatMap aN++[.string (bs l),.bool (ar (dN X)),.string (bs (nt (dN X).natAbs)),.int .i64 (dE X)]:=by
     rw[List.take_succ_eq_append_getElem Vk,List.flatMap_append,ZH.out k hk2 Vk,hx];show _++[Value.string (bs l),Value.bool (ar (dN (az (s1,q1,e1) *D))),_,_]=_
     rw[hX];rfl
    have HX:Hid (az (s1,q1,e1) *az (s,m,e)=X):=by show _=_;rw[HD.out];exact hX
    have Ht:Hid (aV wr b (o+k*4) [.string (bs l),.bool s1,.string (bs q1),.int .i64 e1]):=cW;obtain⟨cM,aO,ZI,mn⟩:=dW ho pb Uc ke;have gB:=pb.size;clear ho pb Uc ke hX hx cW dG;have Hb:Hid (Bw wr wr):=Below.refl _ _;obtain⟨p0,p1⟩:=Hp.out.c2;obtain⟨c0,c1,c2⟩:=Hc.out.c3;obtain⟨t0,t1,t2,t3⟩:=Ht.out.w4;go_wp2_with fail;refine bJ (λw'=>w'.cell? ⟨w.heap.size,1,none⟩=some (.slice (some ⟨b,o,none⟩) n cap)/\w'.cell? ⟨w.heap.size+1,0,none⟩=some (.bool s)/\w'.cell? ⟨w.heap.size+1,1,none⟩=some (.string (bs m))/\w'.cell? ⟨w.heap.size+1,2,none⟩=some (.int .i64 e)/\w'.cell? ⟨b,o+k*4,none⟩=some (.string (bs l))/\w'.cell? ⟨b,o+k*4+1,none⟩=some (.bool s1)/\w'.cell? ⟨b,o+k*4+2,none⟩=some (.string (bs q1))/\w'.cell? ⟨b,o+k*4+3,none⟩=some (.int .i64 e1)) (λi=>Nat.blt i 100000) [(0,true),(1,true),(2,true),(3,true),(4,true),(5,true),(6,true),(7,true),(8,true),(9,true),(10,true),(11,true),(12,true),(13,true),(14,false),(15,true),(16,false),(17,false),(18,true)] zk zk rfl zk zc ⟨p1,c0,c1,c2,t0,t1,t2,t3⟩ ?_;iterate 14 (refine pT rfl rfl ?_ (by intro w' ⟨q0,q1,q2,q3,q4,q5,q6,q7⟩;go_simp;try with_reducible rfl);try simp only[UU])
    refine aI rfl rfl (λK hK=>?_);go_simp;with_reducible refine(OQ s1 q1 e1 s m e X HX.out _ mn.out iW.out).mono ?_
    rintro e w4 ⟨rfl,hq⟩;have ae:Bw wr w4:=by first|exact hq|exact aM hq
    clear p0 p1 c0 c1 c2 t0 t1 t2 t3;replace Hp:=kB Hp ae;replace Hc:=kB Hc ae;replace Ht:=kW Ht ae;obtain⟨p0,p1⟩:=Hp.out.c2;obtain⟨c0,c1,c2⟩:=Hc.out.c3;obtain⟨t0,t1,t2,t3⟩:=Ht.out.w4;replace Hb:=au Hb ae;clear ae;refine hK _ _ (λ_=>⟨p1,c0,c1,c2,t0,t1,t2,t3⟩) ?_;clear hK K;try simp only[UU]
    refine pT rfl rfl ?_;try simp only[UU]
    refine aI rfl rfl (λK hK=>?_);go_simp;refine hK _ _ (λ_=>⟨aG p1,aG c0,aG c1,aG c2,aG t0,aG t1,aG t2,aG t3⟩) ?_;clear hK K;try simp only[UU]
    refine bN (λW5=>ak W5 (w4.heap.size) 107 [.string (bs l),.bool (ar (dN X)),.string (bs (nt (dN X).natAbs)),.int .i64 (dE X)]/\Bw w4 W5) (by first|exact dP|exact dQ) ?_;rintro W5 ⟨qd,ae⟩;clear p0 p1 c0 c1 c2 t0 t1 t2 t3;have aoj:=Hp.out.lt;have anV:=Hc.out.lt;replace Hp:=kB Hp ae;replace Hc:=kB Hc ae;replace Ht:=kW Ht ae;have Hd:=ah qd;clear qd;obtain⟨p0,p1⟩:=Hp.out.c2;obtain⟨c0,c1,c2⟩:=Hc.out.c3;obtain⟨t0,t1,t2,t3⟩:=Ht.out.w4;obtain⟨d0,d1,d2,d3⟩:=Hd.out.c4;replace Hb:=au Hb ae;clear ae;refine aI rfl rfl (λK hK=>?_);have eF:=ownsRow_below cM.out Hb.out;have hs3:=Hb.out.size;refine wp_append_own _ _ _ 55 rfl w1.heap.size 107 i0 _ 4 48 Tryz.underlying55 Hi.out cG.out cH.out cE.out rfl zd v k ((Q.take k).flatMap aN) rfl eF ⟨w4.heap.size,0,none⟩ 1 1 [.string (bs l),.bool (ar (dN X)),.string (bs (nt (dN X).natAbs)),.int .i64 (dE X)] rfl rfl (fM Hd.out) zy zx zo zo ?_;intro v' w8 dv aY _;have nb:∀b,b<w1.heap.size->some b≠v.ownBlock:=λb hb e=>by have:=cJ eF b e.symm;omega
    refine hK _ _ (λ_=>⟨bE aY p1 (nb _ zp),bE aY c0 (nb _ zp),bE aY c1 (nb _ zp),bE aY c2 (nb _ zp),bE aY t0 (nb _ zp),bE aY t1 (nb _ zp),bE aY t2 (nb _ zp),bE aY t3 (nb _ zp)⟩) ?_;clear hK K;try simp only[UU]
    have gY:=(aJ aO.out Hb.out).grown aY zo (λj e=>cJ eF j e);rw[<-ZI.out]at dv;obtain⟨iV,iI⟩:=aL gY dv;refine pT rfl rfl ?_;try simp only[UU]
    simp only[aU];clear nb eF dv aY gY p0 p1 c0 c1 c2 t0 t1 t2 t3 d0 d1 d2 d3;go_wp2;go_roundw;case rel=>exact⟨k+1,v',by omega,by go_num,rfl,iI.out,iV.out⟩
    case measure=>simp[intOf];omega
  . obtain rfl:k=n:=by omega
    have htk:Q.take k=Q:=List.take_of_length_le (by rw[Qq.out];exact Nat.le_refl _);rw[htk]at ho;obtain⟨a2,c2,rfl,hat,_⟩:=di ho;have fc:=ah hat;have Hb:Hid (Bw w wr):=dG;have aaz:=ah (wP.out wr a2 c2 hat);clear ho pb dG htk hat Hc;obtain⟨p0,p1⟩:=Hp.out.c2;obtain⟨r0,ai,r1,aj⟩:=Hr.out.g2;go_wp2_with fail;refine(aaz.out).mono ?_;rintro e w6 ⟨a9,d9,rfl,Dw,ae⟩;clear p0 p1 r0 ai r1 aj;replace Hp:=kB Hp ae;replace Hr:=kB Hr ae;obtain⟨p0,p1⟩:=Hp.out.c2;obtain⟨r0,ai,r1,aj⟩:=Hr.out.g2;replace Hb:=au Hb ae;clear ae;have Hp9:=ah Dw;clear Dw;go_wp2;have h9:=Hp9.out.store Hr.out zd (.int .i64 (V:Int)) (.slice a9 C.length d9);refine fF (λw9=>cV w9 a9 d9 C/\ak w9 (w.heap.size+1+1) 57 [.int .i64 (V:Int),.slice a9 C.length d9]/\Bw w w9) ⟨h9,(Hr.out.set 0 _).set 1 _,(Hb.out.setCell zp _).setCell zp _⟩ ?_;rintro w9 ⟨q1,q2,q3⟩;obtain⟨x0,x1⟩:=q2.c2;exact bodyPost_ret (v:=.tuple #[.agg #[.int .i64 (V:Int),.slice a9 C.length d9],.int .i64 0]) (by simp[results,Tryz.results43,go_sem,x0,x1]) rfl ⟨_,_,rfl,q1,q3⟩
theorem akr (ts:List aK)(a a':Option Addr)(n cap cap':Nat)(w:World)(hn:ts.length=n)(hl:n<=65536)(ha:At w a (ts.flatMap aN))(ha':At w a' (ts.flatMap aN)):
 Calls Tryz.prog 64 #[.slice a n cap,.slice a' n cap'] w λe w'=>e=.returned (.bool true)/\Bw w w':=by
 obtain⟨Ha,oQ,Hn⟩:=cL ha ha' hn;clear ha ha' hn;have Hb:Hid (Bw w w):=Below.refl _ _;go_enter Tryz.func64,Tryz.ntmps64;go_wp2_with fail;go_loopw[5] (λx wr=>∃k:Nat,k<=n/\x=.int .i64 (k:Int)/\Bw w wr) (λx _=>n-(intOf x).toNat);case atStart=>exact⟨0,Nat.zero_le _,rfl,Hb.out⟩
 case round=>
  clear Hb;obtain⟨k,hk,rfl,pb⟩:=hrel;by_cases hlt:k<n
  . have hk2:k<ts.length:=by rw[Hn.out];exact hlt
    obtain⟨l,s,m,e,hx⟩:∃l s m e,ts[k]=(l,s,m,e):=⟨_,_,_,_,rfl⟩;obtain⟨b,o,rfl,cW⟩:=(Ha.out.below pb).term k hk2 hx;obtain⟨b',o',rfl,sk⟩:=(oQ.out.below pb).term k hk2 hx;have bD:=jJ n cap k (k:Int) (rfl:(some ⟨b,o,none⟩:Option Addr)=_) hlt rfl;have Vf:=jJ n cap' k (k:Int) (rfl:(some ⟨b',o',none⟩:Option Addr)=_) hlt rfl;have Hx:Hid (aV wr b (o+k*4) [.string (bs l),.bool s,.string (bs m),.int .i64 e]):=cW;have Hy:Hid (aV wr b' (o'+k*4) [.string (bs l),.bool s,.string (bs m),.int .i64 e]):=sk;have aO:=ah pb;clear pb cW sk hx;have Hb:Hid (Bw wr wr):=Below.refl _ _;obtain⟨x0,x1,x2,x3⟩:=Hx.out.w4;obtain⟨y0,y1,y2,y3⟩:=Hy.out.w4;go_wp2_with fail;refine bJ (λw'=>w'.cell? ⟨b,o+k*4,none⟩=some (.string (bs l))/\w'.cell? ⟨b,o+k*4+1,none⟩=some (.bool s)/\w'.cell? ⟨b,o+k*4+2,none⟩=some (.string (bs m))/\w'.cell? ⟨b,o+k*4+3,none⟩=some (.int .i64 e)/\w'.cell? ⟨b',o'+k*4,none⟩=some (.string (bs l))/\w'.cell? ⟨b',o'+k*4+1,none⟩=some (.bool s)/\w'.cell? ⟨b',o'+k*4+2,none⟩=some (.string (bs m))/\w'.cell? ⟨b',o'+k*4+3,none⟩=some (.int .i64 e)) (λi=>Nat.blt i 100000) [(0,true),(1,true),(2,true),(3,true),(4,true),(5,true),(6,true),(7,true),(8,true)] zk zk rfl zk zc ⟨x0,x1,x2,x3,y0,y1,y2,y3⟩ ?_;iterate 9 (refine pT rfl rfl ?_ (by intro w' ⟨q0,q1,q2,q3,q4,q5,q6,q7⟩;go_simp;try with_reducible rfl);try simp only[UU])
    simp only[aU];go_wp2;go_roundw;case rel=>exact⟨k+1,by omega,by go_num,aO.out.drew⟩
    case measure=>simp[intOf];omega
  . obtain rfl:k=n:=by omega
    have aO:=ah pb;go_wp2;refine bodyPost_ret (results_tmp rfl _ _ _) rfl ⟨rfl,aO.out⟩
theorem akh (V:Int)(ts:List aK)(a a':Option Addr)(cap cap':Nat)(w:World)(hl:ts.length<=65536)(ha:At w a (ts.flatMap aN))(ha':At w a' (ts.flatMap aN)):
 Calls Tryz.prog 25 #[.agg #[.int .i64 V,.slice a ts.length cap],.agg #[.int .i64 V,.slice a' ts.length cap']] w λe w'=>e=.returned (.bool true)/\Bw w w':=by
 obtain⟨n,hn⟩:=aB ts.length;have h1:=λW (hW:Bw w W)=>akr ts a a' n cap cap' W hn zo (ha.below hW) (ha'.below hW);rw[hn];have H1:=ah h1;clear h1 ha ha' hn hl;have Hb:Hid (Bw w w):=Below.refl _ _;go_enter Tryz.func25,Tryz.ntmps25;go_wp2_with fail;obtain⟨R,hR⟩:∃R:World->Prop,(λW=>ak W (w.heap.size) 57 [.int .i64 V,.slice a n cap]/\ak W (w.heap.size+1) 57 [.int .i64 V,.slice a' n cap']/\Bw w W)=R:=⟨_,rfl⟩;first|refine bO R ?hR ?_|refine bK R ?hR ?_
 case hR=>subst hR;exact⟨((ak.newAt w _ _ (b:=w.heap.size) rfl).alloc _),(ak.newAt (w.alloc _) _ _ (b:=w.heap.size+1) zm),(zl.alloc zj _)⟩
 subst hR;rintro W ⟨qp,qq,ae⟩;have Hp:=ah qp;clear qp;have Hq:=ah qq;clear qq;obtain⟨p0,p1⟩:=Hp.out.c2;obtain⟨q0,q1⟩:=Hq.out.c2;replace Hb:=au Hb ae;clear ae;go_wp2_with fail;refine(H1.out _ Hb.out).mono ?_;rintro e w1 ⟨rfl,ae⟩;clear p0 p1 q0 q1;replace Hp:=kB Hp ae;replace Hq:=kB Hq ae;obtain⟨p0,p1⟩:=Hp.out.c2;obtain⟨q0,q1⟩:=Hq.out.c2;replace Hb:=au Hb ae;clear ae;go_wp2;go_ret;exact⟨rfl,Hb.out⟩
end Go.Proofs.YtdaadlblknpipaaGreatDoor
