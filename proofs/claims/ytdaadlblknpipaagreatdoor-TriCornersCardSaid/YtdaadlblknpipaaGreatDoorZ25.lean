/- Package calc: Eval. -/
import Derived.Test.YtdaadlblknpipaaGreatDoorZ13
import Derived.Test.YtdaadlblknpipaaGreatDoorZ22
import Derived.Test.YtdaadlblknpipaaGreatDoorZ16
import Derived.Lib.OthersKept
import Derived.Test.YtdaadlblknpipaaGreatDoorZ9
set_option linter.unusedVariables false
set_option linter.unusedSimpArgs false
set_option maxRecDepth 100000
set_option maxHeartbeats 16000000
namespace Go.Proofs.YtdaadlblknpipaaGreatDoor
open Go.RowKit
attribute [local go_sem ↓] Go.wp_at_zero Go.wp_at_succ
theorem ahc (w:World)(k:Nat)(s:ByteArray)(pos:Nat):w.grownBy (w.iterAt k s pos) (some k):=
 ⟨rfl,rfl,rfl,by rw[Lib.iterAt_size];exact Nat.le_refl _,λi _ hne=>Lib.iterAt_other w k i s pos (λh=>hne (by rw[h]))⟩
theorem Tryz.ar0 :(Tryz.prog.info? 109).map (λi=>(i.zero,i.size,i.bytes))=some (some (.agg #[.slice none 0 0]),1,24):=by kernel_rfl
theorem akf (c:Int)(n:Nat)(hc:c=n)(h:n<=1048576)(w:World):
 (Instr.makeSlice 105 (.int .i64 c) (.int .i64 c)).run Tryz.prog w=.ok (.slice (some ⟨w.heap.size,0,none⟩) n n) (w.alloc (.cells (List.replicate n (.slice none 0 0)).toArray 109)):=by
 subst hc;obtain⟨i0,hi,hz0,hz1,hz2⟩:=info_parts Tryz.ar0;rw[run_make (P:=Tryz.prog) w 105 109 i0 _ Tryz.underlying105 hi hz0 .i64 .i64 n n zo zo (by rw[hz2];omega) zo];simp only[Int.toNat_natCast,hz1];congr 3;apply Array.ext';refine List.ext_getElem (by simp[madeCells]) (λi h1 h2=>?_);simp[madeCells];rw[show i% (Value.agg #[Value.slice none 0 0]).cells.size=0 from Nat.mod_one i];rfl
def iP (X:Nat->Dyadic)(c:Dyadic)(l:List UInt8):Nat->Dyadic
 |0=>c
 |k+1=>iP X c l k*ia (X k) (l.getD k 0).toNat
def zT :aK:=([],false,[],0)
def qT (X:Nat->Dyadic)(n:Nat)(ts:List aK):Nat->Dyadic
 |0=>0
 |k+1=>qT X n ts k+iP X (aC (ts.getD k zT).2) (ts.getD k zT).1 n
theorem aki {X:Nat->Dyadic}{c:Dyadic}{l:List UInt8}{B C:Nat}(hc:Sm C c)(hl:∀x∈l,x.toNat<=127)(k:Nat)(hX:∀j,j<k->Sm B (X j)):Sm (C+k* (127*B+1)) (iP X c l k):=by
 induction k with
 |zero=>exact hc.mono zo
 | succ k ih=>
   have h1:=ih (λj hj=>hX j zo);have h2:(l.getD k 0).toNat<=127:=by
    rw[List.getD_eq_getElem?_getD];by_cases hk:k<l.length
    . rw[List.getElem?_eq_getElem hk];exact hl _ (List.getElem_mem hk)
    . rw[List.getElem?_eq_none zo];decide
   have h3:=Oo (hX k zo) (l.getD k 0).toNat;have h4:B* (l.getD k 0).toNat<=B*127:=Nat.mul_le_mul_left _ h2;refine(Sm.mul h1 h3).mono ?_;rw[Nat.add_mul,Nat.one_mul];omega
theorem agA {X:Nat->Dyadic}{n:Nat}{ts:List aK}{D:Nat}(h:∀k,k<ts.length->Sm D (iP X (aC (ts.getD k zT).2) (ts.getD k zT).1 n))(k:Nat)(hk:k<=ts.length):Sm (D+k) (qT X n ts k):=by
 induction k with
 |zero=>exact Sm.zero _
 |succ k ih=>exact Sm.add (ih zo) ((h k zo).mono (Nat.le_add_right _ _))
theorem gy.new {W:World}{kb n:Nat}(X:Nat->Dyadic)(Z:Nat->Prop)(h:ai W kb 109 (List.replicate n (.slice none 0 0))):gy W kb n X Z:=
 ⟨_,λ_=>0,List.length_replicate,h,λi hi=>⟨Nat.zero_le _,by rw[List.getElem_replicate];exact World.ownsRow_nil _ _ _ _⟩,λi j hi _ g e=>(by rw[List.getElem_replicate]at e;cases e),λi hi g e=>(by rw[List.getElem_replicate]at e;cases e)⟩
theorem agE (V:Nat)(a:Option Addr)(cap N:Nat)(ts:List aK)(xa:Option Addr)(xc:Nat)(xs:List Raw)(B C:Nat)(w:World)(hN:ts.length=N)(hX:xs.length=V)(hf:jo V C ts)(ha:At w a (ts.flatMap aM))(hx:At w xa (xs.flatMap bA))(dc:∀x∈xs,Fit B x)(hB:B<=20000)(hC:C<=10000000)(hT:az w):
 Calls Tryz.prog 39 #[.agg #[.int .i64 (V:Int),.slice a N cap],.slice xa V xc] w λe w'=>e=.returned (.tuple #[bL (qT (gP xs) V ts N),.int .i64 0])/\Bw w w':=by
 obtain⟨⟨hg,hm,hl4,hV⟩,hfit⟩:=hf
 have hpc:=λW (hW:Bw w W)=>Oc (V:Int) a cap N ts W hN zo (ha.below hW) (λt ht=>⟨by
  have h:=hm t ht;unfold fH at h;simp only[Bool.and_eq_true,decide_eq_true_eq]at h
  omega,(hfit t ht).1⟩) (hT.below hW)
 rw[Od ⟨hg,hm,hl4,hV⟩]at hpc;have hby:∀t∈ts,t.1.length=V/\∀c∈t.1,c.toNat<=127:=λt ht=>by have h:=hm t ht;unfold fH at h;simp only[Bool.and_eq_true,decide_eq_true_eq,List.all_eq_true]at h;exact⟨by omega,h.1⟩
 have fT:∀j,j<V->Sm B (gP xs j):=λj hj=>Pz hX dc j hj;obtain⟨D,hD⟩:=aB (C+V* (127*B+1));have hD9:D<=60000000:=by have h1:V* (127*B+1)<=12* (127*20000+1):=Nat.mul_le_mul hV zo;omega
 have uQ:∀(k:Nat) (hk:k<ts.length) j,j<=V->Sm D (iP (gP xs) (aC ts[k].2) ts[k].1 j):=λk hk j hj=>by refine(aki (hfit _ (List.getElem_mem hk)).2 (hby _ (List.getElem_mem hk)).2 j (λi hi=>fT i zo)).mono ?_;have h1:j* (127*B+1)<=V* (127*B+1):=Nat.mul_le_mul_right _ hj;omega
 have hgd:∀(k:Nat) (hk:k<ts.length),ts.getD k zT=ts[k]:=λk hk=>by simp[List.getD_eq_getElem?_getD,hk]
 have hes:=λk (hk:k<=ts.length)=>agA (X:=gP xs) (n:=V) (ts:=ts) (λk hk=>by rw[hgd k hk];exact uQ k hk V (Nat.le_refl _)) k hk;have hst:∀(k:Nat) (hk:k<ts.length),qT (gP xs) V ts (k+1)=qT (gP xs) V ts k+iP (gP xs) (aC ts[k].2) ts[k].1 V:=λk hk=>by rw[qT,hgd k hk]
 have Np:∀j (hj:j<xs.length),aC xs[j]=gP xs j:=λj hj=>(Ee xs j hj).symm;have hgo:∀(k:Nat) (hk:k<ts.length),ts[k].2=canon (aC ts[k].2):=λk hk=>(hg.2 _ (List.getElem_mem hk)).2;have hmk:=akf (V:Int) V rfl zo;have hN4:N<=4096:=by omega
 obtain⟨X,uA⟩:=aB (gP xs);obtain⟨E,hE⟩:=aB (qT X V ts);have TS:E 0=0:=by rw[<-hE];rfl
 rw[uA]at uQ hst Np hes⊢;rw[hE]at hst hes⊢;obtain⟨HN,HX,yq,Ha,Hx,fI,dX,JX,nW,Hms,Hes,bX⟩:=gY hN hX hfit ha hx dc hT hpc hby uQ hes hst;obtain⟨Hxr,HE0,JG⟩:=cK Np TS hgo;clear hN hX hfit ha hx dc hT hpc hby uQ hes hst Np TS hgo hgd fT hD hE uA hm hg hl4;obtain⟨W,dF,Hb,Hp,Hr⟩:=rD w 57 [.int .i64 (V:Int),.slice a N cap] 30 [.bool false,.string ⟨#[]⟩,.int .i64 0];obtain⟨p0,p1⟩:=Hp.out.c2;obtain⟨r0,aj,r1,ak,r2,aF⟩:=Hr.out.g3;go_enter Tryz.func39,Tryz.ntmps39;go_wp2_with fail;refine(JX.out _ Hb.out).mono ?_;rintro e w1 ⟨rfl,ae⟩;clear p0 p1 r0 aj r1 ak r2 aF;replace Hp:=kB Hp ae;replace Hr:=kB Hr ae;obtain⟨p0,p1⟩:=Hp.out.c2;obtain⟨r0,aj,r1,ak,r2,aF⟩:=Hr.out.g3;replace Hb:=au Hb ae;clear ae;have P0:=p0;have P1:=p1;have szw:=Hb.out.size;have bI:=Hb;have Rl:=Hr;have HK:Hid (iy w1 w1):=Below.refl _ _;obtain⟨Wq,Mc⟩:=aB (w1.alloc (.cells (Array.replicate V (.slice none 0 0)) 109));have Hq:Hid (ai Wq w1.heap.size 109 (List.replicate V (.slice none 0 0))):=by have h:=ai.new w1 109 (List.replicate V (.slice none 0 0));rw[List.toArray_replicate,Mc]at h;exact h
 have Cv:Bw w1 Wq:=by rw[<-Mc];exact zl
 have qu:Wq.heap.size=w1.heap.size+1:=by rw[<-Mc];simp
 clear p0 p1 r0 aj r1 ak r2 aF;replace Hp:=kB Hp Cv;replace Hr:=kB Hr Cv;replace HK:=ah (HK.out.below Cv);obtain⟨p0,p1⟩:=Hp.out.c2;obtain⟨r0,aj,r1,ak,r2,aF⟩:=Hr.out.g3;replace Hb:=ah (aJ Hb.out Cv);have EN:=ah qu;clear Cv qu;have HL:Hid (iy Wq Wq):=Below.refl _ _;have ajP:=Hp.out.lt;have vq:=Hr.out.lt;obtain⟨W2,lM,ae,Hz⟩:=cL Wq 30 [.bool false,.string ⟨#[]⟩,.int .i64 0];clear p0 p1;replace Hp:=kB Hp ae;clear r0 aj r1 ak r2 aF;replace Hr:=kB Hr ae;replace HK:=ah (HK.out.below ae);replace HL:=ah (HL.out.below ae);obtain⟨p0,p1⟩:=Hp.out.c2;obtain⟨r0,aj,r1,ak,r2,aF⟩:=Hr.out.g3;obtain⟨z0,dD,z1,dm,z2,ey⟩:=Hz.out.g3;replace Hb:=au Hb ae;clear ae;replace Hq:=ah (Hq.out.below HL.out);have PS:Hid (Bw w1 W2):=HK.out;go_wp2_with fail;have jV:=Hb;have hkz:w1.heap.size≠Wq.heap.size:=by have:=EN.out;omega
 have hwk:w.heap.size<=w1.heap.size:=by omega
 clear Hb p0 p1 P0 P1 z0 z1 z2 dD dm ey r0 r1 r2 aj ak aF;have uk:=Hp;have Hr1:=Hr;go_loopw[32] (λx wr=>∃k:Nat,k<=N/\x=.int .i64 (k:Int)/\gy wr w1.heap.size V X (λb=>b=Wq.heap.size)/\ai wr Wq.heap.size 30 (bA (canon (E k)))/\Bw w1 wr) (λx _=>N-(intOf x).toNat);case atStart=>exact⟨0,Nat.zero_le _,rfl,gy.new X _ Hq.out,by rw[HE0.out];exact Hz.out,PS.out⟩
 case round=>
  clear Hq Hz PS;obtain⟨k,hk,rfl,hP,hz,pb⟩:=hrel;obtain⟨HP,aQ,fg⟩:=cK hP pb (aJ bI.out pb);clear hP pb;obtain⟨Ek,LA⟩:=aB (E k);rw[LA]at hz;have Hz:Hid (ai wr Wq.heap.size 30 [.bool (ar (dN Ek)),.string (bs (nt (dN Ek).natAbs)),.int .i64 (dE Ek)]):=hz;have PM:=ah LA;clear hz LA;have iG:=aQ.out.size;have hzl:=Hz.out.lt;by_cases hlt:k<N
  . have hk2:k<ts.length:=by rw[HN.out];exact hlt
    obtain⟨l,cf,hx⟩:∃l cf,ts[k]=(l,ar (dN cf),nt (dN cf).natAbs,dE cf):=⟨ts[k].1,aC ts[k].2,by rw[Prod.ext_iff];exact⟨rfl,JG.out k hk2⟩⟩;have hc0:aC ts[k].2=cf:=by rw[hx];exact bK cf
    obtain⟨b,o,hab,bY⟩:=(Ha.out.below fg.out).term k hk2 hx;have bB:=jg N cap k (k:Int) hab hlt rfl;have hby:=nW.out _ (List.getElem_mem hk2);have uQ:=λj (hj:j<=V)=>Hms.out k hk2 j hj;have hst:=bX.out k hk2;have hes:=Hes.out k zo;rw[hx]at hby;rw[hc0,hx]at uQ hst;rw[PM.out]at hes hst;have Ht:Hid (aY wr b (o+k*4) [.string (bs l),.bool (ar (dN cf)),.string (bs (nt (dN cf).natAbs)),.int .i64 (dE cf)]):=bY;obtain⟨Jo,QW,EO,aby⟩:=dH hby uQ hst hes;clear bY hby uQ hst hes hx hc0 hab;have Hb:Hid (Bw wr wr):=Below.refl _ _;obtain⟨t0,t1,t2,t3⟩:=Ht.out.w4;obtain⟨z0,dD,z1,dm,z2,ey⟩:=Hz.out.g3;have T0:=t0;have T1:=t1;have T2:=t2;have T3:=t3;have XW:=Hz.out.lt;obtain⟨W4,kj,ae,Hu⟩:=cL wr 107 [.string (bs l),.bool (ar (dN cf)),.string (bs (nt (dN cf).natAbs)),.int .i64 (dE cf)];clear t0 t1 t2 t3;replace Ht:=kW Ht ae;clear z0 dD z1 dm z2 ey;replace Hz:=kB Hz ae;obtain⟨t0,t1,t2,t3⟩:=Ht.out.w4;obtain⟨z0,dD,z1,dm,z2,ey⟩:=Hz.out.g3;obtain⟨u0,u1,u2,u3⟩:=Hu.out.c4;replace Hb:=au Hb ae;clear ae;have V0:=u0;have V1:=u1;have V2:=u2;have V3:=u3;have hs4:=Hb.out.size;have aq0:=Hz.out.lt;have aqM:=Hu.out.lt;obtain⟨W5,zh,ae,Hc⟩:=cL W4 30 [.bool (ar (dN cf)),.string (bs (nt (dN cf).natAbs)),.int .i64 (dE cf)];clear t0 t1 t2 t3;replace Ht:=kW Ht ae;clear z0 dD z1 dm z2 ey;replace Hz:=kB Hz ae;clear u0 u1 u2 u3;replace Hu:=kB Hu ae;obtain⟨t0,t1,t2,t3⟩:=Ht.out.w4;obtain⟨z0,dD,z1,dm,z2,ey⟩:=Hz.out.g3;obtain⟨u0,u1,u2,u3⟩:=Hu.out.c4;obtain⟨c0,yR,c1,yS,c2,yT⟩:=Hc.out.g3;replace Hb:=au Hb ae;clear ae;have hs5:=Hb.out.size;have hcl:=Hc.out.lt;have QL:Hid ((W5.iter (bs l) 0).heap[W5.heap.size]?=some (.stringIter (bs l) 0)):=World.iter_heap W5 (bs l) 0;have Cu:Bw W5 (W5.iter (bs l) 0):=zl
    have Qc:Hid (gy (W5.iter (bs l) 0) w1.heap.size V X (λb=>b=Wq.heap.size\/b=W4.heap.size\/b=W5.heap.size)):=((HP.out.re (Z':=λb=>b=Wq.heap.size\/b=W4.heap.size\/b=W5.heap.size) (λb h=>by
     rcases h with h|h|h
     . exact .inl h
     . right;omega
     . right;omega)).below (Hb.out.mono (Nat.le_refl _))).below Cu
    obtain⟨RU,EA⟩:=aL (Hz.out.below Cu) (Hc.out.below Cu);have EU:Hid (Bw w1 (W5.iter (bs l) 0)):=(aJ aQ.out Hb.out).trans (Cu.mono zo);clear Cu;obtain⟨fB,VE⟩:∃i,W5.heap.size=i:=⟨_,rfl⟩;obtain⟨cB,hcB⟩:∃i,W4.heap.size=i:=⟨_,rfl⟩;obtain⟨Z,hZ⟩:∃Z:Nat->Prop,(λb=>b=Wq.heap.size\/b=cB\/b=fB)=Z:=⟨_,rfl⟩;have hzz:Z Wq.heap.size:=by rw[<-hZ];exact .inl rfl
    have Xh:Z cB:=by rw[<-hZ];exact .inr (.inl rfl)
    have Xi:Z fB:=by rw[<-hZ];exact .inr (.inr rfl)
    have Xj:∀b,Z b->b=Wq.heap.size\/b=cB\/b=fB:=λb h=>by rw[<-hZ]at h;exact h
    have fp:w1.heap.size<cB:=by have:=aQ.out.size;omega
    have hcz:cB≠Wq.heap.size:=by omega
    have hik:w1.heap.size<fB:=by omega
    have hic:cB<fB:=by omega
    have hiz:Wq.heap.size<fB:=by omega
    obtain⟨HZo,RV,RR,RS⟩:=dH Xj hzz Xh Xi;have LO:=Qc.out;have mK:=EA.out;have Mu:=QL.out;rw[hcB,VE,hZ]at LO;rw[hcB]at mK;rw[VE]at Mu;obtain⟨vP,Qq,QM⟩:=cK LO mK Mu;clear Qc EA QL LO mK Mu hZ Xj hzz Xh Xi;go_wp2_with fail;clear T0 T1 T2 T3 V0 V1 V2 V3 u0 u1 u2 u3 z0 z1 z2 dD dm ey;obtain⟨wo,hwo⟩:∃wo,wo=wr:=⟨_,rfl⟩;subst hwo;go_loopw[] (λwr=>∃j:Nat,j<=V/\wr.heap[fB]?=some (.stringIter (bs l) j)/\gy wr w1.heap.size V X Z/\ai wr cB 30 (bA (canon (iP X cf l j)))/\ai wr Wq.heap.size 30 [.bool (ar (dN Ek)),.string (bs (nt (dN Ek).natAbs)),.int .i64 (dE Ek)]/\Bw w1 wr) (λwr=>V-wr.iterPos fB);case atStart=>exact⟨0,Nat.zero_le _,QM.out,vP.out,Qq.out,RU.out,EU.out⟩
    case round=>
     clear QM vP Qq RU EU Hc Hz Hb HP;obtain⟨j,hj,hit,hP,hc,hz,mS⟩:=hrel;have hsw:=mS.size;have hil:fB<wr.heap.size:=(Array.getElem?_eq_some_iff.1 hit).1;by_cases aW:j<V
     . have iK:j<l.length:=by rw[Jo.out.1];exact aW
       have hjb:j<(bs l).size:=by rw[lI];exact iK
       have Vb:l[j].toNat<=127:=Jo.out.2 _ (List.getElem_mem iK);have hg:((bs l)[j]'hjb).toNat=l[j].toNat:=by simp[bs,ByteArray.getElem_eq_getElem_data];rfl
       obtain⟨cc,hcc⟩:∃cc:Nat,l[j].toNat=cc:=⟨_,rfl⟩;rw[hcc]at Vb hg;have hgd:(l.getD j 0).toNat=cc:=by rw[<-hcc];simp[List.getD_eq_getElem?_getD,iK];rfl
       have xh:∀ty,(Instr.next (.pointer (some ⟨fB,0,none⟩)) true ty).run Tryz.prog wr=_:=λty=>Lib.run_next_ascii_at wr fB (bs l) j ty hit hjb (by rw[hg];omega);rw[hg]at xh;have sS:IntKind.i64.wrap (cc:Int)=(cc:Int):=by rw[IntKind.wrap_i64];omega
       have hgr:=ahc wr fB (bs l) (j+1);have hch:=Chg.arV (Y:=λb=>b=fB) hgr (λb e=>(Option.some.inj e).symm);have hk1:=Lib.iterAt_heap wr fB (bs l) j (j+1) hit;have za:=hP.chg hch zo (λb h _=>by subst h;exact RS.out);have hc1:=hch.blk hc zo;have hz1:=hch.blk hz zo;have hb1:=Lib.below_iterAt mS (by omega:w1.heap.size<=fB) (bs l) (j+1);have mO:wr.iterPos fB=j:=by simp[World.iterPos,hit]
       obtain⟨M,hM⟩:=aB (iP X cf l j);obtain⟨Q,hQ⟩:=aB (iP X cf l (j+1));obtain⟨P,Ge⟩:=aB (ia (X j) cc);have Ua:M*P=Q:=by rw[<-hQ,<-hM,<-Ge,<-hgd];rfl
       have wO:=QW.out j zo;rw[hM]at wO hc1;have Nn:j<xs.length:=by rw[HX.out];exact aW
       obtain⟨sx,mx,ex,iM⟩:=ki (xs[j]);have dc:=fI.out _ (List.getElem_mem Nn);have hxv:=Hxr.out j Nn;rw[iM]at dc hxv;have Ch:Sm (127*B+1) P:=by rw[<-Ge,<-hxv];exact(Oo dc.2 cc).mono (by have:=Nat.mul_le_mul_left B Vb;omega)
       have nJ:Fit 60000001 (ar (dN M),nt (dN M).natAbs,dE M):=(wO.mono zo).fit zd;have ir:Fit 60000001 (ar (dN P),nt (dN P).natAbs,dE P):=(Ch.mono zo).fit zd;have xd:=λb W9 (hbl:ai W9 b 30 [.bool (ar (dN M)),.string (bs (nt (dN M).natAbs)),.int .i64 (dE M),.bool (ar (dN P)),.string (bs (nt (dN P).natAbs)),.int .i64 (dE P)]) (pU:az W9)=>sF (ar (dN M)) (nt (dN M).natAbs) (dE M) (ar (dN P)) (nt (dN P).natAbs) (dE P) Q 60000001 (by show aC (canon M) *aC (canon P)=Q;rw[bK,bK];exact Ua) b 2 30 W9 nJ ir zd hbl pU;have ze:∀W,Bw w1 W->az W:=λW h=>dX.out.below (aJ bI.out h);have xo:=λW9 (hp:gy W9 w1.heap.size V X Z) (hz9:∀b,Z b->b<W9.heap.size/\b≠w1.heap.size) (gX:Bw w1 W9)=>alA w1.heap.size j V cc B X Z sx mx ex W9 aW zo hxv dc zo hp hz9 (λW h=>ze W (gX.trans h));rw[Ge]at xo;obtain⟨Be,acC,HTx,cW,cN,qG,vZ,HQ⟩:=lV xd xo ze za hz1 hk1 mO hQ;have vR:Hid (Bw w1 (wr.iterAt fB (bs l) (j+1))):=hb1;have Hc:Hid (ai (wr.iterAt fB (bs l) (j+1)) cB 30 [.bool (ar (dN M)),.string (bs (nt (dN M).natAbs)),.int .i64 (dE M)]):=hc1;have hsi:wr.heap.size=(wr.iterAt fB (bs l) (j+1)).heap.size:=(Lib.iterAt_size wr fB (bs l) (j+1)).symm;obtain⟨bx,ox,uB,x0,x1,x2⟩:=(Hx.out.below (aJ bI.out hb1)).num j Nn iM;have GZ:bx<w.heap.size:=(by subst uB;exact Hx.out.lt (by intro h0;have:=congrArg List.length h0;rw[iI bA 3 (λ_=>rfl)]at this;simp at this;omega));have aps:=lT V xc j (j:Int) uB aW rfl;have apt:=iN V xc j (j:Int) uB aW rfl;have ah0:=aiM V V j (j:Int) (rfl:(some ⟨w1.heap.size,0,none⟩:Option Addr)=_) aW rfl;rw[Nat.mul_one,Nat.zero_add]at ah0;have iT:Hid (aY (wr.iterAt fB (bs l) (j+1)) bx (ox+j*3) [.bool sx,.string (bs mx),.int .i64 ex]):=ib x0 x1 x2;clear xd xo ze za hz1 hk1 mO hQ hM Ge Ua wO Ch nJ ir hxv dc iM hgr hch hc1 hb1 hg hgd hcc hP hc hz mS hit uB x0 x1 x2;generalize wr.iterAt fB (bs l) (j+1)=W7 at xh qG vR cW cN Hc iT hsi;have Hb:Hid (Bw W7 W7):=Below.refl _ _;obtain⟨ci,mK⟩:∃ci:Int,(cc:Int)=ci:=⟨_,rfl⟩;have EA:=ah mK;rw[mK]at sS;simp only[mK]at xh;have MQ:=acC.out;simp only[mK]at MQ;have acD:=ah MQ;clear mK MQ;obtain⟨c0,yR,c1,yS,c2,yT⟩:=Hc.out.g3;obtain⟨gQ,gS,gT⟩:=iT.out.w3;go_wp2_with fail;have hzd:∀b,Z b->b<W7.heap.size/\b≠w1.heap.size:=λb h=>by rcases HZo.out b h with h|h|h<;>omega
       refine bC (λw'=>w'.cell? ⟨cB,0,none⟩=some (.bool (ar (dN M)))/\w'.cell? ⟨cB,1,none⟩=some (.string (bs (nt (dN M).natAbs)))/\w'.cell? ⟨cB,2,none⟩=some (.int .i64 (dE M))/\w'.cell? ⟨bx,ox+j*3,none⟩=some (.bool sx)/\w'.cell? ⟨bx,ox+j*3+1,none⟩=some (.string (bs mx))/\w'.cell? ⟨bx,ox+j*3+2,none⟩=some (.int .i64 ex)) (λi=>Nat.blt i 13) [(0,true),(1,true),(2,true),(3,true),(4,true),(5,true),(6,true),(7,true),(8,true),(9,true),(10,false),(11,false),(12,false),(13,false)] zk zk rfl zk zc ⟨c0,c1,c2,gQ,gS,gT⟩ ?_;iterate 10 (refine pT rfl rfl ?_ (by intro w' ⟨q0,q1,q2,q3,q4,q5⟩;go_simp;try with_reducible rfl);try simp only[UU])
       refine aI rfl rfl (λK hK=>?_);go_simp;with_reducible refine(acD.out _ (cW.out.below (Below.refl _ _).drew) (λb h=>(by simpa using hzd b h:b<W7.drew.heap.size/\b≠w1.heap.size)) vR.out.drew).mono ?_
       rintro ex9 w8 ⟨rfl,uz,sH⟩;have td:=sH.size;have apN:W7.heap.size<=w8.heap.size:=td;have Cw:ai w8 cB 30 [.bool (ar (dN M)),.string (bs (nt (dN M).natAbs)),.int .i64 (dE M)]:=sH.blk (Hc.out.drew) (λh=>h.2 RR.out);have Xg:=sH.blk cN.out.drew (λh=>h.2 RV.out);have wU:=(sH.block fB (by show fB<W7.heap.size;omega) (λh=>h.2 RS.out)).trans qG.out;have fu:=vR.out.drew.trans (sH.below (by show w1.heap.size<=W7.heap.size;omega) (λb h=>h.1));have y0:=sH.cell (A:=W7.drew) gQ (λh=>absurd h.1 zp);have y1:=sH.cell (A:=W7.drew) gS (λh=>absurd h.1 zp);have y2:=sH.cell (A:=W7.drew) gT (λh=>absurd h.1 zp);clear c0 c1 c2 yR yS yT gQ gS gT;obtain⟨c0,yR,c1,yS,c2,yT⟩:=Cw.g3;obtain⟨Eo,Qr,RQ,QO,fw⟩:=fO uz Cw Xg wU fu;clear uz Cw Xg wU fu sH Hc iT cN cW vR qG td;refine hK _ _ (λ_=>⟨c0,c1,c2,y0,y1,y2⟩) ?_;clear hK K;try simp only[UU]
       refine aI rfl rfl (λK hK=>?_);go_simp;refine hK _ _ (λ_=>⟨aG c0,aG c1,aG c2,aG y0,aG y1,aG y2⟩) ?_;clear hK K;try simp only[UU]
       refine bF (λw9=>ai w9 w8.heap.size 30 [.bool (ar (dN M)),.string (bs (nt (dN M).natAbs)),.int .i64 (dE M),.bool (ar (dN P)),.string (bs (nt (dN P).natAbs)),.int .i64 (dE P)]/\Bw w8 w9) (by first|exact dL|exact dM) ?_;rintro w9 ⟨Vf,gX⟩;have y0':=cell_later gX y0;have y1':=cell_later gX y1;have y2':=cell_later gX y2;clear c0 c1 c2 yR yS yT y0 y1 y2;obtain⟨AR,Jm⟩:=aL Vf gX;clear Vf gX;refine aI rfl rfl (λK hK=>?_);go_simp;with_reducible refine(Be.out _ _ AR.out ((HTx.out _ fw.out).below Jm.out)).mono ?_
       rintro ex2 eW ⟨rfl,hq⟩;have ko:=aJ Jm.out hq;have Mm:=Qr.out.below ko;have z0':=cell_later hq y0';have z1':=cell_later hq y1';have z2':=cell_later hq y2';clear y0' y1' y2' hq;obtain⟨c0,yR,c1,yS,c2,yT⟩:=Mm.g3;have apQ:=ko.size;obtain⟨abh,aaJ,adw⟩:=cK Mm (Eo.out.below ko) (RQ.out.below ko);have abU:Hid (eW.heap[fB]?=some (.stringIter (bs l) (j+1))):=(ko.block fB zo).trans QO.out;have jq:Hid (Bw w1 eW):=fw.out.trans (ko.mono zo);clear Mm ko Eo Qr RQ QO fw AR Jm;refine hK _ _ (λ_=>⟨c0,c1,c2,z0',z1',z2'⟩) ?_;clear hK K;try simp only[UU]
       refine aI rfl rfl (λK hK=>?_);go_simp;refine hK _ _ (λh=>absurd h zd) ?_;clear hK K;try simp only[UU]
       clear c0 c1 c2 yR yS yT z0' z1' z2';have sQ:=λu1 u2 u3=>pG (Y:=λb=>b=cB) (pG (Y:=λb=>b=cB) (pG (Y:=λb=>b=cB) (Chg.refl _ eW) cB 0 u1 rfl) cB 1 u2 rfl) cB 2 u3 rfl;refine bF (λgN=>gN.heap[fB]?=some (.stringIter (bs l) (j+1))/\gy gN w1.heap.size V X Z/\ai gN cB 30 (bA (canon Q))/\ai gN Wq.heap.size 30 [.bool (ar (dN Ek)),.string (bs (nt (dN Ek).natAbs)),.int .i64 (dE Ek)]/\Bw w1 gN)
        ⟨((sQ _ _ _).block fB zo zo).trans abU.out,aaJ.out.chg (sQ _ _ _) zo (λb h _=>by subst h;exact RR.out),((abh.out.set 0 _).set 1 _).set 2 _,(sQ _ _ _).blk adw.out zo,jq.out.trans ((sQ _ _ _).below zo (λb h=>by omega))⟩ ?_
       rintro gN ⟨VK,Ug,Va,Xf,Ct⟩;obtain⟨QN,aaK,abj,adx,aba⟩:=fO VK Ug Va Xf Ct;clear VK Ug Va Xf Ct sQ;simp only[aS];go_wp2_with fail;go_roundw;case rel=>exact⟨j+1,by omega,QN.out,aaK.out,by rw[HQ.out];exact abj.out,adx.out,aba.out⟩
       case measure=>
        have aid:gN.iterPos fB=j+1:=by simp[World.iterPos,QN.out]
        rw[vZ.out,aid];omega
     . obtain rfl:j=V:=by omega
       have hll:=Jo.out.1;have xh:∀ty,(Instr.next (.pointer (some ⟨fB,0,none⟩)) true ty).run Tryz.prog wr=_:=λty=>Lib.run_next_end_at wr fB (bs l) j ty hit (by rw[lI];have h:l.length=j:=hll;omega);obtain⟨M,hM⟩:=aB (iP X cf l j);obtain⟨S,hS⟩:=aB (E (k+1));have hst:=EO.out;have wO:=QW.out j (Nat.le_refl _);rw[hM]at wO hc;have tq:Ek+M=S:=by rw[<-hS,hst,<-hM]
       have hes:=aby.out;have nJ:Fit 60005000 (ar (dN M),nt (dN M).natAbs,dE M):=(wO.mono zo).fit zd;have Vk:Fit 60005000 (ar (dN Ek),nt (dN Ek).natAbs,dE Ek):=(hes.mono (by have:=HN.out;omega)).fit zd;have hadd:=λb W9 (hbl:ai W9 b 30 [.bool (ar (dN Ek)),.string (bs (nt (dN Ek).natAbs)),.int .i64 (dE Ek),.bool (ar (dN M)),.string (bs (nt (dN M).natAbs)),.int .i64 (dE M)]) (pU:az W9)=>wH (ar (dN Ek)) (nt (dN Ek).natAbs) (dE Ek) (ar (dN M)) (nt (dN M).natAbs) (dE M) S 60005000 (by show aC (canon Ek)+aC (canon M)=S;rw[bK,bK];exact tq) b 2 30 W9 Vk nJ zd hbl pU;have ze:∀W,Bw w1 W->az W:=λW h=>dX.out.below (aJ bI.out h);obtain⟨aa7,lA,HS,HP0,ul⟩:=fO hadd (ze _ mS) hS (hP.re (Z':=λb=>b=Wq.heap.size) (λb h=>.inl (by subst h;exact RV.out))) mS;have Hc:Hid (ai wr cB 30 [.bool (ar (dN M)),.string (bs (nt (dN M).natAbs)),.int .i64 (dE M)]):=hc;have Hz:Hid (ai wr Wq.heap.size 30 [.bool (ar (dN Ek)),.string (bs (nt (dN Ek).natAbs)),.int .i64 (dE Ek)]):=hz;have GU:=Hz.out.lt;clear hadd ze hS tq hes nJ Vk hst wO hM hll hP hc hz mS hit;have Hb:Hid (Bw wr wr):=Below.refl _ _;obtain⟨z0,dD,z1,dm,z2,ey⟩:=Hz.out.g3;obtain⟨c0,c1,c2⟩:=Hc.out.c3;have Z0:=z0;have Z1:=z1;have Z2:=z2;have D0:=c0;have D1:=c1;have D2:=c2;have XW:=Hz.out.lt;have XP:=Hc.out.lt;obtain⟨W4,kj,ae,Hd⟩:=cL wr 30 [.bool (ar (dN Ek)),.string (bs (nt (dN Ek).natAbs)),.int .i64 (dE Ek),.bool (ar (dN M)),.string (bs (nt (dN M).natAbs)),.int .i64 (dE M)];clear z0 dD z1 dm z2 ey;replace Hz:=kB Hz ae;clear c0 c1 c2;replace Hc:=kB Hc ae;obtain⟨z0,dD,z1,dm,z2,ey⟩:=Hz.out.g3;obtain⟨c0,c1,c2⟩:=Hc.out.c3;obtain⟨d0,d1,d2,d3,d4,d5⟩:=Hd.out.c6;replace Hb:=au Hb ae;clear ae;go_wp2_with fail;refine(aa7.out _ _ Hd.out (lA.out.below Hb.out)).mono ?_;rintro e w7 ⟨rfl,ae⟩;clear z0 dD z1 dm z2 ey c0 c1 c2 d0 d1 d2 d3 d4 d5;replace Hz:=kB Hz ae;replace Hc:=kB Hc ae;replace Hd:=kB Hd ae;obtain⟨z0,dD,z1,dm,z2,ey⟩:=Hz.out.g3;obtain⟨c0,c1,c2⟩:=Hc.out.c3;obtain⟨d0,d1,d2,d3,d4,d5⟩:=Hd.out.c6;replace Hb:=au Hb ae;clear ae;have WA:=Hb.out.size;have aiy:=EN.out;have IX:=ah (HP0.out.below Hb.out);have rS:Hid (Bw w1 w7):=ul.out.trans (Hb.out.mono zo);have sQ:=λu1 u2 u3=>pG (Y:=λb=>b=Wq.heap.size) (pG (Y:=λb=>b=Wq.heap.size) (pG (Y:=λb=>b=Wq.heap.size) (Chg.refl _ w7) Wq.heap.size 0 u1 rfl) Wq.heap.size 1 u2 rfl) Wq.heap.size 2 u3 rfl;have uz:=λu1 u2 u3=>IX.out.chg (sQ u1 u2 u3) hkz (λb h _=>h);have fu:=λu1 u2 u3=>rS.out.trans ((sQ u1 u2 u3).below zo (λb h=>by subst h;omega));obtain⟨Eo,fw⟩:=aL uz fu;clear sQ uz fu aiy;go_wp2;go_roundw;case rel=>exact⟨k+1,by omega,by go_num,Eo.out _ _ _,by rw[HS.out];exact((Hz.out.set 0 _).set 1 _).set 2 _,fw.out _ _ _⟩
       case measure=>simp[intOf];omega
  . obtain rfl:k=N:=by omega
    have Hr:Hid (ai wr (w.heap.size+1) 30 [.bool false,.string ⟨#[]⟩,.int .i64 0]):=Rl.out.below aQ.out;have Hb:=fg;have hrl:=Rl.out.lt;obtain⟨z0,z1,z2⟩:=Hz.out.c3;obtain⟨r0,aj,r1,ak,r2,aF⟩:=Hr.out.g3;go_wp2;clear z0 z1 z2 r0 aj r1 ak r2 aF;refine fR (bG wr (w.heap.size+1) 0 [.bool (ar (dN Ek)),.string (bs (nt (dN Ek).natAbs)),.int .i64 (dE Ek)]) bP ?_;intro w9 hs;replace Hz:=kS Hz hs zo;replace Hr:=cp Hr hs;obtain⟨z0,z1,z2⟩:=Hz.out.c3;obtain⟨r0,aj,r1,ak,r2,aF⟩:=Hr.out.g3;replace Hb:=bS Hb hs ZS;clear hs;refine bodyPost_ret (v:=.tuple #[bL Ek,.int .i64 0]) (by simp[results,Tryz.results39,go_sem,r0,r1,r2]) rfl ⟨by rw[PM.out],Hb.out⟩
end Go.Proofs.YtdaadlblknpipaaGreatDoor
namespace Go.Proofs.YtdaadlblknpipaaGreatDoor
def fE (f:List UInt8->Dyadic):List aK->Dyadic
 |[]=>0
 |x::l=>aC x.2*f x.1+fE f l
theorem Lh (f:List UInt8->Dyadic)(a b:List aK):fE f (a++b)=fE f a+fE f b:=by
 induction a with
 |nil=>simp[fE]
 |cons x a ih=>simp only[List.cons_append,fE,ih];grind
theorem agC (f:List UInt8->Dyadic)(a b:List aK):fE f (fV a b)=fE f a+fE f b:=by
 obtain⟨n,hn⟩:=aB (a.length+b.length);induction n using Nat.strongRecOn generalizing a b with
 | _ n ih=>
   cases a with
   |nil=>rw[xI];simp[fE]
   | cons x a=>cases b with
     |nil=>rw[xJ];simp[fE]
     | cons y b=>
       rw[tL];simp only[List.length_cons]at hn;split
       . have:=ih _ (by simp only[List.length_cons];omega) a (y::b) rfl;simp only[fE]at this⊢;rw[this];grind
       . split
         . have:=ih _ (by simp only[List.length_cons];omega) (x::a) b rfl;simp only[fE]at this⊢;rw[this];grind
         . rename_i h1 h2
           have:=ih _ zo a b rfl;have e:x.1=y.1:=yG (by simpa using h1) (by simpa using h2);simp only[fE,Ix,bK]at this⊢;rw[this,e];grind
theorem agD (f:List UInt8->Dyadic)(l:List aK):fE f (fY l)=fE f l:=
 DR (Q:=λl r=>fE f r=fE f l) (λ_ _=>rfl) (λa b c d h1 h2=>by rw[agC,Lh,h1,h2]) l
theorem agB (f:List UInt8->Dyadic)(l:List aK):fE f (bH l)=fE f l:=by
 have h1:∀l,fE f (l.map λx=>(x.1,canon (aC x.2)))=fE f l:=λl=>by
  induction l with
  |nil=>rfl
  |cons x l ih=>simp only[List.map_cons,fE,ih,bK]
 have h2:∀l,fE f (l.filter fX)=fE f l:=λl=>by
  induction l with
  |nil=>rfl
  | cons x l ih=>
    rw[List.filter_cons];split
    . simp only[fE,ih]
    . rename_i h
      have h0:aC x.2=0:=Classical.byContradiction λhc=>h (by unfold fX;rw[(ux _).2 hc];rfl);simp only[fE,ih,h0];grind
 unfold bH;rw[h1,h2,agD]
def NK (X:Nat->Dyadic)(n:Nat)(l:List UInt8):Dyadic:=iP X 1 l n
theorem akh (X:Nat->Dyadic)(c:Dyadic)(l:List UInt8)(n:Nat):iP X c l n=c*iP X 1 l n:=by
 induction n with
 |zero=>show c=c*1;grind
 |succ n ih=>rw[iP,iP,ih];grind
theorem agz (X:Nat->Dyadic)(n:Nat)(ts:List aK)(k:Nat)(hk:k<=ts.length):qT X n ts k=fE (NK X n) (ts.take k):=by
 induction k with
 |zero=>rfl
 | succ k ih=>
   have hk':k<ts.length:=by omega
   have e:ts.getD k zT=ts[k]:=by simp[List.getD_eq_getElem?_getD,hk']
   rw[qT,ih zo,List.take_succ_eq_append_getElem hk',Lh,e,akh];simp only[fE,NK];grind
theorem akk (X:Nat->Dyadic)(n k:Nat):iP X 1 (mh n) k=1:=by
 induction k with
 |zero=>rfl
 | succ k ih=>
   have e:(mh n).getD k 0=0:=by unfold mh;rw[List.getD_eq_getElem?_getD,List.getElem?_replicate];split<;>rfl
   rw[iP,ih,e];show 1*ia (X k) 0=1;show(1:Dyadic) *1=1;grind
theorem akj (X:Nat->Dyadic)(n j k:Nat)(hk:k<=n)(hj:j<n):iP X 1 (cQ n j) k=if j<k then X j else 1:=by
 induction k with
 |zero=>rfl
 | succ k ih=>
   have e:((cQ n j).getD k 0).toNat=if k=j then 1 else 0:=by
    unfold cQ;rw[List.getD_eq_getElem?_getD,List.getElem?_set];by_cases h:j=k
    . subst h;rw[if_pos rfl,if_pos (by simpa using hj),if_pos rfl];rfl
    . rw[if_neg h,List.getElem?_replicate,if_pos zo,if_neg (λh2=>h h2.symm)];rfl
   rw[iP,ih zo,e];by_cases h:k=j
   . subst h;rw[if_neg zo,if_pos rfl,if_pos zo];show 1* (1*X k)=X k;grind
   . rw[if_neg h];by_cases h2:j<k
     . rw[if_pos h2,if_pos zo];show X j*1=X j;grind
     . rw[if_neg h2,if_neg zo];show(1:Dyadic) *1=1;grind
theorem Tq (X:Nat->Dyadic)(n:Nat)(c:Dyadic)(l:Nat->Dyadic)(k:Nat)(hk:k<=n):fE (NK X n) (eV n c l k)=c+cu (λb=>l b*X b) k:=by
 unfold eV;rw[agB];induction k with
 | zero=>
   show aC (canon c) *iP X 1 (mh n) n+0=c+cu _ 0
   rw[bK,akk];show c*1+0=c+0;grind
 | succ k ih=>
   rw[Ny,Lh,ih zo];show _+(aC (canon (l k)) *iP X 1 (cQ n k) n+0)=_
   rw[bK,akj X n k n (Nat.le_refl _) zo,if_pos zo];show c+cu _ k+(l k*X k+0)=c+(cu _ k+l k*X k)
   grind
theorem agY (n:Nat)(hn:1<=n)(bz:n<=4)(P:Nat->Nat->Dyadic)(X:Nat->Dyadic)(j:Nat)(hj:j<=n):qT X n (gA n P n j) (gA n P n j).length=gb n P X j:=by
 rw[agz X n _ _ (Nat.le_refl _),List.take_length];unfold gA;by_cases h:j=0
 . subst h;rw[if_pos rfl];unfold kK;rw[Tq X n _ _ n (Nat.le_refl _),<-anN n hn bz P X n (Nat.le_refl _),Pn n hn bz]
 . rw[if_neg h];unfold nQ;rw[Tq X n _ _ n (Nat.le_refl _)];have h1:=ZR n P X (j-1) n;have h2:=Au n hn bz P X (j-1) zo;rw[show j-1+1=j by omega]at h2;rw[<-h2,h1];rfl
end Go.Proofs.YtdaadlblknpipaaGreatDoor
