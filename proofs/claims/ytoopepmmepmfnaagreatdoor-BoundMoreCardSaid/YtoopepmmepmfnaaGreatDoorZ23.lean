/- Package bound: steep. -/
import Derived.Test.YtoopepmmepmfnaaGreatDoorZ16
import Derived.Test.YtoopepmmepmfnaaGreatDoorZ19
import Derived.Test.YtoopepmmepmfnaaGreatDoorZ22
set_option linter.unusedVariables false
set_option linter.unusedSimpArgs false
set_option maxRecDepth 100000
set_option maxHeartbeats 16000000
namespace Go.Proofs.YtoopepmmepmfnaaGreatDoor
open Go.RowKit
attribute [local go_sem ↓] Go.wp_at_zero Go.wp_at_succ
def om (p:List UInt8->Bool)(X:Dyadic)(ts:List aI):Nat->Dyadic
 |0=>X
 |k+1=>if p (ts.getD k ([],false,[],0)).1 then om p X ts k+ar (ts.getD k ([],false,[],0)).2*ar (ts.getD k ([],false,[],0)).2 else om p X ts k
def stA (p:List UInt8->Bool)(T:Nat->List aI):Nat->Dyadic
 |0=>0
 |j+1=>om p (stA p T j) (T j) (T j).length
theorem Qv {p:List UInt8->Bool}{B C:Nat}{X:Dyadic}{ts:List aI}(hX:Sm C X)(hB:2*B<=C)(h:∀t∈ts,Sm B (ar t.2))(k:Nat):Sm (C+k) (om p X ts k):=by
 have hg:∀k,Sm B (ar (ts.getD k ([],false,[],0)).2):=λk=>by
  by_cases hk:k<ts.length
  . have e:ts.getD k ([],false,[],0)=ts[k]:=by simp[hk]
    rw[e];exact h _ (List.getElem_mem hk)
  . have e:ts.getD k ([],false,[],0)=([],false,[],0):=by simp[List.getD_eq_getElem?_getD,List.getElem?_eq_none (by omega:ts.length<=k)]
    rw[e];exact Sm.zero _
 induction k with
 |zero=>exact hX
 | succ k ih=>
   unfold om;split
   . exact Sm.add ih ((Sm.mul (hg k) (hg k)).mono (show B+B<=C+k by omega))
   . exact ih.mono zo
theorem XS {p:List UInt8->Bool}{B N L:Nat}{T:Nat->List aI}(h:∀j,j<L->(∀t∈T j,Sm B (ar t.2))/\(T j).length<=N)(j:Nat)(hj:j<=L):Sm (2*B+j*N) (stA p T j):=by
 induction j with
 |zero=>exact Sm.zero _
 |succ j ih=>obtain⟨h1,h2⟩:=h j zo;have:=Qv (p:=p) (ih zo) zo h1 (T j).length;exact this.mono (by rw[Nat.add_mul];omega)
theorem akZ (p:List UInt8->Bool)(a:Option Addr)(L cap V B:Nat)(ps:List Pv)(T:Nat->List aI)(w:World)(hL:ps.length=L)(hl:L<=100)(hV:V<=12)(ha:At w a (ps.flatMap ji))(hP:gw w V B ps T)(hB:B<=1000000)(hp:∀j,j<L->∀t∈T j,(gU t.1=1↔p t.1=true))(hN:∀j,j<L->(T j).length<=100)(hT:au w):
 Calls Tryz.prog 57 #[.slice a L cap] w λe w'=>e=.returned (bQ (stA p T L))/\Bw w w':=by
 have hfit:∀j,j<L->(∀t∈T j,Sm B (ar t.2))/\(T j).length<=100:=λj hj=>by obtain⟨_,_,_,_,h⟩:=hP j zo;exact⟨λt ht=>(h.2 t ht).2,hN j hj⟩
 have hsm:=λj (hj:j<=L)=>XS (p:=p) hfit j hj;have ER:=λj (hj:j<L) k=>Qv (p:=p) (hsm j zo) zo (hfit j hj).1 k;have hst:∀j,stA p T (j+1)=om p (stA p T j) (T j) (T j).length:=λj=>rfl;have Mc:stA p T 0=0:=rfl;obtain⟨S,hS⟩:=az (stA p T);simp only[hS]at hsm ER hst Mc;rw[hS];have oP:∀X ts k,om p X ts (k+1)=if p (ts.getD k ([],false,[],0)).1 then om p X ts k+ar (ts.getD k ([],false,[],0)).2*ar (ts.getD k ([],false,[],0)).2 else om p X ts k:=λX ts k=>rfl
 have Lf:∀X ts,om p X ts 0=X:=λX ts=>rfl;obtain⟨Q,hQ⟩:=az (om p);simp only[hQ]at ER hst oP Lf;obtain⟨IZ,abA,bR,abC,za,ZH,Ha,HP,Hp,HT,HL,Zj⟩:=iR hsm ER hst Mc oP Lf ha hP hp hT hL hN;clear hsm ER hst Mc oP Lf ha hP hp hT hL hS hQ hfit hN;obtain⟨W,cL,Hb,Hr⟩:=gX w 39 [.bool false,.string ⟨#[]⟩,.int .i64 0];obtain⟨r0,ah,r1,ai,r2,aB⟩:=Hr.out.g3;go_enter Tryz.func57,Tryz.ntmps57;have nO:=Hr.out.lt;obtain⟨W2,kz,ae,Hs⟩:=bH W 39 [.bool false,.string ⟨#[]⟩,.int .i64 0];clear r0 ah r1 ai r2 aB;replace Hr:=kB Hr ae;obtain⟨r0,ah,r1,ai,r2,aB⟩:=Hr.out.g3;obtain⟨s0,aO,s1,aP,s2,aV⟩:=Hs.out.g3;replace Hb:=ak Hb ae;clear ae;go_wp2_with fail;clear r0 ah r1 ai r2 aB s0 aO s1 aP s2 aV;first|refine bB (bf W2 (W.heap.size) 0 [.bool false,.string ⟨#[]⟩,.int .i64 0]) bI ?_|refine bz (bf W2 (W.heap.size) 0 [.bool false,.string ⟨#[]⟩,.int .i64 0]) bI ?_
 intro W3 hs;replace Hr:=kS Hr hs zo;replace Hs:=cp Hs hs;obtain⟨r0,ah,r1,ai,r2,aB⟩:=Hr.out.g3;obtain⟨s0,aO,s1,aP,s2,aV⟩:=Hs.out.g3;replace Hb:=bS Hb hs ZS;clear hs;have lr:=Hr.out.lt;have ls:=Hs.out.lt;go_wp2_with fail;clear r0 r1 r2 ah ai aB s0 s1 s2 aO aP aV;have hws:w.heap.size<W.heap.size:=by omega
 go_loopw[11] (λx wr=>∃j:Nat,j<=L/\x=.int .i64 (j:Int)/\ag wr w.heap.size 39 [.bool false,.string ⟨#[]⟩,.int .i64 0]/\ag wr W.heap.size 39 (bJ (canon (S j)))/\Bw w wr) (λx _=>L-(intOf x).toNat);case atStart=>exact⟨0,Nat.zero_le _,rfl,Hr.out,by rw[abC.out];exact Hs.out,Hb.out⟩
 case round=>
  clear Hr Hs Hb;obtain⟨j,hj,rfl,pr,ps',pb⟩:=hrel;by_cases hlt:j<L
  . obtain⟨pa,pc,Vb,LS,hft⟩:=HP.out j (by rw[HL.out];exact hlt);obtain⟨b,o,hab,hwn⟩:=(Ha.out.below pb).aqH j (by rw[HL.out];exact hlt) Vb;have aX:=vX L cap j (j:Int) hab hlt rfl;obtain⟨ts,hts⟩:=az (T j);obtain⟨n,hn⟩:=az ts.length;obtain⟨Y,hY⟩:=az (S j);have Uy:=Zj.out j hlt;have hs1:=abA.out j hlt;have hnx:=bR.out j;have gV:=Hp.out j hlt;rw[hts]at LS hft Uy hnx gV;rw[hY]at hnx ps';simp only[hts,hY]at hs1;rw[hts,hn]at hwn;rw[hn]at Uy hnx;obtain⟨ej,Pp,Hs1,nY,Hpp,Hn,Hr,Hs,Hb⟩:=Fa LS.1 hft hs1 hnx gV hn pr ps' pb;have Hu:Hid (bg wr b (o+j*2) [.int .i64 (V:Int),.slice pa n pc]):=hwn;have hsz:=pb.size;have hsl:=ps'.lt;clear LS hft hs1 hnx gV hn pr ps' pb hwn hab Vb hts hY;obtain⟨u0,u1⟩:=Hu.out.w2;have Ku0:=u0;have Ku1:=u1;have Fj:=Hr.out.lt;have aih:=Hs.out.lt;obtain⟨W4,jP,ae,Hq⟩:=bH wr 91 [.int .i64 (V:Int),.slice pa n pc];replace Hr:=kB Hr ae;replace Hs:=kB Hs ae;clear u0 u1;replace Hu:=kW Hu ae;obtain⟨u0,u1⟩:=Hu.out.w2;obtain⟨q0,q1⟩:=Hq.out.c2;replace Hb:=ak Hb ae;clear ae;have Hj:=af hj;obtain⟨wo,hwo⟩:∃wo,wo=wr:=⟨_,rfl⟩;subst hwo;go_wp2_with fail;clear Ku0 Ku1 u0 u1 q0 q1 aX Hq Hu;go_loopw[18] (λx wr=>∃k:Nat,k<=n/\x=.int .i64 (k:Int)/\ag wr w.heap.size 39 [.bool false,.string ⟨#[]⟩,.int .i64 0]/\ag wr W.heap.size 39 (bJ (canon (Q Y ts k)))/\Bw w wr) (λx _=>n-(intOf x).toNat);case atStart=>exact⟨0,Nat.zero_le _,rfl,Hr.out,by rw[ZH.out];exact Hs.out,Hb.out⟩
    case round=>
     clear Hr Hs Hb;obtain⟨k,hk,rfl,pr,ps',pb⟩:=hrel;by_cases aZ:k<n
     . have jc:k<ts.length:=by rw[Hn.out];exact aZ
       obtain⟨l,s,m,e,hx⟩:∃l s m e,ts[k]=(l,s,m,e):=⟨_,_,_,_,rfl⟩;obtain⟨b2,o2,lA,hw2⟩:=(ej.out.below pb).term k jc hx;have lD:=qj n pc k (k:Int) lA aZ rfl;have hmem:(l,s,m,e)∈ts:=by rw[<-hx];exact List.getElem_mem jc
       have je:=Pp.out.1.2.1 _ hmem;have Ba:=Pp.out.2 _ hmem;have pX:=Hpp.out _ hmem;have oP:=za.out Y ts k;have kD:ts.getD k ([],false,[],0)=(l,s,m,e):=by rw[<-hx];simp[jc]
       rw[kD]at oP;dsimp only at je Ba pX oP;obtain⟨A,hA⟩:=az (Q Y ts k);obtain⟨Z,hZ⟩:=az (Q Y ts (k+1));obtain⟨P,hP⟩:=az (ar (s,m,e) *ar (s,m,e));have tK:=Hs1.out k;rw[hA]at ps' oP tK;rw[hZ,hP]at oP;have FA:Hid (Fit (2*B+20000) (aj (dN A),nt (dN A).natAbs,dE A)):=(tK.mono zo).fit zo;have xS:Sm (2*B+20000) P:=by rw[<-hP];exact(Sm.mul Ba.2 Ba.2).mono zo
       have FP:Hid (Fit (2*B+20000) (aj (dN P),nt (dN P).natAbs,dE P)):=xS.fit zo;unfold fP at je;rw[Bool.and_eq_true,List.all_eq_true]at je;have Lj:=λW=>aev l W (by have:=of_decide_eq_true je.2;omega) (λc hc=>of_decide_eq_true (je.1 c hc));obtain⟨g,hg⟩:=az (gU l);rw[hg]at pX;simp only[hg]at Lj;obtain⟨c,hc⟩:=az (p l);rw[hc]at pX oP;have hgt:((g:Int)==1)=c:=by
        cases c with
        |true=>have:=pX.2 rfl;subst this;rfl
        | false=>
          have:¬g=1:=λh=>by have:=pX.1 h;cases this
          simp;omega
       obtain⟨sZ,CC,OS,OT,Fe,ZZ,Hr,Hb⟩:=mB hw2 hP hZ oP Ba Lj pr pb;have Hs:Hid (ag wr W.heap.size 39 [.bool (aj (dN A)),.string (bs (nt (dN A).natAbs)),.int .i64 (dE A)]):=ps';have Hv:Hid (bg wr b2 (o2+k*4) [.string (bs l),.bool s,.string (bs m),.int .i64 e]):=hw2;have an7:=pb.size;have an6:=ps'.lt;clear hw2 lA hmem je Ba pX oP kD hA hZ hP tK xS hg hc hx pr ps' pb Lj sZ;obtain⟨s0,aO,s1,aP,s2,aV⟩:=Hs.out.g3;obtain⟨v0,v1,v2,v3⟩:=Hv.out.w4;have Kv0:=v0;have Kv1:=v1;have Kv2:=v2;have Kv3:=v3;have Fl:=Hr.out.lt;have apw:=Hs.out.lt;obtain⟨W5,Ek,ae,Hf⟩:=bH wr 93 [.string (bs l),.bool s,.string (bs m),.int .i64 e];replace Hr:=kB Hr ae;clear s0 aO s1 aP s2 aV;replace Hs:=kB Hs ae;clear v0 v1 v2 v3;replace Hv:=kW Hv ae;obtain⟨s0,aO,s1,aP,s2,aV⟩:=Hs.out.g3;obtain⟨v0,v1,v2,v3⟩:=Hv.out.w4;obtain⟨f0,f1,f2,f3⟩:=Hf.out.c4;replace Hb:=ak Hb ae;clear ae;go_wp2_with fail;refine(ZZ.out _).mono ?_;rintro e w6 ⟨rfl,ae⟩;clear s0 aO s1 aP s2 aV v0 v1 v2 v3 f0 f1 f2 f3;replace Hr:=kB Hr ae;replace Hs:=kB Hs ae;replace Hv:=kW Hv ae;replace Hf:=kB Hf ae;obtain⟨s0,aO,s1,aP,s2,aV⟩:=Hs.out.g3;obtain⟨v0,v1,v2,v3⟩:=Hv.out.w4;obtain⟨f0,f1,f2,f3⟩:=Hf.out.c4;replace Hb:=ak Hb ae;clear ae Kv0 Kv1 Kv2 Kv3 v0 v1 v2 v3 Hv lD;cases c with
       | true=>
         have HZ:Hid (ar (aj (dN A),nt (dN A).natAbs,dE A)+ar (aj (dN P),nt (dN P).natAbs,dE P)=Z):=by
          show ar (canon A)+ar (canon P)=Z
          rw[bC,bC,OT.out,if_pos rfl]
         go_wp2_with fail;refine cf (λw'=>w'.cell? ⟨W.heap.size,0,none⟩=some (.bool (aj (dN A)))/\w'.cell? ⟨W.heap.size,1,none⟩=some (.string (bs (nt (dN A).natAbs)))/\w'.cell? ⟨W.heap.size,2,none⟩=some (.int .i64 (dE A))/\w'.cell? ⟨wr.heap.size,0,none⟩=some (.string (bs l))/\w'.cell? ⟨wr.heap.size,1,none⟩=some (.bool s)/\w'.cell? ⟨wr.heap.size,2,none⟩=some (.string (bs m))/\w'.cell? ⟨wr.heap.size,3,none⟩=some (.int .i64 e)) (λi=>Nat.blt i 9) [(0,true),(1,true),(2,true),(3,true),(4,true),(5,false),(6,false),(7,false),(8,false),(9,false)] zk zk rfl zk zc ⟨s0,s1,s2,f0,f1,f2,f3⟩ ?_;iterate 5 (refine pT rfl rfl ?_ (by intro w' ⟨q0,q1,q2,q3,q4,q5,q6⟩;go_simp;try with_reducible rfl);try simp only[UU])
         refine aF rfl rfl (λK hK=>?_);go_simp;refine hK _ _ (λ_=>⟨aH s0,aH s1,aH s2,aH f0,aH f1,aH f2,aH f3⟩) ?_;clear hK K;try simp only[UU]
         refine cj (λW7=>ag W7 (w6.heap.size) 39 [.bool s,.string (bs m),.int .i64 e,.bool s,.string (bs m),.int .i64 e]/\Bw w6 W7) (by first|exact fy|exact fA) ?_;rintro W7 ⟨Xk,ae⟩;clear s0 aO s1 aP s2 aV f0 f1 f2 f3;have apr:=Hr.out.lt;have apy:=Hs.out.lt;have aoR:=Hf.out.lt;replace Hr:=kB Hr ae;replace Hs:=kB Hs ae;replace Hf:=kB Hf ae;have kr:=af Xk;clear Xk;obtain⟨s0,aO,s1,aP,s2,aV⟩:=Hs.out.g3;obtain⟨f0,f1,f2,f3⟩:=Hf.out.c4;obtain⟨g10,g11,g12,g13,g14,g15⟩:=kr.out.c6;replace Hb:=ak Hb ae;clear ae;refine aF rfl rfl (λK hK=>?_);go_simp;with_reducible refine(tG s m e s m e P B CC.out _ 2 39 _ Fe.out Fe.out zo kr.out (by first|exact(HT.out.below Hb.out) |exact au.drew (HT.out.below Hb.out) |exact au.alloc (HT.out.below Hb.out) _|exact au.drew (au.alloc (HT.out.below Hb.out) _) |exact au.alloc (au.drew (HT.out.below Hb.out)) _)).mono ?_
         rintro e w8 ⟨rfl,hq⟩;have ae:Bw W7 w8:=by first|exact hq|exact aK hq
         clear s0 aO s1 aP s2 aV f0 f1 f2 f3 g10 g11 g12 g13 g14 g15;replace Hr:=kB Hr ae;replace Hs:=kB Hs ae;replace Hf:=kB Hf ae;replace kr:=kB kr ae;obtain⟨s0,aO,s1,aP,s2,aV⟩:=Hs.out.g3;obtain⟨f0,f1,f2,f3⟩:=Hf.out.c4;obtain⟨g10,g11,g12,g13,g14,g15⟩:=kr.out.c6;replace Hb:=ak Hb ae;clear ae;refine hK _ _ (λ_=>⟨s0,s1,s2,f0,f1,f2,f3⟩) ?_;clear hK K;try simp only[UU]
         refine aF rfl rfl (λK hK=>?_);go_simp;refine hK _ _ (λ_=>⟨aH s0,aH s1,aH s2,aH f0,aH f1,aH f2,aH f3⟩) ?_;clear hK K;try simp only[UU]
         refine cj (λW9=>ag W9 (w8.heap.size) 39 [.bool (aj (dN A)),.string (bs (nt (dN A).natAbs)),.int .i64 (dE A),.bool (aj (dN P)),.string (bs (nt (dN P).natAbs)),.int .i64 (dE P)]/\Bw w8 W9) (by first|exact fy|exact fA) ?_;rintro W9 ⟨Xl,ae⟩;clear s0 aO s1 aP s2 aV f0 f1 f2 f3 g10 g11 g12 g13 g14 g15;have aif:=Hr.out.lt;have aii:=Hs.out.lt;have aoS:=Hf.out.lt;have aoT:=kr.out.lt;replace Hr:=kB Hr ae;replace Hs:=kB Hs ae;replace Hf:=kB Hf ae;replace kr:=kB kr ae;have pJ:=af Xl;clear Xl;obtain⟨s0,aO,s1,aP,s2,aV⟩:=Hs.out.g3;obtain⟨f0,f1,f2,f3⟩:=Hf.out.c4;obtain⟨g10,g11,g12,g13,g14,g15⟩:=kr.out.c6;obtain⟨g20,g21,g22,g23,DW,DX⟩:=pJ.out.c6;replace Hb:=ak Hb ae;clear ae;refine aF rfl rfl (λK hK=>?_);go_simp;with_reducible refine(vq _ _ _ _ _ _ Z (2*B+20000) HZ.out _ 2 39 _ FA.out FP.out zo pJ.out (by first|exact(HT.out.below Hb.out) |exact au.drew (HT.out.below Hb.out) |exact au.alloc (HT.out.below Hb.out) _|exact au.drew (au.alloc (HT.out.below Hb.out) _) |exact au.alloc (au.drew (HT.out.below Hb.out)) _)).mono ?_
         rintro e cV ⟨rfl,hq⟩;have ae:Bw W9 cV:=by first|exact hq|exact aK hq
         clear s0 aO s1 aP s2 aV f0 f1 f2 f3 g10 g11 g12 g13 g14 g15 g20 g21 g22 g23 DW DX;replace Hr:=kB Hr ae;replace Hs:=kB Hs ae;replace Hf:=kB Hf ae;replace kr:=kB kr ae;replace pJ:=kB pJ ae;obtain⟨s0,aO,s1,aP,s2,aV⟩:=Hs.out.g3;obtain⟨f0,f1,f2,f3⟩:=Hf.out.c4;obtain⟨g10,g11,g12,g13,g14,g15⟩:=kr.out.c6;obtain⟨g20,g21,g22,g23,DW,DX⟩:=pJ.out.c6;replace Hb:=ak Hb ae;clear ae;refine hK _ _ (λ_=>⟨s0,s1,s2,f0,f1,f2,f3⟩) ?_;clear hK K;try simp only[UU]
         refine aF rfl rfl (λK hK=>?_);go_simp;refine hK _ _ (λh=>absurd h zd) ?_;clear hK K;try simp only[UU]
         clear s0 aO s1 aP s2 aV f0 f1 f2 f3 g10 g11 g12 g13 g14 g15 g20 g21 g22 g23 DW DX;refine cj (bf cV (W.heap.size) 0 [.bool (aj (dN Z)),.string (bs (nt (dN Z).natAbs)),.int .i64 (dE Z)]) bI ?_;intro W11 hs;replace Hr:=kS Hr hs zo;replace Hs:=cp Hs hs;replace Hf:=kS Hf hs zo;replace kr:=kS kr hs zo;replace pJ:=kS pJ hs zo;obtain⟨s0,aO,s1,aP,s2,aV⟩:=Hs.out.g3;obtain⟨f0,f1,f2,f3⟩:=Hf.out.c4;obtain⟨g10,g11,g12,g13,g14,g15⟩:=kr.out.c6;obtain⟨g20,g21,g22,g23,DW,DX⟩:=pJ.out.c6;replace Hb:=bS Hb hs ZS;clear hs;simp only[aN];go_wp2;go_roundw;case rel=>exact⟨k+1,by omega,by go_num,Hr.out,by rw[OS.out];exact Hs.out,Hb.out⟩
         case measure=>simp[intOf];omega
       | false=>
         have HZ:Hid (Z=A):=by show _=_;rw[OT.out];rfl
         clear s0 s1 s2 aO aP aV f0 f1 f2 f3;go_wp2;go_roundw;case rel=>exact⟨k+1,by omega,by go_num,Hr.out,by rw[OS.out,HZ.out];exact Hs.out,Hb.out⟩
         case measure=>simp[intOf];omega
     . obtain rfl:k=n:=by omega
       obtain⟨Hr,Hs,Hb⟩:=cP pr ps' pb;clear pr ps' pb;go_wp2;go_roundw;case rel=>exact⟨j+1,by omega,by go_num,Hr.out,by rw[nY.out];exact Hs.out,Hb.out⟩
       case measure=>simp[intOf];omega
  . obtain rfl:j=L:=by omega
    obtain⟨Y,hY⟩:=az (S j);obtain⟨HY,Hr,Hb⟩:=cP hY pr pb;have Hs:Hid (ag wr W.heap.size 39 [.bool (aj (dN Y)),.string (bs (nt (dN Y).natAbs)),.int .i64 (dE Y)]):=by rw[<-hY];exact ps'
    clear pr ps' pb hY;obtain⟨r0,ah,r1,ai,r2,aB⟩:=Hr.out.g3;obtain⟨s0,s1,s2⟩:=Hs.out.c3;go_wp2;clear r0 ah r1 ai r2 aB s0 s1 s2;refine eK (bf wr (w.heap.size) 0 [.bool (aj (dN Y)),.string (bs (nt (dN Y).natAbs)),.int .i64 (dE Y)]) bI ?_;intro w9 hs;replace Hr:=cp Hr hs;replace Hs:=kS Hs hs zo;obtain⟨r0,ah,r1,ai,r2,aB⟩:=Hr.out.g3;obtain⟨s0,s1,s2⟩:=Hs.out.c3;replace Hb:=bS Hb hs ZS;clear hs;refine bodyPost_ret (v:=bQ Y) (by simp[results,Tryz.results57,go_sem,r0,r1,r2]) rfl ⟨by rw[HY.out],Hb.out⟩
def nS (k:Nat):Dyadic:=Dyadic.ofIntWithPrec (2^k) 0
theorem XD (D:Dyadic)(k:Nat):ar (aj (dN D),nt (dN D).natAbs,dE D+(k:Int))=D*nS k:=by
 have h:=bC D;unfold ar canon at h;unfold ar nS;simp only[dI]at h⊢;conv=>rhs;rw[<-h]
 rw[qN,<-mG (dN D) k (-(dE D+k))];congr 1;omega
theorem NM (k:Nat):Sm (k+1) (nS k):=by
 refine⟨2^k*2^(k+1),?_,?_⟩
 . unfold nS;have:=mG (2^k) (k+1) 0;rw[<-this];congr 1;omega
 . rw[Int.natAbs_mul,Int.natAbs_pow,Int.natAbs_pow,<-Nat.pow_add];exact Nat.pow_lt_pow_right zd zo
theorem Yf :Sm 2 (Dyadic.ofIntWithPrec 3 0):=by refine⟨12,?_,by decide⟩;have:=mG 3 2 0;rw[<-this];rfl
def sA (X:Dyadic):Nat->Dyadic
 |0=>X
 |k+1=>sA X k*Dyadic.ofIntWithPrec 3 0
def sJ (Y:Dyadic):Nat->Dyadic
 |0=>Y
 |k+1=>sJ Y k*nS 2
theorem VX {B:Nat}{X:Dyadic}(h:Sm B X)(k:Nat):Sm (B+2*k) (sA X k):=by
 induction k with
 |zero=>exact h
 |succ k ih=>exact(Sm.mul ih Yf).mono zo
theorem Xr {B:Nat}{X:Dyadic}(h:Sm B X)(k:Nat):Sm (B+3*k) (sJ X k):=by
 induction k with
 |zero=>exact h
 |succ k ih=>exact(Sm.mul ih (NM 2)).mono zo
def Ck (X Y:Dyadic)(k:Nat):Bool:=decide (aL (sA X k-sJ Y k)<0)
def rD (w:World)(lb rb:Nat)(X Y:Dyadic)(k:Nat):Prop:=ag w lb 39 (bJ (canon (sA X k)))/\ag w rb 39 (bJ (canon (sJ Y k)))/\lb≠rb
theorem rD.below {w w':World}{lb rb k:Nat}{X Y:Dyadic}(h:rD w lb rb X Y k)(hb:Bw w w'):rD w' lb rb X Y k:=⟨h.1.below hb,h.2.1.below hb,h.2.2⟩
theorem akr (lb rb B k:Nat)(X Y:Dyadic)(w:World)(hX:Sm B X)(hY:Sm B Y)(hB:B<=1000000)(hk:k<=2000)(hT:au w)(hJ:rD w lb rb X Y k):
 Calls Tryz.prog 58 #[.pointer (some ⟨lb,0,none⟩),.pointer (some ⟨rb,0,none⟩)] w λe w'=>e=.returned (.bool (Ck X Y k))/\Bw w w':=by
 obtain⟨h1,h2,_⟩:=hJ;have hx:=VX hX k;have hy:=Xr hY k;unfold Ck;obtain⟨L,hL⟩:=az (sA X k);obtain⟨R,hR⟩:=az (sJ Y k);rw[hL]at h1 hx⊢;rw[hR]at h2 hy⊢;obtain⟨c,hc⟩:=az (aL (L-R));rw[hc];have Hc:Hid (aL (ar (aj (dN L),nt (dN L).natAbs,dE L)-ar (aj (dN R),nt (dN R).natAbs,dE R))=c):=by show aL (ar (canon L)-ar (canon R))=c;rw[bC,bC];exact hc
 have FL:Hid (Ok (aj (dN L),nt (dN L).natAbs,dE L)):=(hx.fit zo).1;have FR:Hid (Ok (aj (dN R),nt (dN R).natAbs,dE R)):=(hy.fit zo).1;have Hl:Hid (ag w lb 39 [.bool (aj (dN L)),.string (bs (nt (dN L).natAbs)),.int .i64 (dE L)]):=h1;have Hr:Hid (ag w rb 39 [.bool (aj (dN R)),.string (bs (nt (dN R).natAbs)),.int .i64 (dE R)]):=h2;have HT:=af hT;clear h1 h2 hx hy hc hL hR hT hX hY;have Hb:Hid (Bw w w):=Below.refl _ _;go_enter Tryz.func58,Tryz.ntmps58;obtain⟨l0,l1,l2⟩:=Hl.out.c3;obtain⟨r0,r1,r2⟩:=Hr.out.c3;go_wp2_with fail;refine(oC _ _ _ _ _ _ c Hc.out _ FL.out FR.out (HT.out.below Hb.out)).mono ?_;rintro e w1 ⟨rfl,ae⟩;clear l0 l1 l2 r0 r1 r2;replace Hl:=kB Hl ae;replace Hr:=kB Hr ae;obtain⟨l0,l1,l2⟩:=Hl.out.c3;obtain⟨r0,r1,r2⟩:=Hr.out.c3;replace Hb:=ak Hb ae;clear ae;go_wp2;refine bodyPost_ret (results_tmp rfl _ _ _) rfl ⟨rfl,Hb.out⟩
theorem akw (lb rb B k:Nat)(X Y:Dyadic)(v0 w:World)(hv:Bw v0 w)(hX:Sm B X)(hY:Sm B Y)(hB:B<=1000000)(hk:k<=2000)(hT:au v0)(hl:v0.heap.size<=lb)(hr:v0.heap.size<=rb)(hJ:rD w lb rb X Y k):
 Calls Tryz.prog 59 #[.pointer (some ⟨lb,0,none⟩),.pointer (some ⟨rb,0,none⟩)] w λe w'=>e=.returned (.tuple #[])/\rD w' lb rb X Y (k+1)/\Bw v0 w':=by
 obtain⟨h1,h2,hne⟩:=hJ;have hx:=VX hX k;have hy:=Xr hY k;have hx2:sA X (k+1)=sA X k*Dyadic.ofIntWithPrec 3 0:=rfl;have hy2:sJ Y (k+1)=sJ Y k*nS 2:=rfl;unfold rD;obtain⟨L,hL⟩:=az (sA X k);obtain⟨R,hR⟩:=az (sJ Y k);obtain⟨L2,hL2⟩:∃L,sA X (k+1)=L:=⟨_,rfl⟩;obtain⟨R2,AK⟩:∃R,sJ Y (k+1)=R:=⟨_,rfl⟩;rw[hL]at h1 hx hx2;rw[hR]at h2 hy hy2;rw[hL2]at hx2⊢;rw[AK]at hy2⊢;obtain⟨E,hE⟩:=az (Dyadic.ofIntWithPrec 3 0);have Sq:Sm 2 E:=by rw[<-hE];exact Yf
 rw[hE]at hx2;have HE:=af hE;have HL:Hid (ar (aj (dN L),nt (dN L).natAbs,dE L) *ar (aj (dN E),nt (dN E).natAbs,dE E)=L2):=by show ar (canon L) *ar (canon E)=L2;rw[bC,bC];exact hx2.symm
 have HR:Hid (ar (aj (dN R),nt (dN R).natAbs,dE R+2)=R2):=by rw[hy2];exact XD R 2
 have FL:Hid (Fit (B+6000) (aj (dN L),nt (dN L).natAbs,dE L)):=(hx.mono zo).fit zo;have FE:Hid (Fit (B+6000) (aj (dN E),nt (dN E).natAbs,dE E)):=(Sq.mono zo).fit zo;have FR:Hid (Ok (aj (dN R),nt (dN R).natAbs,dE R)):=(hy.fit zo).1;have Hl:Hid (ag w lb 39 [.bool (aj (dN L)),.string (bs (nt (dN L).natAbs)),.int .i64 (dE L)]):=h1;have Hr:Hid (ag w rb 39 [.bool (aj (dN R)),.string (bs (nt (dN R).natAbs)),.int .i64 (dE R)]):=h2;have HT:=af hT;have ll:=h1.lt;have lr:=h2.lt;clear h1 h2 hx hy hx2 hy2 hL hR hL2 AK hT hX hY hE Sq;have Hb:Hid (Bw v0 w):=hv;clear hv;go_enter Tryz.func59,Tryz.ntmps59;obtain⟨l0,gp,l1,gq,l2,nk⟩:=Hl.out.g3;obtain⟨r0,ah,r1,ai,r2,aB⟩:=Hr.out.g3;go_wp2_with fail;refine cf (λw'=>w'.cell? ⟨lb,0,none⟩=some (.bool (aj (dN L)))/\w'.cell? ⟨lb,1,none⟩=some (.string (bs (nt (dN L).natAbs)))/\w'.cell? ⟨lb,2,none⟩=some (.int .i64 (dE L))/\w'.cell? ⟨rb,0,none⟩=some (.bool (aj (dN R)))/\w'.cell? ⟨rb,1,none⟩=some (.string (bs (nt (dN R).natAbs)))/\w'.cell? ⟨rb,2,none⟩=some (.int .i64 (dE R))) (λi=>Nat.blt i 6) [(0,true),(4,true),(1,false),(2,false),(3,false),(5,false),(6,false),(7,false)] zk zk rfl zk zc ⟨l0,l1,l2,r0,r1,r2⟩ ?_;iterate 2 (refine pT rfl rfl ?_ (by intro w' ⟨q0,q1,q2,q3,q4,q5⟩;go_simp;try with_reducible rfl);try simp only[UU])
 refine aF rfl rfl (λK hK=>?_);go_simp;with_reducible refine(rI 3 E HE.out _ zd (by first|exact(HT.out.below Hb.out) |exact au.drew (HT.out.below Hb.out) |exact au.alloc (HT.out.below Hb.out) _|exact au.drew (au.alloc (HT.out.below Hb.out) _) |exact au.alloc (au.drew (HT.out.below Hb.out)) _)).mono ?_
 rintro e w1 ⟨rfl,hq⟩;have ae:Bw w w1:=by first|exact hq|exact aK hq
 clear l0 gp l1 gq l2 nk r0 ah r1 ai r2 aB;replace Hl:=kB Hl ae;replace Hr:=kB Hr ae;obtain⟨l0,gp,l1,gq,l2,nk⟩:=Hl.out.g3;obtain⟨r0,ah,r1,ai,r2,aB⟩:=Hr.out.g3;replace Hb:=ak Hb ae;clear ae;refine hK _ _ (λ_=>⟨l0,l1,l2,r0,r1,r2⟩) ?_;clear hK K;try simp only[UU]
 refine aF rfl rfl (λK hK=>?_);go_simp;refine hK _ _ (λ_=>⟨aH l0,aH l1,aH l2,aH r0,aH r1,aH r2⟩) ?_;clear hK K;try simp only[UU]
 refine cj (λW2=>ag W2 (w1.heap.size) 39 [.bool (aj (dN L)),.string (bs (nt (dN L).natAbs)),.int .i64 (dE L),.bool (aj (dN E)),.string (bs (nt (dN E).natAbs)),.int .i64 (dE E)]/\Bw w1 W2) (by first|exact fy|exact fA) ?_;rintro W2 ⟨qu,ae⟩;clear l0 gp l1 gq l2 nk r0 ah r1 ai r2 aB;have aoZ:=Hl.out.lt;have nO:=Hr.out.lt;replace Hl:=kB Hl ae;replace Hr:=kB Hr ae;have Hu:=af qu;clear qu;obtain⟨l0,gp,l1,gq,l2,nk⟩:=Hl.out.g3;obtain⟨r0,ah,r1,ai,r2,aB⟩:=Hr.out.g3;obtain⟨u0,u1,u2,u3,u4,u5⟩:=Hu.out.c6;replace Hb:=ak Hb ae;clear ae;refine aF rfl rfl (λK hK=>?_);go_simp;with_reducible refine(tG _ _ _ _ _ _ L2 (B+6000) HL.out w1.heap.size 2 39 _ FL.out FE.out zo Hu.out (by first|exact(HT.out.below Hb.out) |exact au.drew (HT.out.below Hb.out) |exact au.alloc (HT.out.below Hb.out) _|exact au.drew (au.alloc (HT.out.below Hb.out) _) |exact au.alloc (au.drew (HT.out.below Hb.out)) _)).mono ?_
 rintro e w3 ⟨rfl,hq⟩;have ae:Bw W2 w3:=by first|exact hq|exact aK hq
 clear l0 gp l1 gq l2 nk r0 ah r1 ai r2 aB u0 u1 u2 u3 u4 u5;replace Hl:=kB Hl ae;replace Hr:=kB Hr ae;replace Hu:=kB Hu ae;obtain⟨l0,gp,l1,gq,l2,nk⟩:=Hl.out.g3;obtain⟨r0,ah,r1,ai,r2,aB⟩:=Hr.out.g3;obtain⟨u0,u1,u2,u3,u4,u5⟩:=Hu.out.c6;replace Hb:=ak Hb ae;clear ae;refine hK _ _ (λ_=>⟨l0,l1,l2,r0,r1,r2⟩) ?_;clear hK K;try simp only[UU]
 refine aF rfl rfl (λK hK=>?_);go_simp;with_reducible refine(yF _ _ _ 2 R2 HR.out _ FR.out zd (by first|exact(HT.out.below Hb.out) |exact au.drew (HT.out.below Hb.out) |exact au.alloc (HT.out.below Hb.out) _|exact au.drew (au.alloc (HT.out.below Hb.out) _) |exact au.alloc (au.drew (HT.out.below Hb.out)) _)).mono ?_
 rintro e w4 ⟨rfl,hq⟩;have ae:Bw w3 w4:=by first|exact hq|exact aK hq
 clear l0 gp l1 gq l2 nk r0 ah r1 ai r2 aB u0 u1 u2 u3 u4 u5;replace Hl:=kB Hl ae;replace Hr:=kB Hr ae;replace Hu:=kB Hu ae;obtain⟨l0,gp,l1,gq,l2,nk⟩:=Hl.out.g3;obtain⟨r0,ah,r1,ai,r2,aB⟩:=Hr.out.g3;obtain⟨u0,u1,u2,u3,u4,u5⟩:=Hu.out.c6;replace Hb:=ak Hb ae;clear ae;refine hK _ _ (λ_=>⟨l0,l1,l2,r0,r1,r2⟩) ?_;clear hK K;try simp only[UU]
 refine aF rfl rfl (λK hK=>?_);go_simp;refine hK _ _ (λh=>absurd h zd) ?_;clear hK K;try simp only[UU]
 clear l0 gp l1 gq l2 nk r0 ah r1 ai r2 aB u0 u1 u2 u3 u4 u5;refine cj (bf w4 (lb) 0 [.bool (aj (dN L2)),.string (bs (nt (dN L2).natAbs)),.int .i64 (dE L2)]) bI ?_;intro W5 hs;replace Hl:=cp Hl hs;replace Hr:=kS Hr hs zo;replace Hu:=kS Hu hs zo;obtain⟨l0,gp,l1,gq,l2,nk⟩:=Hl.out.g3;obtain⟨r0,ah,r1,ai,r2,aB⟩:=Hr.out.g3;obtain⟨u0,u1,u2,u3,u4,u5⟩:=Hu.out.c6;replace Hb:=bS Hb hs ZS;clear hs;refine aF rfl rfl (λK hK=>?_);go_simp;refine hK _ _ (λh=>absurd h zd) ?_;clear hK K;try simp only[UU]
 clear l0 gp l1 gq l2 nk r0 ah r1 ai r2 aB u0 u1 u2 u3 u4 u5;refine cj (bf W5 (rb) 0 [.bool (aj (dN R2)),.string (bs (nt (dN R2).natAbs)),.int .i64 (dE R2)]) bI ?_;intro W6 hs;replace Hl:=kS Hl hs zo;replace Hr:=cp Hr hs;replace Hu:=kS Hu hs zo;obtain⟨l0,gp,l1,gq,l2,nk⟩:=Hl.out.g3;obtain⟨r0,ah,r1,ai,r2,aB⟩:=Hr.out.g3;obtain⟨u0,u1,u2,u3,u4,u5⟩:=Hu.out.c6;replace Hb:=bS Hb hs ZS;clear hs;simp only[aN];refine bodyPost_end (v:=.tuple #[]) (by simp[results,Tryz.results59,go_sem]) rfl ⟨rfl,⟨Hl.out,Hr.out,hne⟩,Hb.out⟩
end Go.Proofs.YtoopepmmepmfnaaGreatDoor
