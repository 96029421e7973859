/- Package bound: steep. -/
import Derived.Test.YtbkopgdpcijfbaaGreatDoorZ7
import Derived.Test.YtbkopgdpcijfbaaGreatDoorZ20
import Derived.Test.YtbkopgdpcijfbaaGreatDoorZ21
import Derived.Test.YtbkopgdpcijfbaaGreatDoorZ16
set_option linter.all false
set_option maxRecDepth 100000
set_option maxHeartbeats 16000000
namespace Go.Proofs.YtbkopgdpcijfbaaGreatDoor
open Go.RowKit
attribute [local go_sem ↓] Go.wp_at_zero Go.wp_at_succ
def rZ (p:List UInt8->Bool)(X:Dyadic)(ts:List Trm):Nat->Dyadic
 |0=>X
 |k+1=>if p (ts.getD k ([],false,[],0)).1 then rZ p X ts k+au (ts.getD k ([],false,[],0)).2*au (ts.getD k ([],false,[],0)).2 else rZ p X ts k
def stA (p:List UInt8->Bool)(T:Nat->List Trm):Nat->Dyadic
 |0=>0
 |j+1=>rZ p (stA p T j) (T j) (T j).length
def abc {p:List UInt8->Bool}{B C:Nat}{X:Dyadic}{ts:List Trm}(hX:Sm C X)(hB:2*B<=C)(h:∀t∈ts,Sm B (au t.2))(k:Nat):Sm (C+k) (rZ p X ts k):=by
 have hg:∀k,Sm B (au (ts.getD k ([],false,[],0)).2):=λk=>by
  by_cases hk:k<ts.length
  . have e:ts.getD k ([],false,[],0)=ts[k]:=by simp[hk]
    rw[e];exact h _ (List.getElem_mem hk)
  . have e:ts.getD k ([],false,[],0)=([],false,[],0):=by simp[List.getD_eq_getElem?_getD,List.getElem?_eq_none (by omega:ts.length<=k)]
    rw[e];exact Sm.zero _
 induction k with
 |zero=>exact hX
 | succ k ih=>
   unfold rZ;split
   . exact Sm.add ih ((Sm.mul (hg k) (hg k)).mono (show B+B<=C+k by omega))
   . exact ih.mono zo
def aja {p:List UInt8->Bool}{B N L:Nat}{T:Nat->List Trm}(h:∀j,j<L->(∀t∈T j,Sm B (au t.2))/\(T j).length<=N)(j:Nat)(hj:j<=L):Sm (2*B+j*N) (stA p T j):=by
 induction j with
 |zero=>exact Sm.zero _
 |succ j ih=>obtain⟨h1,h2⟩:=h j zo;have:=abc (p:=p) (ih zo) zo h1 (T j).length;exact this.mono (by rw[Nat.add_mul];omega)
def az0 (p:List UInt8->Bool)(a:Option Addr)(L cap V B:Nat)(ps:List Pv)(T:Nat->List Trm)(w:World)(hL:ps.length=L)(hl:L<=100)(hV:V<=12)(ha:At w a (ps.flatMap mD))(hP:jg w V B ps T)(hB:B<=1000000)(hp:∀j,j<L->∀t∈T j,(gN t.1=1↔p t.1=true))(hN:∀j,j<L->(T j).length<=100)(hT:aC w):
 Cv 62 #[.slice a L cap] w (bT (stA p T L)):=by
 have hfit:∀j,j<L->(∀t∈T j,Sm B (au t.2))/\(T j).length<=100:=λj hj=>by obtain⟨_,_,_,_,h⟩:=hP j zo;exact⟨λt ht=>(h.2 t ht).2,hN j hj⟩
 have hsm:=λj (hj:j<=L)=>aja (p:=p) hfit j hj;have OE:=λj (hj:j<L) k=>abc (p:=p) (hsm j zo) zo (hfit j hj).1 k;have hst:∀j,stA p T (j+1)=rZ p (stA p T j) (T j) (T j).length:=λj=>rfl;have VK:stA p T 0=0:=rfl;obtain⟨S,hS⟩:=aB (stA p T);simp only[hS]at hsm OE hst VK;rw[hS];have hac:∀X ts k,rZ p X ts (k+1)=if p (ts.getD k ([],false,[],0)).1 then rZ p X ts k+au (ts.getD k ([],false,[],0)).2*au (ts.getD k ([],false,[],0)).2 else rZ p X ts k:=λX ts k=>rfl
 have UD:∀X ts,rZ p X ts 0=X:=λX ts=>rfl;obtain⟨Q,hQ⟩:=aB (rZ p);simp only[hQ]at OE hst hac UD;obtain⟨DU,anp,bR,ant,yV,ala,Ha,HP,Hp,HT,HL,HNl⟩:=ie hsm OE hst VK hac UD ha hP hp hT hL hN;clear hsm OE hst VK hac UD ha hP hp hT hL hS hQ hfit hN;obtain⟨W,cE,Hb,Hr⟩:=axg w 30 [ag false,.string ⟨#[]⟩,af 0];obtain⟨r0,aO,r1,aQ,r2,dQ⟩:=Hr.out.g3;go_enter Tryz.func62,Tryz.ntmps62;have WF:=Hr.out.lt;obtain⟨W2,nV,ai,Hs⟩:=CR W 30 [ag false,.string ⟨#[]⟩,af 0];obtain⟨Hr,r0,aO,r1,aQ,r2,dQ⟩:=fP Hr ai;obtain⟨s0,jo,s1,jp,s2,su⟩:=Hs.out.g3;replace Hb:=aW Hb ai;go_wp2_with fail;first|refine dA (aV W2 (W.heap.size) 0 [ag false,.string ⟨#[]⟩,af 0]) aX ?_|refine dV (aV W2 (W.heap.size) 0 [ag false,.string ⟨#[]⟩,af 0]) aX ?_
 intro W3 hs;replace Hr:=kS Hr hs zo;replace Hs:=jJ Hs hs;obtain⟨r0,aO,r1,aQ,r2,dQ⟩:=Hr.out.g3;obtain⟨s0,jo,s1,jp,s2,su⟩:=Hs.out.g3;replace Hb:=bS Hb hs ZS;clear hs;have lr:=Hr.out.lt;have ls:=Hs.out.lt;go_wp2_with fail;have hws:w.heap.size<W.heap.size:=by omega
 go_loopw[11] (λx wr=>∃j:Nat,j<=L/\x=af (j:Int)/\ar wr w.heap.size 30 [ag false,.string ⟨#[]⟩,af 0]/\ar wr W.heap.size 30 (bu (canon (S j)))/\Bw w wr) (λx _=>L-(intOf x).toNat);case atStart=>exact⟨0,Nat.zero_le _,rfl,Hr.out,by rw[ant.out];exact Hs.out,Hb.out⟩
 case round=>
  clear Hr Hs Hb;obtain⟨j,hj,rfl,pr,ps',pb⟩:=hrel;by_cases hlt:j<L
  . obtain⟨pa,pc,hpj,VB,hft⟩:=HP.out j (by rw[HL.out];exact hlt);obtain⟨b,o,hab,hwn⟩:=(Ha.out.below pb).aGv j (by rw[HL.out];exact hlt) hpj;have bD:=CC L cap j (j:Int) hab hlt rfl;obtain⟨ts,hts⟩:=aB (T j);obtain⟨n,hn⟩:=aB ts.length;obtain⟨Y,hY⟩:=aB (S j);have afC:=HNl.out j hlt;have hs1:=anp.out j hlt;have hnx:=bR.out j;have jY:=Hp.out j hlt;rw[hts]at VB hft afC hnx jY;rw[hY]at hnx ps';simp only[hts,hY]at hs1;rw[hts,hn]at hwn;rw[hn]at afC hnx;obtain⟨dL,LR,RQ,uy,qN,Hn,Hr,Hs,Hb⟩:=CG VB.1 hft hs1 hnx jY hn pr ps' pb;have Hu:Hid (aZ wr b (o+j*2) [af (V:Int),.slice pa n pc]):=hwn;have hsz:=pb.size;have hsl:=ps'.lt;clear VB hft hs1 hnx jY hn pr ps' pb hwn hab hpj hts hY;obtain⟨u0,u1⟩:=Hu.out.w2;have Ku0:=u0;have Ku1:=u1;have avW:=Hr.out.lt;have avZ:=Hs.out.lt;obtain⟨W4,kV,ai,Hq⟩:=CR wr 24 [af (V:Int),.slice pa n pc];replace Hr:=kB Hr ai;replace Hs:=kB Hs ai;replace Hu:=kW Hu ai;obtain⟨u0,u1⟩:=Hu.out.w2;obtain⟨q0,q1⟩:=Hq.out.c2;replace Hb:=aW Hb ai;have Hj:=aj hj;obtain⟨wo,hwo⟩:∃wo,wo=wr:=⟨_,rfl⟩;subst hwo;go_wp2_with fail;clear Ku0 Ku1 u0 u1 q0 q1 bD Hq Hu;go_loopw[18] (λx wr=>∃k:Nat,k<=n/\x=af (k:Int)/\ar wr w.heap.size 30 [ag false,.string ⟨#[]⟩,af 0]/\ar wr W.heap.size 30 (bu (canon (Q Y ts k)))/\Bw w wr) (λx _=>n-(intOf x).toNat);case atStart=>exact⟨0,Nat.zero_le _,rfl,Hr.out,by rw[ala.out];exact Hs.out,Hb.out⟩
    case round=>
     clear Hr Hs Hb;obtain⟨k,hk,rfl,pr,ps',pb⟩:=hrel;by_cases bA:k<n
     . have ic:k<ts.length:=by rw[Hn.out];exact bA
       obtain⟨l,s,m,e,hx⟩:∃l s m e,ts[k]=(l,s,m,e):=⟨_,_,_,_,rfl⟩;obtain⟨b2,o2,dG,hw2⟩:=(dL.out.below pb).term k ic hx;have kv:=sI n pc k (k:Int) dG bA rfl;have hmem:(l,s,m,e)∈ts:=by rw[<-hx];exact List.getElem_mem ic
       have lV:=LR.out.1.2.1 _ hmem;have Ah:=LR.out.2 _ hmem;have wJ:=qN.out _ hmem;have hac:=yV.out Y ts k;have pD:ts.getD k ([],false,[],0)=(l,s,m,e):=by rw[<-hx];simp[ic]
       rw[pD]at hac;dsimp only at lV Ah wJ hac;obtain⟨A,hA⟩:=aB (Q Y ts k);obtain⟨Z,hZ⟩:=aB (Q Y ts (k+1));obtain⟨P,hP⟩:=aB (au (s,m,e) *au (s,m,e));have zS:=RQ.out k;rw[hA]at ps' hac zS;rw[hZ,hP]at hac;have FA:Hid (Fit (2*B+20000) (bE A)):=(zS.mono zo).fit zo;have zW:Sm (2*B+20000) P:=by rw[<-hP];exact(Sm.mul Ah.2 Ah.2).mono zo
       have FP:Hid (Fit (2*B+20000) (bE P)):=zW.fit zo;unfold fQ at lV;rw[Bool.and_eq_true,List.all_eq_true]at lV;have UQ:=λW=>acl l W (by have:=of_decide_eq_true lV.2;omega) (λc hc=>of_decide_eq_true (lV.1 c hc));obtain⟨g,hg⟩:=aB (gN l);rw[hg]at wJ;simp only[hg]at UQ;obtain⟨c,hc⟩:=aB (p l);rw[hc]at wJ hac;have hgt:((g:Int)==1)=c:=by
        cases c with
        |true=>have:=wJ.2 rfl;subst this;rfl
        | false=>
          have:¬g=1:=λh=>by have:=wJ.1 h;cases this
          simp;omega
       obtain⟨Mc,Lr,Zv,Zw,Fe,alF,Hr,Hb⟩:=jZ hw2 hP hZ hac Ah UQ pr pb;have Hs:Hid (ar wr W.heap.size 30 (bG A)):=ps';have Hv:Hid (aZ wr b2 (o2+k*4) [ah l,ag s,ah m,af e]):=hw2;have aEj:=pb.size;have aEh:=ps'.lt;clear hw2 dG hmem lV Ah wJ hac pD hA hZ hP zS zW hg hc hx pr ps' pb UQ Mc;obtain⟨s0,jo,s1,jp,s2,su⟩:=Hs.out.g3;obtain⟨v0,v1,v2,v3⟩:=Hv.out.w4;have Kv0:=v0;have Kv1:=v1;have Kv2:=v2;have Kv3:=v3;have avX:=Hr.out.lt;have aFj:=Hs.out.lt;obtain⟨W5,ND,ai,Hf⟩:=CR wr 90 [ah l,ag s,ah m,af e];replace Hr:=kB Hr ai;replace Hs:=kB Hs ai;replace Hv:=kW Hv ai;obtain⟨s0,jo,s1,jp,s2,su⟩:=Hs.out.g3;obtain⟨v0,v1,v2,v3⟩:=Hv.out.w4;obtain⟨f0,f1,f2,f3⟩:=Hf.out.c4;replace Hb:=aW Hb ai;go_wp2_with fail;refine(alF.out _).mono ?_;rintro e w6 ⟨rfl,ai⟩;replace Hr:=kB Hr ai;obtain⟨Hs,s0,jo,s1,jp,s2,su⟩:=fP Hs ai;replace Hv:=kW Hv ai;obtain⟨Hf,f0,f1,f2,f3⟩:=wR Hf ai;obtain⟨v0,v1,v2,v3⟩:=Hv.out.w4;replace Hb:=aW Hb ai;clear ai Kv0 Kv1 Kv2 Kv3 v0 v1 v2 v3 Hv kv;cases c with
       | true=>
         have HZ:Hid (au (bE A)+au (bE P)=Z):=by
          show au (canon A)+au (canon P)=Z
          rw[bF,bF,Zw.out,if_pos rfl]
         go_wp2_with fail;refine fh (λw'=>aH w' (W.heap.size) 0 (ag (az (dN A)))/\aH w' (W.heap.size) 1 (ah (nt (dN A).natAbs))/\aH w' (W.heap.size) 2 (af (dE A))/\aH w' (wr.heap.size) 0 (ah l)/\aH w' (wr.heap.size) 1 (ag s)/\aH w' (wr.heap.size) 2 (ah m)/\aH w' (wr.heap.size) 3 (af e)) (λi=>Nat.blt i 9) [(0,true),(1,true),(2,true),(3,true),(4,true),(5,false),(6,false),(7,false),(8,false),(9,false)] zk zk rfl zk zc ⟨s0,s1,s2,f0,f1,f2,f3⟩ ?_;iterate 5 (refine pT rfl rfl ?_ (by intro w' ⟨q0,q1,q2,q3,q4,q5,q6⟩;go_simp;try with_reducible rfl);try simp only[UU])
         refine aM rfl rfl (λK hK=>?_);go_simp;refine hK _ _ (λ_=>⟨aU s0,aU s1,aU s2,aU f0,aU f1,aU f2,aU f3⟩) ?_;try simp only[UU]
         refine cB (λW7=>ar W7 (w6.heap.size) 30 [ag s,ah m,af e,ag s,ah m,af e]/\Bw w6 W7) (by first|exact iX|exact iY) ?_;rintro W7 ⟨qg1,ai⟩;have aFh:=Hr.out.lt;have aFk:=Hs.out.lt;have aE2:=Hf.out.lt;replace Hr:=kB Hr ai;replace Hs:=kB Hs ai;replace Hf:=kB Hf ai;have rP:=aj qg1;clear qg1;obtain⟨s0,jo,s1,jp,s2,su⟩:=Hs.out.g3;obtain⟨f0,f1,f2,f3⟩:=Hf.out.c4;obtain⟨g10,g11,g12,g13,g14,g15⟩:=rP.out.c6;replace Hb:=aW Hb ai;refine aM rfl rfl (λK hK=>?_);go_simp;with_reducible refine(tB s m e s m e P B Lr.out _ 2 30 _ Fe.out Fe.out zo rP.out (by first|exact(HT.out.below Hb.out) |exact aC.drew (HT.out.below Hb.out) |exact aC.alloc (HT.out.below Hb.out) _|exact aC.drew (aC.alloc (HT.out.below Hb.out) _) |exact aC.alloc (aC.drew (HT.out.below Hb.out)) _)).mono ?_
         rintro e w8 ⟨rfl,hq⟩;have ai:Bw W7 w8:=by first|exact hq|exact cu hq
         clear s0 jo s1 jp s2 su f0 f1 f2 f3 g10 g11 g12 g13 g14 g15;replace Hr:=kB Hr ai;obtain⟨Hs,s0,jo,s1,jp,s2,su⟩:=fP Hs ai;obtain⟨Hf,f0,f1,f2,f3⟩:=wR Hf ai;obtain⟨rP,g10,g11,g12,g13,g14,g15⟩:=AA rP ai;replace Hb:=aW Hb ai;refine hK _ _ (λ_=>⟨s0,s1,s2,f0,f1,f2,f3⟩) ?_;try simp only[UU]
         refine aM rfl rfl (λK hK=>?_);go_simp;refine hK _ _ (λ_=>⟨aU s0,aU s1,aU s2,aU f0,aU f1,aU f2,aU f3⟩) ?_;try simp only[UU]
         refine cB (λW9=>ar W9 (w8.heap.size) 30 [ag (az (dN A)),ah (nt (dN A).natAbs),af (dE A),ag (az (dN P)),ah (nt (dN P).natAbs),af (dE P)]/\Bw w8 W9) (by first|exact iX|exact iY) ?_;rintro W9 ⟨qg2,ai⟩;clear s0 jo s1 jp s2 su f0 f1 f2 f3 g10 g11 g12 g13 g14 g15;have aFi:=Hr.out.lt;have aFl:=Hs.out.lt;have aE3:=Hf.out.lt;have aE4:=rP.out.lt;replace Hr:=kB Hr ai;replace Hs:=kB Hs ai;replace Hf:=kB Hf ai;replace rP:=kB rP ai;have xE:=aj qg2;clear qg2;obtain⟨s0,jo,s1,jp,s2,su⟩:=Hs.out.g3;obtain⟨f0,f1,f2,f3⟩:=Hf.out.c4;obtain⟨g10,g11,g12,g13,g14,g15⟩:=rP.out.c6;obtain⟨g20,g21,g22,g23,Nf,Ng⟩:=xE.out.c6;replace Hb:=aW Hb ai;refine aM rfl rfl (λK hK=>?_);go_simp;with_reducible refine(xU _ _ _ _ _ _ Z (2*B+20000) HZ.out _ 2 30 _ FA.out FP.out zo xE.out (by first|exact(HT.out.below Hb.out) |exact aC.drew (HT.out.below Hb.out) |exact aC.alloc (HT.out.below Hb.out) _|exact aC.drew (aC.alloc (HT.out.below Hb.out) _) |exact aC.alloc (aC.drew (HT.out.below Hb.out)) _)).mono ?_
         rintro e dw ⟨rfl,hq⟩;have ai:Bw W9 dw:=by first|exact hq|exact cu hq
         clear s0 jo s1 jp s2 su f0 f1 f2 f3 g10 g11 g12 g13 g14 g15 g20 g21 g22 g23 Nf Ng;replace Hr:=kB Hr ai;obtain⟨Hs,s0,jo,s1,jp,s2,su⟩:=fP Hs ai;obtain⟨Hf,f0,f1,f2,f3⟩:=wR Hf ai;obtain⟨rP,g10,g11,g12,g13,g14,g15⟩:=AA rP ai;obtain⟨xE,g20,g21,g22,g23,Nf,Ng⟩:=AA xE ai;replace Hb:=aW Hb ai;refine hK _ _ (λ_=>⟨s0,s1,s2,f0,f1,f2,f3⟩) ?_;try simp only[UU]
         refine aM rfl rfl (λK hK=>?_);go_simp;refine hK _ _ (λh=>absurd h zd) ?_;try simp only[UU]
         clear s0 jo s1 jp s2 su f0 f1 f2 f3 g10 g11 g12 g13 g14 g15 g20 g21 g22 g23 Nf Ng;refine cB (aV dw (W.heap.size) 0 (bG Z)) aX ?_;intro W11 hs;replace Hr:=kS Hr hs zo;replace Hs:=jJ Hs hs;replace Hf:=kS Hf hs zo;replace rP:=kS rP hs zo;replace xE:=kS xE hs zo;obtain⟨s0,jo,s1,jp,s2,su⟩:=Hs.out.g3;obtain⟨f0,f1,f2,f3⟩:=Hf.out.c4;obtain⟨g10,g11,g12,g13,g14,g15⟩:=rP.out.c6;obtain⟨g20,g21,g22,g23,Nf,Ng⟩:=xE.out.c6;replace Hb:=bS Hb hs ZS;clear hs;simp only[bH];go_wp2;go_roundw;case rel=>exact⟨k+1,by omega,by go_num,Hr.out,by rw[Zv.out];exact Hs.out,Hb.out⟩
         case measure=>exact bC
       | false=>
         have HZ:Hid (Z=A):=by show _=_;rw[Zw.out];rfl
         go_wp2;go_roundw;case rel=>exact⟨k+1,by omega,by go_num,Hr.out,by rw[Zv.out,HZ.out];exact Hs.out,Hb.out⟩
         case measure=>exact bC
     . obtain rfl:k=n:=by omega
       obtain⟨Hr,Hs,Hb⟩:=cw pr ps' pb;clear pr ps' pb;go_wp2;go_roundw;case rel=>exact⟨j+1,by omega,by go_num,Hr.out,by rw[uy.out];exact Hs.out,Hb.out⟩
       case measure=>exact bC
  . obtain rfl:j=L:=by omega
    obtain⟨Y,hY⟩:=aB (S j);obtain⟨HY,Hr,Hb⟩:=cw hY pr pb;have Hs:Hid (ar wr W.heap.size 30 (bG Y)):=by rw[<-hY];exact ps'
    clear pr ps' pb hY;obtain⟨r0,aO,r1,aQ,r2,dQ⟩:=Hr.out.g3;obtain⟨s0,s1,s2⟩:=Hs.out.c3;go_wp2;refine dX (aV wr (w.heap.size) 0 (bG Y)) aX ?_;intro w9 hs;replace Hr:=jJ Hr hs;replace Hs:=kS Hs hs zo;obtain⟨r0,aO,r1,aQ,r2,dQ⟩:=Hr.out.g3;obtain⟨s0,s1,s2⟩:=Hs.out.c3;replace Hb:=bS Hb hs ZS;clear hs;refine bodyPost_ret (v:=bT Y) (by simp[results,Tryz.results62,go_sem,r0,r1,r2]) rfl ⟨by rw[HY.out],Hb.out⟩
def pZ (k:Nat):Dyadic:=Dyadic.ofIntWithPrec (2^k) 0
def aiU (D:Dyadic)(k:Nat):au (az (dN D),nt (dN D).natAbs,dE D+(k:Int))=D*pZ k:=by
 have h:=bF D;unfold au canon at h;unfold au pZ;simp only[dH]at h⊢;conv=>rhs;rw[<-h]
 rw[ui,<-mz (dN D) k (-(dE D+k))];congr 1;omega
def ajN (k:Nat):Sm (k+1) (pZ k):=by
 refine⟨2^k*2^(k+1),?_,?_⟩
 . unfold pZ;have:=mz (2^k) (k+1) 0;rw[<-this];congr 1;omega
 . rw[Int.natAbs_mul,Int.natAbs_pow,Int.natAbs_pow,<-Nat.pow_add];exact Nat.pow_lt_pow_right zd zo
def ajq :Sm 2 (Dyadic.ofIntWithPrec 3 0):=by refine⟨12,?_,by decide⟩;have:=mz 3 2 0;rw[<-this];rfl
def jv (X:Dyadic):Nat->Dyadic
 |0=>X
 |k+1=>jv X k*Dyadic.ofIntWithPrec 3 0
def jx (Y:Dyadic):Nat->Dyadic
 |0=>Y
 |k+1=>jx Y k*pZ 2
def ahh {B:Nat}{X:Dyadic}(h:Sm B X)(k:Nat):Sm (B+2*k) (jv X k):=by
 induction k with
 |zero=>exact h
 |succ k ih=>exact(Sm.mul ih ajq).mono zo
def aiJ {B:Nat}{X:Dyadic}(h:Sm B X)(k:Nat):Sm (B+3*k) (jx X k):=by
 induction k with
 |zero=>exact h
 |succ k ih=>exact(Sm.mul ih (ajN 2)).mono zo
def AW (X Y:Dyadic)(k:Nat):Bool:=decide (bg (jv X k-jx Y k)<0)
def xN (w:World)(lb rb:Nat)(X Y:Dyadic)(k:Nat):Prop:=ar w lb 30 (bu (canon (jv X k)))/\ar w rb 30 (bu (canon (jx Y k)))/\lb≠rb
def xN.below {w w':World}{lb rb k:Nat}{X Y:Dyadic}(h:xN w lb rb X Y k)(hb:Bw w w'):xN w' lb rb X Y k:=⟨h.1.below hb,h.2.1.below hb,h.2.2⟩
def azi (lb rb B k:Nat)(X Y:Dyadic)(w:World)(hX:Sm B X)(hY:Sm B Y)(hB:B<=1000000)(hk:k<=2000)(hT:aC w)(hJ:xN w lb rb X Y k):
 Cv 65 #[.pointer (some ⟨lb,0,none⟩),.pointer (some ⟨rb,0,none⟩)] w (ag (AW X Y k)):=by
 obtain⟨h1,h2,_⟩:=hJ;have hx:=ahh hX k;have hy:=aiJ hY k;unfold AW;obtain⟨L,hL⟩:=aB (jv X k);obtain⟨R,hR⟩:=aB (jx Y k);rw[hL]at h1 hx⊢;rw[hR]at h2 hy⊢;obtain⟨c,hc⟩:=aB (bg (L-R));rw[hc];have Hc:Hid (bg (au (bE L)-au (bE R))=c):=by show bg (au (canon L)-au (canon R))=c;rw[bF,bF];exact hc
 have FL:Hid (Ok (bE L)):=(hx.fit zo).1;have FR:Hid (Ok (bE R)):=(hy.fit zo).1;have Hl:Hid (ar w lb 30 (bG L)):=h1;have Hr:Hid (ar w rb 30 (bG R)):=h2;have HT:=aj hT;clear h1 h2 hx hy hc hL hR hT hX hY;have Hb:=hbz w;go_enter Tryz.func65,Tryz.ntmps65;obtain⟨ae,ak⟩:=qZ (Hl.an<|Hr.an trivial);go_wp2_with fail;refine aJ (Hb.an ae) (wu _ _ _ _ _ _ c Hc.out _ FL.out FR.out (HT.out.below Hb.out)) λw1 ae ak=>?_;go_wp2;refine bodyPost_ret (results_tmp rfl _ _ _) rfl ⟨rfl,ae.1.out⟩
def azm (lb rb B k:Nat)(X Y:Dyadic)(v0 w:World)(hv:Bw v0 w)(hX:Sm B X)(hY:Sm B Y)(hB:B<=1000000)(hk:k<=2000)(hT:aC v0)(hl:v0.heap.size<=lb)(hr:v0.heap.size<=rb)(hJ:xN w lb rb X Y k):
 Cl 66 #[.pointer (some ⟨lb,0,none⟩),.pointer (some ⟨rb,0,none⟩)] w λe w'=>e=.returned (.tuple #[])/\xN w' lb rb X Y (k+1)/\Bw v0 w':=by
 obtain⟨h1,h2,hne⟩:=hJ;have hx:=ahh hX k;have hy:=aiJ hY k;have hx2:jv X (k+1)=jv X k*Dyadic.ofIntWithPrec 3 0:=rfl;have hy2:jx Y (k+1)=jx Y k*pZ 2:=rfl;unfold xN;obtain⟨L,hL⟩:=aB (jv X k);obtain⟨R,hR⟩:=aB (jx Y k);obtain⟨L2,hL2⟩:∃L,jv X (k+1)=L:=⟨_,rfl⟩;obtain⟨R2,zZ⟩:∃R,jx Y (k+1)=R:=⟨_,rfl⟩;rw[hL]at h1 hx hx2;rw[hR]at h2 hy hy2;rw[hL2]at hx2⊢;rw[zZ]at hy2⊢;obtain⟨E,hE⟩:=aB (Dyadic.ofIntWithPrec 3 0);have hE3:Sm 2 E:=by rw[<-hE];exact ajq
 rw[hE]at hx2;have HE:=aj hE;have HL:Hid (au (bE L) *au (bE E)=L2):=by show au (canon L) *au (canon E)=L2;rw[bF,bF];exact hx2.symm
 have HR:Hid (au (az (dN R),nt (dN R).natAbs,dE R+2)=R2):=by rw[hy2];exact aiU R 2
 have FL:Hid (Fit (B+6000) (bE L)):=(hx.mono zo).fit zo;have FE:Hid (Fit (B+6000) (bE E)):=(hE3.mono zo).fit zo;have FR:Hid (Ok (bE R)):=(hy.fit zo).1;have Hl:Hid (ar w lb 30 (bG L)):=h1;have Hr:Hid (ar w rb 30 (bG R)):=h2;have HT:=aj hT;have ll:=h1.lt;have lr:=h2.lt;clear h1 h2 hx hy hx2 hy2 hL hR hL2 zZ hT hX hY hE hE3;have Hb:Hid (Bw v0 w):=hv;clear hv;go_enter Tryz.func66,Tryz.ntmps66;obtain⟨ae,ak⟩:=qZ (Hl.an<|Hr.an trivial);go_wp2_with fail;have ae:=Hb.an ae;refine fT 6 ae (fH 8 0xe0c0a0604020901) ?_;refine cG ?_;refine cV ae (uP 3 E HE.out _ zd (qU (HT.out.below ae.1.out))) λw1 ae=>?_;refine vG 30 [ag (az (dN L)),ah (nt (dN L).natAbs),af (dE L),ag (az (dN E)),ah (nt (dN E).natAbs),af (dE E)] ae λW2 aR ae=>?_;refine cV ae (tB _ _ _ _ _ _ L2 (B+6000) HL.out w1.heap.size 2 30 _ FL.out FE.out zo ae.1.out (qU (HT.out.below ae.2.1.out))) λw3 ae=>?_;refine cV ae (Fx _ _ _ 2 R2 HR.out _ FR.out zd (qU (HT.out.below ae.2.1.out))) λw4 ae=>?_;have ak:=qC ae;refine qOp λK hK=>?_;go_simp;refine hK _ _ (λh=>absurd h zd) ?_;try simp only[UU]
 refine cB (aV w4 (lb) 0 (bG L2)) aX ?_;intro W5 hs0;have ae:=bU hs0 ae;simp only[bV,List.set]at ae;have ak:=qC ae;have ak:=qC ae;refine qOp λK hK=>?_;go_simp;refine hK _ _ (λh=>absurd h zd) ?_;try simp only[UU]
 refine cB (aV W5 (rb) 0 (bG R2)) aX ?_;intro W6 hs0;have ae:=bU hs0 ae;simp only[bV,List.set]at ae;have ak:=qC ae;refine fR ae λak=>?_;refine bodyPost_end (v:=.tuple #[]) (by simp[results,Tryz.results66,go_sem]) rfl ⟨rfl,⟨ae.2.2.1.out,ae.2.2.2.1.out,hne⟩,ae.2.1.out⟩
end Go.Proofs.YtbkopgdpcijfbaaGreatDoor
