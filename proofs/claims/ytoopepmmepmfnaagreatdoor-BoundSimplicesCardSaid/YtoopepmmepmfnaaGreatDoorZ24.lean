/- Package bound: steep. -/
import Derived.Test.YtoopepmmepmfnaaGreatDoorZ17
import Derived.Test.YtoopepmmepmfnaaGreatDoorZ20
import Derived.Test.YtoopepmmepmfnaaGreatDoorZ23
set_option linter.unusedVariables false
set_option linter.unusedSimpArgs false
set_option maxRecDepth 100000
set_option maxHeartbeats 16000000
namespace Go.Proofs.YtoopepmmepmfnaaGreatDoor
open Go.RowKit
attribute [local go_sem ↓] Go.wp_at_zero Go.wp_at_succ
abbrev zT3 (X:Dyadic):Bool×List UInt8×Int:=(au (dN X),nt (dN X).natAbs,dE X)
abbrev zL3 (X:Dyadic):List Value:=[ag (au (dN X)),ah (nt (dN X).natAbs),af (dE X)]
def lf (p:List UInt8->Bool)(X:Dyadic)(ts:List aM):Nat->Dyadic
 |0=>X
 |k+1=>if p (ts.getD k ([],false,[],0)).1 then lf p X ts k+az (ts.getD k ([],false,[],0)).2*az (ts.getD k ([],false,[],0)).2 else lf p X ts k
def stA (p:List UInt8->Bool)(T:Nat->List aM):Nat->Dyadic
 |0=>0
 |j+1=>lf p (stA p T j) (T j) (T j).length
theorem Oy {p:List UInt8->Bool}{B C:Nat}{X:Dyadic}{ts:List aM}(hX:Sm C X)(hB:2*B<=C)(h:∀t∈ts,Sm B (az t.2))(k:Nat):Sm (C+k) (lf p X ts k):=by
 have hg:∀k,Sm B (az (ts.getD k ([],false,[],0)).2):=λk=>by
  by_cases hk:k<ts.length
  . have e:ts.getD k ([],false,[],0)=ts[k]:=by simp[hk]
    rw[e];exact h _ (List.getElem_mem hk)
  . have e:ts.getD k ([],false,[],0)=([],false,[],0):=by simp[List.getD_eq_getElem?_getD,List.getElem?_eq_none (by omega:ts.length<=k)]
    rw[e];exact Sm.zero _
 induction k with
 |zero=>exact hX
 | succ k ih=>
   unfold lf;split
   . exact Sm.add ih ((Sm.mul (hg k) (hg k)).mono (show B+B<=C+k by omega))
   . exact ih.mono zo
theorem Tm {p:List UInt8->Bool}{B N L:Nat}{T:Nat->List aM}(h:∀j,j<L->(∀t∈T j,Sm B (az t.2))/\(T j).length<=N)(j:Nat)(hj:j<=L):Sm (2*B+j*N) (stA p T j):=by
 induction j with
 |zero=>exact Sm.zero _
 |succ j ih=>obtain⟨h1,h2⟩:=h j zo;have:=Oy (p:=p) (ih zo) zo h1 (T j).length;exact this.mono (by rw[Nat.add_mul];omega)
theorem aqR (p:List UInt8->Bool)(a:Option Addr)(L cap V B:Nat)(ps:List Pv)(T:Nat->List aM)(w:World)(hL:ps.length=L)(hl:L<=100)(hV:V<=12)(ha:At w a (ps.flatMap jv))(hP:iK w V B ps T)(hB:B<=1000000)(hp:∀j,j<L->∀t∈T j,(jP t.1=1↔p t.1=true))(hN:∀j,j<L->(T j).length<=100)(hT:aH w):
 Calls Tryz.prog 57 #[.slice a L cap] w λe w'=>e=.returned (bL (stA p T L))/\Bw w w':=by
 have hfit:∀j,j<L->(∀t∈T j,Sm B (az t.2))/\(T j).length<=100:=λj hj=>by obtain⟨_,_,_,_,h⟩:=hP j zo;exact⟨λt ht=>(h.2 t ht).2,hN j hj⟩
 have hsm:=λj (hj:j<=L)=>Tm (p:=p) hfit j hj;have vU:=λj (hj:j<L) k=>Oy (p:=p) (hsm j zo) zo (hfit j hj).1 k;have hst:∀j,stA p T (j+1)=lf p (stA p T j) (T j) (T j).length:=λj=>rfl;have Ap:stA p T 0=0:=rfl;obtain⟨S,hS⟩:=aG (stA p T);simp only[hS]at hsm vU hst Ap;rw[hS];have jl:∀X ts k,lf p X ts (k+1)=if p (ts.getD k ([],false,[],0)).1 then lf p X ts k+az (ts.getD k ([],false,[],0)).2*az (ts.getD k ([],false,[],0)).2 else lf p X ts k:=λX ts k=>rfl
 have zU:∀X ts,lf p X ts 0=X:=λX ts=>rfl;obtain⟨Q,hQ⟩:=aG (lf p);simp only[hQ]at vU hst jl zU;obtain⟨pP,JB,bX,JC,wM,Jh,Ha,HP,Hp,HT,HL,HNl⟩:=gB hsm vU hst Ap jl zU ha hP hp hT hL hN;clear hsm vU hst Ap jl zU ha hP hp hT hL hS hQ hfit hN;obtain⟨W,cg,Hb,Hr⟩:=fJ w 39 [ag false,.string ⟨#[]⟩,af 0];obtain⟨r0,aj,r1,ak,r2,aF⟩:=Hr.out.g3;go_enter Tryz.func57,Tryz.ntmps57;have qK:=Hr.out.lt;obtain⟨W2,mM,ae,Hs⟩:=cd W 39 [ag false,.string ⟨#[]⟩,af 0];clear r0 aj r1 ak r2 aF;obtain⟨Hr,r0,aj,r1,ak,r2,aF⟩:=aN Hr ae;obtain⟨s0,bf,s1,bg,s2,bB⟩:=Hs.out.g3;replace Hb:=aB Hb ae;clear ae;go_wp2_with fail;clear r0 aj r1 ak r2 aF s0 bf s1 bg s2 bB;first|refine cf (bC W2 (W.heap.size) 0 [ag false,.string ⟨#[]⟩,af 0]) bJ ?_|refine bZ (bC W2 (W.heap.size) 0 [ag false,.string ⟨#[]⟩,af 0]) bJ ?_
 intro W3 hs;replace Hr:=kS Hr hs zo;replace Hs:=bP Hs hs;obtain⟨r0,aj,r1,ak,r2,aF⟩:=Hr.out.g3;obtain⟨s0,bf,s1,bg,s2,bB⟩:=Hs.out.g3;replace Hb:=bS Hb hs ZS;clear hs;have lr:=Hr.out.lt;have ls:=Hs.out.lt;go_wp2_with fail;clear r0 r1 r2 aj ak aF s0 s1 s2 bf bg bB;have hws:w.heap.size<W.heap.size:=by omega
 go_loopw[11] (λx wr=>∃j:Nat,j<=L/\x=af (j:Int)/\ar wr w.heap.size 39 [ag false,.string ⟨#[]⟩,af 0]/\ar wr W.heap.size 39 (bI (canon (S j)))/\Bw w wr) (λx _=>L-(intOf x).toNat);case atStart=>exact⟨0,Nat.zero_le _,rfl,Hr.out,by rw[JC.out];exact Hs.out,Hb.out⟩
 case round=>
  clear Hr Hs Hb;obtain⟨j,hj,rfl,pr,ps',pb⟩:=hrel;by_cases hlt:j<L
  . obtain⟨pa,pc,Gw,Ak,hft⟩:=HP.out j (by rw[HL.out];exact hlt);obtain⟨b,o,hab,hwn⟩:=(Ha.out.below pb).aw5 j (by rw[HL.out];exact hlt) Gw;have bK:=uH L cap j (j:Int) hab hlt rfl;obtain⟨ts,hts⟩:=aG (T j);obtain⟨n,hn⟩:=aG ts.length;obtain⟨Y,hY⟩:=aG (S j);have ZN:=HNl.out j hlt;have hs1:=JB.out j hlt;have hnx:=bX.out j;have gm:=Hp.out j hlt;rw[hts]at Ak hft ZN hnx gm;rw[hY]at hnx ps';simp only[hts,hY]at hs1;rw[hts,hn]at hwn;rw[hn]at ZN hnx;obtain⟨eH,vh,Jy,nE,Hpp,Hn,Hr,Hs,Hb⟩:=GV Ak.1 hft hs1 hnx gm hn pr ps' pb;have Hu:Hid (bH wr b (o+j*2) [af (V:Int),.slice pa n pc]):=hwn;have hsz:=pb.size;have hsl:=ps'.lt;clear Ak hft hs1 hnx gm hn pr ps' pb hwn hab Gw hts hY;obtain⟨u0,u1⟩:=Hu.out.w2;have Ol:=u0;have Om:=u1;have GZ:=Hr.out.lt;have anu:=Hs.out.lt;obtain⟨W4,lU,ae,Hq⟩:=cd wr 91 [af (V:Int),.slice pa n pc];replace Hr:=kB Hr ae;replace Hs:=kB Hs ae;clear u0 u1;replace Hu:=kW Hu ae;obtain⟨u0,u1⟩:=Hu.out.w2;obtain⟨q0,q1⟩:=Hq.out.c2;replace Hb:=aB Hb ae;clear ae;have Hj:=ai hj;obtain⟨wo,hwo⟩:∃wo,wo=wr:=⟨_,rfl⟩;subst hwo;go_wp2_with fail;clear Ol Om u0 u1 q0 q1 bK Hq Hu;go_loopw[18] (λx wr=>∃k:Nat,k<=n/\x=af (k:Int)/\ar wr w.heap.size 39 [ag false,.string ⟨#[]⟩,af 0]/\ar wr W.heap.size 39 (bI (canon (Q Y ts k)))/\Bw w wr) (λx _=>n-(intOf x).toNat);case atStart=>exact⟨0,Nat.zero_le _,rfl,Hr.out,by rw[Jh.out];exact Hs.out,Hb.out⟩
    case round=>
     clear Hr Hs Hb;obtain⟨k,hk,rfl,pr,ps',pb⟩:=hrel;by_cases bG:k<n
     . have gA:k<ts.length:=by rw[Hn.out];exact bG
       obtain⟨l,s,m,e,hx⟩:∃l s m e,ts[k]=(l,s,m,e):=⟨_,_,_,_,rfl⟩;obtain⟨b2,o2,fA,hw2⟩:=(eH.out.below pb).term k gA hx;have kJ:=kP n pc k (k:Int) fA bG rfl;have hmem:(l,s,m,e)∈ts:=by rw[<-hx];exact List.getElem_mem gA
       have jF:=vh.out.1.2.1 _ hmem;have Gd:=vh.out.2 _ hmem;have uB:=Hpp.out _ hmem;have jl:=wM.out Y ts k;have lw:ts.getD k ([],false,[],0)=(l,s,m,e):=by rw[<-hx];simp[gA]
       rw[lw]at jl;dsimp only at jF Gd uB jl;obtain⟨A,hA⟩:=aG (Q Y ts k);obtain⟨Z,hZ⟩:=aG (Q Y ts (k+1));obtain⟨P,hP⟩:=aG (az (s,m,e) *az (s,m,e));have kF:=Jy.out k;rw[hA]at ps' jl kF;rw[hZ,hP]at jl;have FA:Hid (Fit (2*B+20000) (zT3 A)):=(kF.mono zo).fit zo;have xo:Sm (2*B+20000) P:=by rw[<-hP];exact(Sm.mul Gd.2 Gd.2).mono zo
       have FP:Hid (Fit (2*B+20000) (zT3 P)):=xo.fit zo;unfold gp at jF;rw[Bool.and_eq_true,List.all_eq_true]at jF;have QA:=λW=>ajx l W (by have:=of_decide_eq_true jF.2;omega) (λc hc=>of_decide_eq_true (jF.1 c hc));obtain⟨g,hg⟩:=aG (jP l);rw[hg]at uB;simp only[hg]at QA;obtain⟨c,hc⟩:=aG (p l);rw[hc]at uB jl;have hgt:((g:Int)==1)=c:=by
        cases c with
        |true=>have:=uB.2 rfl;subst this;rfl
        | false=>
          have:¬g=1:=λh=>by have:=uB.1 h;cases this
          simp;omega
       obtain⟨rB,Bu,Ec,Ed,Fe,ae9,Hr,Hb⟩:=nZ hw2 hP hZ jl Gd QA pr pb;have Hs:Hid (ar wr W.heap.size 39 (zL3 A)):=ps';have Hv:Hid (bH wr b2 (o2+k*4) [ah l,ag s,ah m,af e]):=hw2;have aay:=pb.size;have aas:=ps'.lt;clear hw2 fA hmem jF Gd uB jl lw hA hZ hP kF xo hg hc hx pr ps' pb QA rB;obtain⟨s0,bf,s1,bg,s2,bB⟩:=Hs.out.g3;obtain⟨v0,v1,v2,v3⟩:=Hv.out.w4;have Oo:=v0;have Oq:=v1;have Ot:=v2;have Ou:=v3;have Ia:=Hr.out.lt;have anv:=Hs.out.lt;obtain⟨W5,xt,ae,Hf⟩:=cd wr 93 [ah l,ag s,ah m,af e];replace Hr:=kB Hr ae;clear s0 bf s1 bg s2 bB;replace Hs:=kB Hs ae;clear v0 v1 v2 v3;replace Hv:=kW Hv ae;obtain⟨s0,bf,s1,bg,s2,bB⟩:=Hs.out.g3;obtain⟨v0,v1,v2,v3⟩:=Hv.out.w4;obtain⟨f0,f1,f2,f3⟩:=Hf.out.c4;replace Hb:=aB Hb ae;clear ae;go_wp2_with fail;refine(ae9.out _).mono ?_;rintro e w6 ⟨rfl,ae⟩;clear s0 bf s1 bg s2 bB v0 v1 v2 v3 f0 f1 f2 f3;replace Hr:=kB Hr ae;obtain⟨Hs,s0,bf,s1,bg,s2,bB⟩:=aN Hs ae;replace Hv:=kW Hv ae;obtain⟨Hf,f0,f1,f2,f3⟩:=dU Hf ae;obtain⟨v0,v1,v2,v3⟩:=Hv.out.w4;replace Hb:=aB Hb ae;clear ae Oo Oq Ot Ou v0 v1 v2 v3 Hv kJ;cases c with
       | true=>
         have HZ:Hid (az (zT3 A)+az (zT3 P)=Z):=by
          show az (canon A)+az (canon P)=Z
          rw[bD,bD,Ed.out,if_pos rfl]
         go_wp2_with fail;refine bR (λw'=>aC w' (W.heap.size) 0 (ag (au (dN A)))/\aC w' (W.heap.size) 1 (ah (nt (dN A).natAbs))/\aC w' (W.heap.size) 2 (af (dE A))/\aC w' (wr.heap.size) 0 (ah l)/\aC w' (wr.heap.size) 1 (ag s)/\aC w' (wr.heap.size) 2 (ah m)/\aC w' (wr.heap.size) 3 (af e)) (λi=>Nat.blt i 9) [(0,true),(1,true),(2,true),(3,true),(4,true),(5,false),(6,false),(7,false),(8,false),(9,false)] zk zk rfl zk zc ⟨s0,s1,s2,f0,f1,f2,f3⟩ ?_;iterate 5 (refine pT rfl rfl ?_ (by intro w' ⟨q0,q1,q2,q3,q4,q5,q6⟩;go_simp;try with_reducible rfl);try simp only[UU])
         refine aI rfl rfl (λK hK=>?_);go_simp;refine hK _ _ (λ_=>⟨aL s0,aL s1,aL s2,aL f0,aL f1,aL f2,aL f3⟩) ?_;clear hK K;try simp only[UU]
         refine bV (λW7=>ar W7 (w6.heap.size) 39 [ag s,ah m,af e,ag s,ah m,af e]/\Bw w6 W7) (by first|exact fe|exact fg) ?_;rintro W7 ⟨qg1,ae⟩;clear s0 bf s1 bg s2 bB f0 f1 f2 f3;have avL:=Hr.out.lt;have avQ:=Hs.out.lt;have ave:=Hf.out.lt;replace Hr:=kB Hr ae;replace Hs:=kB Hs ae;replace Hf:=kB Hf ae;have pL:=ai qg1;clear qg1;obtain⟨s0,bf,s1,bg,s2,bB⟩:=Hs.out.g3;obtain⟨f0,f1,f2,f3⟩:=Hf.out.c4;obtain⟨g10,g11,g12,g13,g14,g15⟩:=pL.out.c6;replace Hb:=aB Hb ae;clear ae;refine aI rfl rfl (λK hK=>?_);go_simp;with_reducible refine(xh s m e s m e P B Bu.out _ 2 39 _ Fe.out Fe.out zo pL.out (by first|exact(HT.out.below Hb.out) |exact aH.drew (HT.out.below Hb.out) |exact aH.alloc (HT.out.below Hb.out) _|exact aH.drew (aH.alloc (HT.out.below Hb.out) _) |exact aH.alloc (aH.drew (HT.out.below Hb.out)) _)).mono ?_
         rintro e w8 ⟨rfl,hq⟩;have ae:Bw W7 w8:=by first|exact hq|exact aW hq
         clear s0 bf s1 bg s2 bB f0 f1 f2 f3 g10 g11 g12 g13 g14 g15;replace Hr:=kB Hr ae;obtain⟨Hs,s0,bf,s1,bg,s2,bB⟩:=aN Hs ae;obtain⟨Hf,f0,f1,f2,f3⟩:=dU Hf ae;obtain⟨pL,g10,g11,g12,g13,g14,g15⟩:=fU pL ae;replace Hb:=aB Hb ae;clear ae;refine hK _ _ (λ_=>⟨s0,s1,s2,f0,f1,f2,f3⟩) ?_;clear hK K;try simp only[UU]
         refine aI rfl rfl (λK hK=>?_);go_simp;refine hK _ _ (λ_=>⟨aL s0,aL s1,aL s2,aL f0,aL f1,aL f2,aL f3⟩) ?_;clear hK K;try simp only[UU]
         refine bV (λW9=>ar W9 (w8.heap.size) 39 [ag (au (dN A)),ah (nt (dN A).natAbs),af (dE A),ag (au (dN P)),ah (nt (dN P).natAbs),af (dE P)]/\Bw w8 W9) (by first|exact fe|exact fg) ?_;rintro W9 ⟨qg2,ae⟩;clear s0 bf s1 bg s2 bB f0 f1 f2 f3 g10 g11 g12 g13 g14 g15;have ans:=Hr.out.lt;have anw:=Hs.out.lt;have avf:=Hf.out.lt;have avg:=pL.out.lt;replace Hr:=kB Hr ae;replace Hs:=kB Hs ae;replace Hf:=kB Hf ae;replace pL:=kB pL ae;have vk:=ai qg2;clear qg2;obtain⟨s0,bf,s1,bg,s2,bB⟩:=Hs.out.g3;obtain⟨f0,f1,f2,f3⟩:=Hf.out.c4;obtain⟨g10,g11,g12,g13,g14,g15⟩:=pL.out.c6;obtain⟨g20,g21,g22,g23,Kl,Km⟩:=vk.out.c6;replace Hb:=aB Hb ae;clear ae;refine aI rfl rfl (λK hK=>?_);go_simp;with_reducible refine(Cq _ _ _ _ _ _ Z (2*B+20000) HZ.out _ 2 39 _ FA.out FP.out zo vk.out (by first|exact(HT.out.below Hb.out) |exact aH.drew (HT.out.below Hb.out) |exact aH.alloc (HT.out.below Hb.out) _|exact aH.drew (aH.alloc (HT.out.below Hb.out) _) |exact aH.alloc (aH.drew (HT.out.below Hb.out)) _)).mono ?_
         rintro e dQ ⟨rfl,hq⟩;have ae:Bw W9 dQ:=by first|exact hq|exact aW hq
         clear s0 bf s1 bg s2 bB f0 f1 f2 f3 g10 g11 g12 g13 g14 g15 g20 g21 g22 g23 Kl Km;replace Hr:=kB Hr ae;obtain⟨Hs,s0,bf,s1,bg,s2,bB⟩:=aN Hs ae;obtain⟨Hf,f0,f1,f2,f3⟩:=dU Hf ae;obtain⟨pL,g10,g11,g12,g13,g14,g15⟩:=fU pL ae;obtain⟨vk,g20,g21,g22,g23,Kl,Km⟩:=fU vk ae;replace Hb:=aB Hb ae;clear ae;refine hK _ _ (λ_=>⟨s0,s1,s2,f0,f1,f2,f3⟩) ?_;clear hK K;try simp only[UU]
         refine aI rfl rfl (λK hK=>?_);go_simp;refine hK _ _ (λh=>absurd h zd) ?_;clear hK K;try simp only[UU]
         clear s0 bf s1 bg s2 bB f0 f1 f2 f3 g10 g11 g12 g13 g14 g15 g20 g21 g22 g23 Kl Km;refine bV (bC dQ (W.heap.size) 0 (zL3 Z)) bJ ?_;intro VN hs;replace Hr:=kS Hr hs zo;replace Hs:=bP Hs hs;replace Hf:=kS Hf hs zo;replace pL:=kS pL hs zo;replace vk:=kS vk hs zo;obtain⟨s0,bf,s1,bg,s2,bB⟩:=Hs.out.g3;obtain⟨f0,f1,f2,f3⟩:=Hf.out.c4;obtain⟨g10,g11,g12,g13,g14,g15⟩:=pL.out.c6;obtain⟨g20,g21,g22,g23,Kl,Km⟩:=vk.out.c6;replace Hb:=bS Hb hs ZS;clear hs;simp only[bi];go_wp2;go_roundw;case rel=>exact⟨k+1,by omega,by go_num,Hr.out,by rw[Ec.out];exact Hs.out,Hb.out⟩
         case measure=>simp[intOf];omega
       | false=>
         have HZ:Hid (Z=A):=by show _=_;rw[Ed.out];rfl
         clear s0 s1 s2 bf bg bB f0 f1 f2 f3;go_wp2;go_roundw;case rel=>exact⟨k+1,by omega,by go_num,Hr.out,by rw[Ec.out,HZ.out];exact Hs.out,Hb.out⟩
         case measure=>simp[intOf];omega
     . obtain rfl:k=n:=by omega
       obtain⟨Hr,Hs,Hb⟩:=cL pr ps' pb;clear pr ps' pb;go_wp2;go_roundw;case rel=>exact⟨j+1,by omega,by go_num,Hr.out,by rw[nE.out];exact Hs.out,Hb.out⟩
       case measure=>simp[intOf];omega
  . obtain rfl:j=L:=by omega
    obtain⟨Y,hY⟩:=aG (S j);obtain⟨HY,Hr,Hb⟩:=cL hY pr pb;have Hs:Hid (ar wr W.heap.size 39 (zL3 Y)):=by rw[<-hY];exact ps'
    clear pr ps' pb hY;obtain⟨r0,aj,r1,ak,r2,aF⟩:=Hr.out.g3;obtain⟨s0,s1,s2⟩:=Hs.out.c3;go_wp2;clear r0 aj r1 ak r2 aF s0 s1 s2;refine dW (bC wr (w.heap.size) 0 (zL3 Y)) bJ ?_;intro w9 hs;replace Hr:=bP Hr hs;replace Hs:=kS Hs hs zo;obtain⟨r0,aj,r1,ak,r2,aF⟩:=Hr.out.g3;obtain⟨s0,s1,s2⟩:=Hs.out.c3;replace Hb:=bS Hb hs ZS;clear hs;refine bodyPost_ret (v:=bL Y) (by simp[results,Tryz.results57,go_sem,r0,r1,r2]) rfl ⟨by rw[HY.out],Hb.out⟩
def wH (k:Nat):Dyadic:=Dyadic.ofIntWithPrec (2^k) 0
theorem acK (D:Dyadic)(k:Nat):az (au (dN D),nt (dN D).natAbs,dE D+(k:Int))=D*wH k:=by
 have h:=bD D;unfold az canon at h;unfold az wH;simp only[eX]at h⊢;conv=>rhs;rw[<-h]
 rw[wj,<-tO (dN D) k (-(dE D+k))];congr 1;omega
theorem adt (k:Nat):Sm (k+1) (wH k):=by
 refine⟨2^k*2^(k+1),?_,?_⟩
 . unfold wH;have:=tO (2^k) (k+1) 0;rw[<-this];congr 1;omega
 . rw[Int.natAbs_mul,Int.natAbs_pow,Int.natAbs_pow,<-Nat.pow_add];exact Nat.pow_lt_pow_right zd zo
theorem ade :Sm 2 (Dyadic.ofIntWithPrec 3 0):=by refine⟨12,?_,by decide⟩;have:=tO 3 2 0;rw[<-this];rfl
def pq (X:Dyadic):Nat->Dyadic
 |0=>X
 |k+1=>pq X k*Dyadic.ofIntWithPrec 3 0
def pE (Y:Dyadic):Nat->Dyadic
 |0=>Y
 |k+1=>pE Y k*wH 2
theorem RO {B:Nat}{X:Dyadic}(h:Sm B X)(k:Nat):Sm (B+2*k) (pq X k):=by
 induction k with
 |zero=>exact h
 |succ k ih=>exact(Sm.mul ih ade).mono zo
theorem SV {B:Nat}{X:Dyadic}(h:Sm B X)(k:Nat):Sm (B+3*k) (pE X k):=by
 induction k with
 |zero=>exact h
 |succ k ih=>exact(Sm.mul ih (adt 2)).mono zo
def sk (X Y:Dyadic)(k:Nat):Bool:=decide (bA (pq X k-pE Y k)<0)
def vv (w:World)(lb rb:Nat)(X Y:Dyadic)(k:Nat):Prop:=ar w lb 39 (bI (canon (pq X k)))/\ar w rb 39 (bI (canon (pE Y k)))/\lb≠rb
theorem vv.below {w w':World}{lb rb k:Nat}{X Y:Dyadic}(h:vv w lb rb X Y k)(hb:Bw w w'):vv w' lb rb X Y k:=⟨h.1.below hb,h.2.1.below hb,h.2.2⟩
theorem aqh (lb rb B k:Nat)(X Y:Dyadic)(w:World)(hX:Sm B X)(hY:Sm B Y)(hB:B<=1000000)(hk:k<=2000)(hT:aH w)(hJ:vv w lb rb X Y k):
 Calls Tryz.prog 58 #[.pointer (some ⟨lb,0,none⟩),.pointer (some ⟨rb,0,none⟩)] w λe w'=>e=.returned (ag (sk X Y k))/\Bw w w':=by
 obtain⟨h1,h2,_⟩:=hJ;have hx:=RO hX k;have hy:=SV hY k;unfold sk;obtain⟨L,hL⟩:=aG (pq X k);obtain⟨R,hR⟩:=aG (pE Y k);rw[hL]at h1 hx⊢;rw[hR]at h2 hy⊢;obtain⟨c,hc⟩:=aG (bA (L-R));rw[hc];have Hc:Hid (bA (az (zT3 L)-az (zT3 R))=c):=by show bA (az (canon L)-az (canon R))=c;rw[bD,bD];exact hc
 have FL:Hid (Ok (zT3 L)):=(hx.fit zo).1;have FR:Hid (Ok (zT3 R)):=(hy.fit zo).1;have Hl:Hid (ar w lb 39 (zL3 L)):=h1;have Hr:Hid (ar w rb 39 (zL3 R)):=h2;have HT:=ai hT;clear h1 h2 hx hy hc hL hR hT hX hY;have Hb:Hid (Bw w w):=Below.refl _ _;go_enter Tryz.func58,Tryz.ntmps58;obtain⟨l0,l1,l2⟩:=Hl.out.c3;obtain⟨r0,r1,r2⟩:=Hr.out.c3;go_wp2_with fail;refine(vD _ _ _ _ _ _ c Hc.out _ FL.out FR.out (HT.out.below Hb.out)).mono ?_;rintro e w1 ⟨rfl,ae⟩;clear l0 l1 l2 r0 r1 r2;obtain⟨Hl,l0,l1,l2⟩:=aQ Hl ae;obtain⟨Hr,r0,r1,r2⟩:=aQ Hr ae;replace Hb:=aB Hb ae;clear ae;go_wp2;refine bodyPost_ret (results_tmp rfl _ _ _) rfl ⟨rfl,Hb.out⟩
theorem aqo (lb rb B k:Nat)(X Y:Dyadic)(v0 w:World)(hv:Bw v0 w)(hX:Sm B X)(hY:Sm B Y)(hB:B<=1000000)(hk:k<=2000)(hT:aH v0)(hl:v0.heap.size<=lb)(hr:v0.heap.size<=rb)(hJ:vv w lb rb X Y k):
 Calls Tryz.prog 59 #[.pointer (some ⟨lb,0,none⟩),.pointer (some ⟨rb,0,none⟩)] w λe w'=>e=.returned (.tuple #[])/\vv w' lb rb X Y (k+1)/\Bw v0 w':=by
 obtain⟨h1,h2,hne⟩:=hJ;have hx:=RO hX k;have hy:=SV hY k;have hx2:pq X (k+1)=pq X k*Dyadic.ofIntWithPrec 3 0:=rfl;have hy2:pE Y (k+1)=pE Y k*wH 2:=rfl;unfold vv;obtain⟨L,hL⟩:=aG (pq X k);obtain⟨R,hR⟩:=aG (pE Y k);obtain⟨L2,hL2⟩:∃L,pq X (k+1)=L:=⟨_,rfl⟩;obtain⟨R2,FD⟩:∃R,pE Y (k+1)=R:=⟨_,rfl⟩;rw[hL]at h1 hx hx2;rw[hR]at h2 hy hy2;rw[hL2]at hx2⊢;rw[FD]at hy2⊢;obtain⟨E,hE⟩:=aG (Dyadic.ofIntWithPrec 3 0);have XH:Sm 2 E:=by rw[<-hE];exact ade
 rw[hE]at hx2;have HE:=ai hE;have HL:Hid (az (zT3 L) *az (zT3 E)=L2):=by show az (canon L) *az (canon E)=L2;rw[bD,bD];exact hx2.symm
 have HR:Hid (az (au (dN R),nt (dN R).natAbs,dE R+2)=R2):=by rw[hy2];exact acK R 2
 have FL:Hid (Fit (B+6000) (zT3 L)):=(hx.mono zo).fit zo;have FE:Hid (Fit (B+6000) (zT3 E)):=(XH.mono zo).fit zo;have FR:Hid (Ok (zT3 R)):=(hy.fit zo).1;have Hl:Hid (ar w lb 39 (zL3 L)):=h1;have Hr:Hid (ar w rb 39 (zL3 R)):=h2;have HT:=ai hT;have ll:=h1.lt;have lr:=h2.lt;clear h1 h2 hx hy hx2 hy2 hL hR hL2 FD hT hX hY hE XH;have Hb:Hid (Bw v0 w):=hv;clear hv;go_enter Tryz.func59,Tryz.ntmps59;obtain⟨l0,iX,l1,iY,l2,rO⟩:=Hl.out.g3;obtain⟨r0,aj,r1,ak,r2,aF⟩:=Hr.out.g3;go_wp2_with fail;refine bR (λw'=>aC w' lb 0 (ag (au (dN L)))/\aC w' lb 1 (ah (nt (dN L).natAbs))/\aC w' lb 2 (af (dE L))/\aC w' rb 0 (ag (au (dN R)))/\aC w' rb 1 (ah (nt (dN R).natAbs))/\aC w' rb 2 (af (dE R))) (λi=>Nat.blt i 6) [(0,true),(4,true),(1,false),(2,false),(3,false),(5,false),(6,false),(7,false)] zk zk rfl zk zc ⟨l0,l1,l2,r0,r1,r2⟩ ?_;iterate 2 (refine pT rfl rfl ?_ (by intro w' ⟨q0,q1,q2,q3,q4,q5⟩;go_simp;try with_reducible rfl);try simp only[UU])
 refine aI rfl rfl (λK hK=>?_);go_simp;with_reducible refine(xj 3 E HE.out _ zd (by first|exact(HT.out.below Hb.out) |exact aH.drew (HT.out.below Hb.out) |exact aH.alloc (HT.out.below Hb.out) _|exact aH.drew (aH.alloc (HT.out.below Hb.out) _) |exact aH.alloc (aH.drew (HT.out.below Hb.out)) _)).mono ?_
 rintro e w1 ⟨rfl,hq⟩;have ae:Bw w w1:=by first|exact hq|exact aW hq
 clear l0 iX l1 iY l2 rO r0 aj r1 ak r2 aF;obtain⟨Hl,l0,iX,l1,iY,l2,rO⟩:=aN Hl ae;obtain⟨Hr,r0,aj,r1,ak,r2,aF⟩:=aN Hr ae;replace Hb:=aB Hb ae;clear ae;refine hK _ _ (λ_=>⟨l0,l1,l2,r0,r1,r2⟩) ?_;clear hK K;try simp only[UU]
 refine aI rfl rfl (λK hK=>?_);go_simp;refine hK _ _ (λ_=>⟨aL l0,aL l1,aL l2,aL r0,aL r1,aL r2⟩) ?_;clear hK K;try simp only[UU]
 refine bV (λW2=>ar W2 (w1.heap.size) 39 [ag (au (dN L)),ah (nt (dN L).natAbs),af (dE L),ag (au (dN E)),ah (nt (dN E).natAbs),af (dE E)]/\Bw w1 W2) (by first|exact fe|exact fg) ?_;rintro W2 ⟨qu,ae⟩;clear l0 iX l1 iY l2 rO r0 aj r1 ak r2 aF;have avn:=Hl.out.lt;have qK:=Hr.out.lt;replace Hl:=kB Hl ae;replace Hr:=kB Hr ae;have Hu:=ai qu;clear qu;obtain⟨l0,iX,l1,iY,l2,rO⟩:=Hl.out.g3;obtain⟨r0,aj,r1,ak,r2,aF⟩:=Hr.out.g3;obtain⟨u0,u1,u2,u3,u4,u5⟩:=Hu.out.c6;replace Hb:=aB Hb ae;clear ae;refine aI rfl rfl (λK hK=>?_);go_simp;with_reducible refine(xh _ _ _ _ _ _ L2 (B+6000) HL.out w1.heap.size 2 39 _ FL.out FE.out zo Hu.out (by first|exact(HT.out.below Hb.out) |exact aH.drew (HT.out.below Hb.out) |exact aH.alloc (HT.out.below Hb.out) _|exact aH.drew (aH.alloc (HT.out.below Hb.out) _) |exact aH.alloc (aH.drew (HT.out.below Hb.out)) _)).mono ?_
 rintro e w3 ⟨rfl,hq⟩;have ae:Bw W2 w3:=by first|exact hq|exact aW hq
 clear l0 iX l1 iY l2 rO r0 aj r1 ak r2 aF u0 u1 u2 u3 u4 u5;obtain⟨Hl,l0,iX,l1,iY,l2,rO⟩:=aN Hl ae;obtain⟨Hr,r0,aj,r1,ak,r2,aF⟩:=aN Hr ae;obtain⟨Hu,u0,u1,u2,u3,u4,u5⟩:=fU Hu ae;replace Hb:=aB Hb ae;clear ae;refine hK _ _ (λ_=>⟨l0,l1,l2,r0,r1,r2⟩) ?_;clear hK K;try simp only[UU]
 refine aI rfl rfl (λK hK=>?_);go_simp;with_reducible refine(Mh _ _ _ 2 R2 HR.out _ FR.out zd (by first|exact(HT.out.below Hb.out) |exact aH.drew (HT.out.below Hb.out) |exact aH.alloc (HT.out.below Hb.out) _|exact aH.drew (aH.alloc (HT.out.below Hb.out) _) |exact aH.alloc (aH.drew (HT.out.below Hb.out)) _)).mono ?_
 rintro e w4 ⟨rfl,hq⟩;have ae:Bw w3 w4:=by first|exact hq|exact aW hq
 clear l0 iX l1 iY l2 rO r0 aj r1 ak r2 aF u0 u1 u2 u3 u4 u5;obtain⟨Hl,l0,iX,l1,iY,l2,rO⟩:=aN Hl ae;obtain⟨Hr,r0,aj,r1,ak,r2,aF⟩:=aN Hr ae;obtain⟨Hu,u0,u1,u2,u3,u4,u5⟩:=fU Hu ae;replace Hb:=aB Hb ae;clear ae;refine hK _ _ (λ_=>⟨l0,l1,l2,r0,r1,r2⟩) ?_;clear hK K;try simp only[UU]
 refine aI rfl rfl (λK hK=>?_);go_simp;refine hK _ _ (λh=>absurd h zd) ?_;clear hK K;try simp only[UU]
 clear l0 iX l1 iY l2 rO r0 aj r1 ak r2 aF u0 u1 u2 u3 u4 u5;refine bV (bC w4 (lb) 0 (zL3 L2)) bJ ?_;intro W5 hs;replace Hl:=bP Hl hs;replace Hr:=kS Hr hs zo;replace Hu:=kS Hu hs zo;obtain⟨l0,iX,l1,iY,l2,rO⟩:=Hl.out.g3;obtain⟨r0,aj,r1,ak,r2,aF⟩:=Hr.out.g3;obtain⟨u0,u1,u2,u3,u4,u5⟩:=Hu.out.c6;replace Hb:=bS Hb hs ZS;clear hs;refine aI rfl rfl (λK hK=>?_);go_simp;refine hK _ _ (λh=>absurd h zd) ?_;clear hK K;try simp only[UU]
 clear l0 iX l1 iY l2 rO r0 aj r1 ak r2 aF u0 u1 u2 u3 u4 u5;refine bV (bC W5 (rb) 0 (zL3 R2)) bJ ?_;intro W6 hs;replace Hl:=kS Hl hs zo;replace Hr:=bP Hr hs;replace Hu:=kS Hu hs zo;obtain⟨l0,iX,l1,iY,l2,rO⟩:=Hl.out.g3;obtain⟨r0,aj,r1,ak,r2,aF⟩:=Hr.out.g3;obtain⟨u0,u1,u2,u3,u4,u5⟩:=Hu.out.c6;replace Hb:=bS Hb hs ZS;clear hs;simp only[bi];refine bodyPost_end (v:=.tuple #[]) (by simp[results,Tryz.results59,go_sem]) rfl ⟨rfl,⟨Hl.out,Hr.out,hne⟩,Hb.out⟩
end Go.Proofs.YtoopepmmepmfnaaGreatDoor
