/- Package bound: steep. -/
import Derived.Test.YtoopepmmepmfnaaGreatDoorZ16
import Derived.Test.YtoopepmmepmfnaaGreatDoorZ20
import Derived.Test.YtoopepmmepmfnaaGreatDoorZ23
set_option linter.unusedVariables false
set_option linter.unusedSimpArgs false
set_option maxRecDepth 100000
set_option maxHeartbeats 16000000
namespace Go.Proofs.YtoopepmmepmfnaaGreatDoor
open Go.RowKit
attribute [local go_sem ↓] Go.wp_at_zero Go.wp_at_succ
def oU (p:List UInt8->Bool)(X:Dyadic)(ts:List aN):Nat->Dyadic
 |0=>X
 |k+1=>if p (ts.getD k ([],false,[],0)).1 then oU p X ts k+ar (ts.getD k ([],false,[],0)).2*ar (ts.getD k ([],false,[],0)).2 else oU p X ts k
def stA (p:List UInt8->Bool)(T:Nat->List aN):Nat->Dyadic
 |0=>0
 |j+1=>oU p (stA p T j) (T j) (T j).length
theorem Rv {p:List UInt8->Bool}{B C:Nat}{X:Dyadic}{ts:List aN}(hX:Sm C X)(hB:2*B<=C)(h:∀t∈ts,Sm B (ar t.2))(k:Nat):Sm (C+k) (oU p X ts k):=by
 have hg:∀k,Sm B (ar (ts.getD k ([],false,[],0)).2):=λk=>by
  by_cases hk:k<ts.length
  . have e:ts.getD k ([],false,[],0)=ts[k]:=by simp[hk]
    rw[e];exact h _ (List.getElem_mem hk)
  . have e:ts.getD k ([],false,[],0)=([],false,[],0):=by simp[List.getD_eq_getElem?_getD,List.getElem?_eq_none (by omega:ts.length<=k)]
    rw[e];exact Sm.zero _
 induction k with
 |zero=>exact hX
 | succ k ih=>
   unfold oU;split
   . exact Sm.add ih ((Sm.mul (hg k) (hg k)).mono (show B+B<=C+k by omega))
   . exact ih.mono zo
theorem Zc {p:List UInt8->Bool}{B N L:Nat}{T:Nat->List aN}(h:∀j,j<L->(∀t∈T j,Sm B (ar t.2))/\(T j).length<=N)(j:Nat)(hj:j<=L):Sm (2*B+j*N) (stA p T j):=by
 induction j with
 |zero=>exact Sm.zero _
 |succ j ih=>obtain⟨h1,h2⟩:=h j zo;have:=Rv (p:=p) (ih zo) zo h1 (T j).length;exact this.mono (by rw[Nat.add_mul];omega)
theorem amd (p:List UInt8->Bool)(a:Option Addr)(L cap V B:Nat)(ps:List Pv)(T:Nat->List aN)(w:World)(hL:ps.length=L)(hl:L<=100)(hV:V<=12)(ha:At w a (ps.flatMap jb))(hP:gG w V B ps T)(hB:B<=1000000)(hp:∀j,j<L->∀t∈T j,(im t.1=1↔p t.1=true))(hN:∀j,j<L->(T j).length<=100)(hT:az w):
 Calls Tryz.prog 57 #[.slice a L cap] w λe w'=>e=.returned (bK (stA p T L))/\Bw w w':=by
 have hfit:∀j,j<L->(∀t∈T j,Sm B (ar t.2))/\(T j).length<=100:=λj hj=>by obtain⟨_,_,_,_,h⟩:=hP j zo;exact⟨λt ht=>(h.2 t ht).2,hN j hj⟩
 have hsm:=λj (hj:j<=L)=>Zc (p:=p) hfit j hj;have Gm:=λj (hj:j<L) k=>Rv (p:=p) (hsm j zo) zo (hfit j hj).1 k;have hst:∀j,stA p T (j+1)=oU p (stA p T j) (T j) (T j).length:=λj=>rfl;have Nb:stA p T 0=0:=rfl;obtain⟨S,hS⟩:=aB (stA p T);simp only[hS]at hsm Gm hst Nb;rw[hS];have pH:∀X ts k,oU p X ts (k+1)=if p (ts.getD k ([],false,[],0)).1 then oU p X ts k+ar (ts.getD k ([],false,[],0)).2*ar (ts.getD k ([],false,[],0)).2 else oU p X ts k:=λX ts k=>rfl
 have Mj:∀X ts,oU p X ts 0=X:=λX ts=>rfl;obtain⟨Q,hQ⟩:=aB (oU p);simp only[hQ]at Gm hst pH Mj;obtain⟨oO,acU,cn,acW,Aj,aa3,Ha,HP,Hp,HT,HL,HNl⟩:=iJ hsm Gm hst Nb pH Mj ha hP hp hT hL hN;clear hsm Gm hst Nb pH Mj ha hP hp hT hL hS hQ hfit hN;obtain⟨W,bY,Hb,Hr⟩:=gh w 39 [.bool false,.string ⟨#[]⟩,.int .i64 0];obtain⟨r0,ag,r1,ah,r2,au⟩:=Hr.out.g3;go_enter Tryz.func57,Tryz.ntmps57;have ov:=Hr.out.lt;obtain⟨W2,lQ,ae,Hs⟩:=cf W 39 [.bool false,.string ⟨#[]⟩,.int .i64 0];clear r0 ag r1 ah r2 au;replace Hr:=kB Hr ae;obtain⟨r0,ag,r1,ah,r2,au⟩:=Hr.out.g3;obtain⟨s0,aZ,s1,bf,s2,bE⟩:=Hs.out.g3;replace Hb:=ak Hb ae;clear ae;go_wp2_with fail;clear r0 ag r1 ah r2 au s0 aZ s1 bf s2 bE;first|refine bP (aW W2 (W.heap.size) 0 [.bool false,.string ⟨#[]⟩,.int .i64 0]) bi ?_|refine bO (aW W2 (W.heap.size) 0 [.bool false,.string ⟨#[]⟩,.int .i64 0]) bi ?_
 intro W3 hs;replace Hr:=kS Hr hs zo;replace Hs:=bF Hs hs;obtain⟨r0,ag,r1,ah,r2,au⟩:=Hr.out.g3;obtain⟨s0,aZ,s1,bf,s2,bE⟩:=Hs.out.g3;replace Hb:=bS Hb hs ZS;clear hs;have lr:=Hr.out.lt;have ls:=Hs.out.lt;go_wp2_with fail;clear r0 r1 r2 ag ah au s0 s1 s2 aZ bf bE;have hws:w.heap.size<W.heap.size:=by omega
 go_loopw[11] (λx wr=>∃j:Nat,j<=L/\x=.int .i64 (j:Int)/\aj wr w.heap.size 39 [.bool false,.string ⟨#[]⟩,.int .i64 0]/\aj wr W.heap.size 39 (cg (canon (S j)))/\Bw w wr) (λx _=>L-(intOf x).toNat);case atStart=>exact⟨0,Nat.zero_le _,rfl,Hr.out,by rw[acW.out];exact Hs.out,Hb.out⟩
 case round=>
  clear Hr Hs Hb;obtain⟨j,hj,rfl,pr,ps',pb⟩:=hrel;by_cases hlt:j<L
  . obtain⟨pa,pc,VW,MO,hft⟩:=HP.out j (by rw[HL.out];exact hlt);obtain⟨b,o,hab,hwn⟩:=(Ha.out.below pb).arh j (by rw[HL.out];exact hlt) VW;have bD:=wW L cap j (j:Int) hab hlt rfl;obtain⟨ts,hts⟩:=aB (T j);obtain⟨n,hn⟩:=aB ts.length;obtain⟨Y,hY⟩:=aB (S j);have Vw:=HNl.out j hlt;have hs1:=acU.out j hlt;have hnx:=cn.out j;have fP:=Hp.out j hlt;rw[hts]at MO hft Vw hnx fP;rw[hY]at hnx ps';simp only[hts,hY]at hs1;rw[hts,hn]at hwn;rw[hn]at Vw hnx;obtain⟨eD,Qv,Hs1,mH,yb,Hn,Hr,Hs,Hb⟩:=CO MO.1 hft hs1 hnx fP hn pr ps' pb;have Hu:Hid (bN wr b (o+j*2) [.int .i64 (V:Int),.slice pa n pc]):=hwn;have hsz:=pb.size;have hsl:=ps'.lt;clear MO hft hs1 hnx fP hn pr ps' pb hwn hab VW hts hY;obtain⟨u0,u1⟩:=Hu.out.w2;have Ku0:=u0;have Ku1:=u1;have GD:=Hr.out.lt;have ajq:=Hs.out.lt;obtain⟨W4,jX,ae,Hq⟩:=cf wr 91 [.int .i64 (V:Int),.slice pa n pc];replace Hr:=kB Hr ae;replace Hs:=kB Hs ae;clear u0 u1;replace Hu:=kW Hu ae;obtain⟨u0,u1⟩:=Hu.out.w2;obtain⟨q0,q1⟩:=Hq.out.c2;replace Hb:=ak Hb ae;clear ae;have Hj:=af hj;obtain⟨wo,hwo⟩:∃wo,wo=wr:=⟨_,rfl⟩;subst hwo;go_wp2_with fail;clear Ku0 Ku1 u0 u1 q0 q1 bD Hq Hu;go_loopw[18] (λx wr=>∃k:Nat,k<=n/\x=.int .i64 (k:Int)/\aj wr w.heap.size 39 [.bool false,.string ⟨#[]⟩,.int .i64 0]/\aj wr W.heap.size 39 (cg (canon (Q Y ts k)))/\Bw w wr) (λx _=>n-(intOf x).toNat);case atStart=>exact⟨0,Nat.zero_le _,rfl,Hr.out,by rw[aa3.out];exact Hs.out,Hb.out⟩
    case round=>
     clear Hr Hs Hb;obtain⟨k,hk,rfl,pr,ps',pb⟩:=hrel;by_cases bL:k<n
     . have eu:k<ts.length:=by rw[Hn.out];exact bL
       obtain⟨l,s,m,e,hx⟩:∃l s m e,ts[k]=(l,s,m,e):=⟨_,_,_,_,rfl⟩;obtain⟨b2,o2,lS,hw2⟩:=(eD.out.below pb).term k eu hx;have jZ:=rH n pc k (k:Int) lS bL rfl;have hmem:(l,s,m,e)∈ts:=by rw[<-hx];exact List.getElem_mem eu
       have jo:=Qv.out.1.2.1 _ hmem;have Cl:=Qv.out.2 _ hmem;have rD:=yb.out _ hmem;have pH:=Aj.out Y ts k;have kQ:ts.getD k ([],false,[],0)=(l,s,m,e):=by rw[<-hx];simp[eu]
       rw[kQ]at pH;dsimp only at jo Cl rD pH;obtain⟨A,hA⟩:=aB (Q Y ts k);obtain⟨Z,hZ⟩:=aB (Q Y ts (k+1));obtain⟨P,hP⟩:=aB (ar (s,m,e) *ar (s,m,e));have kO:=Hs1.out k;rw[hA]at ps' pH kO;rw[hZ,hP]at pH;have FA:Hid (Fit (2*B+20000) (ai (dN A),nt (dN A).natAbs,dE A)):=(kO.mono zo).fit zo;have yK:Sm (2*B+20000) P:=by rw[<-hP];exact(Sm.mul Cl.2 Cl.2).mono zo
       have FP:Hid (Fit (2*B+20000) (ai (dN P),nt (dN P).natAbs,dE P)):=yK.fit zo;unfold fY at jo;rw[Bool.and_eq_true,List.all_eq_true]at jo;have Mn:=λW=>afJ l W (by have:=of_decide_eq_true jo.2;omega) (λc hc=>of_decide_eq_true (jo.1 c hc));obtain⟨g,hg⟩:=aB (im l);rw[hg]at rD;simp only[hg]at Mn;obtain⟨c,hc⟩:=aB (p l);rw[hc]at rD pH;have hgt:((g:Int)==1)=c:=by
        cases c with
        |true=>have:=rD.2 rfl;subst this;rfl
        | false=>
          have:¬g=1:=λh=>by have:=rD.1 h;cases this
          simp;omega
       obtain⟨tZ,DG,Qb,Qc,Fe,abo,Hr,Hb⟩:=mo hw2 hP hZ pH Cl Mn pr pb;have Hs:Hid (aj wr W.heap.size 39 [.bool (ai (dN A)),.string (bs (nt (dN A).natAbs)),.int .i64 (dE A)]):=ps';have Hv:Hid (bN wr b2 (o2+k*4) [.string (bs l),.bool s,.string (bs m),.int .i64 e]):=hw2;have aoW:=pb.size;have aoV:=ps'.lt;clear hw2 lS hmem jo Cl rD pH kQ hA hZ hP kO yK hg hc hx pr ps' pb Mn tZ;obtain⟨s0,aZ,s1,bf,s2,bE⟩:=Hs.out.g3;obtain⟨v0,v1,v2,v3⟩:=Hv.out.w4;have Kv0:=v0;have Kv1:=v1;have Kv2:=v2;have Kv3:=v3;have GF:=Hr.out.lt;have aqc:=Hs.out.lt;obtain⟨W5,Fx,ae,Hf⟩:=cf wr 93 [.string (bs l),.bool s,.string (bs m),.int .i64 e];replace Hr:=kB Hr ae;clear s0 aZ s1 bf s2 bE;replace Hs:=kB Hs ae;clear v0 v1 v2 v3;replace Hv:=kW Hv ae;obtain⟨s0,aZ,s1,bf,s2,bE⟩:=Hs.out.g3;obtain⟨v0,v1,v2,v3⟩:=Hv.out.w4;obtain⟨f0,f1,f2,f3⟩:=Hf.out.c4;replace Hb:=ak Hb ae;clear ae;go_wp2_with fail;refine(abo.out _).mono ?_;rintro e w6 ⟨rfl,ae⟩;clear s0 aZ s1 bf s2 bE v0 v1 v2 v3 f0 f1 f2 f3;replace Hr:=kB Hr ae;replace Hs:=kB Hs ae;replace Hv:=kW Hv ae;replace Hf:=kB Hf ae;obtain⟨s0,aZ,s1,bf,s2,bE⟩:=Hs.out.g3;obtain⟨v0,v1,v2,v3⟩:=Hv.out.w4;obtain⟨f0,f1,f2,f3⟩:=Hf.out.c4;replace Hb:=ak Hb ae;clear ae Kv0 Kv1 Kv2 Kv3 v0 v1 v2 v3 Hv jZ;cases c with
       | true=>
         have HZ:Hid (ar (ai (dN A),nt (dN A).natAbs,dE A)+ar (ai (dN P),nt (dN P).natAbs,dE P)=Z):=by
          show ar (canon A)+ar (canon P)=Z
          rw[bM,bM,Qc.out,if_pos rfl]
         go_wp2_with fail;refine cd (λw'=>w'.cell? ⟨W.heap.size,0,none⟩=some (.bool (ai (dN A)))/\w'.cell? ⟨W.heap.size,1,none⟩=some (.string (bs (nt (dN A).natAbs)))/\w'.cell? ⟨W.heap.size,2,none⟩=some (.int .i64 (dE A))/\w'.cell? ⟨wr.heap.size,0,none⟩=some (.string (bs l))/\w'.cell? ⟨wr.heap.size,1,none⟩=some (.bool s)/\w'.cell? ⟨wr.heap.size,2,none⟩=some (.string (bs m))/\w'.cell? ⟨wr.heap.size,3,none⟩=some (.int .i64 e)) (λi=>Nat.blt i 9) [(0,true),(1,true),(2,true),(3,true),(4,true),(5,false),(6,false),(7,false),(8,false),(9,false)] zk zk rfl zk zc ⟨s0,s1,s2,f0,f1,f2,f3⟩ ?_;iterate 5 (refine pT rfl rfl ?_ (by intro w' ⟨q0,q1,q2,q3,q4,q5,q6⟩;go_simp;try with_reducible rfl);try simp only[UU])
         refine aC rfl rfl (λK hK=>?_);go_simp;refine hK _ _ (λ_=>⟨aJ s0,aJ s1,aJ s2,aJ f0,aJ f1,aJ f2,aJ f3⟩) ?_;clear hK K;try simp only[UU]
         refine bJ (λW7=>aj W7 (w6.heap.size) 39 [.bool s,.string (bs m),.int .i64 e,.bool s,.string (bs m),.int .i64 e]/\Bw w6 W7) (by first|exact cZ|exact df) ?_;rintro W7 ⟨Yg,ae⟩;clear s0 aZ s1 bf s2 bE f0 f1 f2 f3;have ap7:=Hr.out.lt;have aqe:=Hs.out.lt;have apG:=Hf.out.lt;replace Hr:=kB Hr ae;replace Hs:=kB Hs ae;replace Hf:=kB Hf ae;have kE:=af Yg;clear Yg;obtain⟨s0,aZ,s1,bf,s2,bE⟩:=Hs.out.g3;obtain⟨f0,f1,f2,f3⟩:=Hf.out.c4;obtain⟨g10,g11,g12,g13,g14,g15⟩:=kE.out.c6;replace Hb:=ak Hb ae;clear ae;refine aC rfl rfl (λK hK=>?_);go_simp;with_reducible refine(pj s m e s m e P B DG.out _ 2 39 _ Fe.out Fe.out zo kE.out (by first|exact(HT.out.below Hb.out) |exact az.drew (HT.out.below Hb.out) |exact az.alloc (HT.out.below Hb.out) _|exact az.drew (az.alloc (HT.out.below Hb.out) _) |exact az.alloc (az.drew (HT.out.below Hb.out)) _)).mono ?_
         rintro e w8 ⟨rfl,hq⟩;have ae:Bw W7 w8:=by first|exact hq|exact aO hq
         clear s0 aZ s1 bf s2 bE f0 f1 f2 f3 g10 g11 g12 g13 g14 g15;replace Hr:=kB Hr ae;replace Hs:=kB Hs ae;replace Hf:=kB Hf ae;replace kE:=kB kE ae;obtain⟨s0,aZ,s1,bf,s2,bE⟩:=Hs.out.g3;obtain⟨f0,f1,f2,f3⟩:=Hf.out.c4;obtain⟨g10,g11,g12,g13,g14,g15⟩:=kE.out.c6;replace Hb:=ak Hb ae;clear ae;refine hK _ _ (λ_=>⟨s0,s1,s2,f0,f1,f2,f3⟩) ?_;clear hK K;try simp only[UU]
         refine aC rfl rfl (λK hK=>?_);go_simp;refine hK _ _ (λ_=>⟨aJ s0,aJ s1,aJ s2,aJ f0,aJ f1,aJ f2,aJ f3⟩) ?_;clear hK K;try simp only[UU]
         refine bJ (λW9=>aj W9 (w8.heap.size) 39 [.bool (ai (dN A)),.string (bs (nt (dN A).natAbs)),.int .i64 (dE A),.bool (ai (dN P)),.string (bs (nt (dN P).natAbs)),.int .i64 (dE P)]/\Bw w8 W9) (by first|exact cZ|exact df) ?_;rintro W9 ⟨Yh,ae⟩;clear s0 aZ s1 bf s2 bE f0 f1 f2 f3 g10 g11 g12 g13 g14 g15;have ajo:=Hr.out.lt;have ajr:=Hs.out.lt;have Xg:=Hf.out.lt;have apH:=kE.out.lt;replace Hr:=kB Hr ae;replace Hs:=kB Hs ae;replace Hf:=kB Hf ae;replace kE:=kB kE ae;have qQ:=af Yh;clear Yh;obtain⟨s0,aZ,s1,bf,s2,bE⟩:=Hs.out.g3;obtain⟨f0,f1,f2,f3⟩:=Hf.out.c4;obtain⟨g10,g11,g12,g13,g14,g15⟩:=kE.out.c6;obtain⟨g20,g21,g22,g23,EW,EX⟩:=qQ.out.c6;replace Hb:=ak Hb ae;clear ae;refine aC rfl rfl (λK hK=>?_);go_simp;with_reducible refine(yz _ _ _ _ _ _ Z (2*B+20000) HZ.out _ 2 39 _ FA.out FP.out zo qQ.out (by first|exact(HT.out.below Hb.out) |exact az.drew (HT.out.below Hb.out) |exact az.alloc (HT.out.below Hb.out) _|exact az.drew (az.alloc (HT.out.below Hb.out) _) |exact az.alloc (az.drew (HT.out.below Hb.out)) _)).mono ?_
         rintro e cN ⟨rfl,hq⟩;have ae:Bw W9 cN:=by first|exact hq|exact aO hq
         clear s0 aZ s1 bf s2 bE f0 f1 f2 f3 g10 g11 g12 g13 g14 g15 g20 g21 g22 g23 EW EX;replace Hr:=kB Hr ae;replace Hs:=kB Hs ae;replace Hf:=kB Hf ae;replace kE:=kB kE ae;replace qQ:=kB qQ ae;obtain⟨s0,aZ,s1,bf,s2,bE⟩:=Hs.out.g3;obtain⟨f0,f1,f2,f3⟩:=Hf.out.c4;obtain⟨g10,g11,g12,g13,g14,g15⟩:=kE.out.c6;obtain⟨g20,g21,g22,g23,EW,EX⟩:=qQ.out.c6;replace Hb:=ak Hb ae;clear ae;refine hK _ _ (λ_=>⟨s0,s1,s2,f0,f1,f2,f3⟩) ?_;clear hK K;try simp only[UU]
         refine aC rfl rfl (λK hK=>?_);go_simp;refine hK _ _ (λh=>absurd h zd) ?_;clear hK K;try simp only[UU]
         clear s0 aZ s1 bf s2 bE f0 f1 f2 f3 g10 g11 g12 g13 g14 g15 g20 g21 g22 g23 EW EX;refine bJ (aW cN (W.heap.size) 0 [.bool (ai (dN Z)),.string (bs (nt (dN Z).natAbs)),.int .i64 (dE Z)]) bi ?_;intro il hs;replace Hr:=kS Hr hs zo;replace Hs:=bF Hs hs;replace Hf:=kS Hf hs zo;replace kE:=kS kE hs zo;replace qQ:=kS qQ hs zo;obtain⟨s0,aZ,s1,bf,s2,bE⟩:=Hs.out.g3;obtain⟨f0,f1,f2,f3⟩:=Hf.out.c4;obtain⟨g10,g11,g12,g13,g14,g15⟩:=kE.out.c6;obtain⟨g20,g21,g22,g23,EW,EX⟩:=qQ.out.c6;replace Hb:=bS Hb hs ZS;clear hs;simp only[aV];go_wp2;go_roundw;case rel=>exact⟨k+1,by omega,by go_num,Hr.out,by rw[Qb.out];exact Hs.out,Hb.out⟩
         case measure=>simp[intOf];omega
       | false=>
         have HZ:Hid (Z=A):=by show _=_;rw[Qc.out];rfl
         clear s0 s1 s2 aZ bf bE f0 f1 f2 f3;go_wp2;go_roundw;case rel=>exact⟨k+1,by omega,by go_num,Hr.out,by rw[Qb.out,HZ.out];exact Hs.out,Hb.out⟩
         case measure=>simp[intOf];omega
     . obtain rfl:k=n:=by omega
       obtain⟨Hr,Hs,Hb⟩:=cC pr ps' pb;clear pr ps' pb;go_wp2;go_roundw;case rel=>exact⟨j+1,by omega,by go_num,Hr.out,by rw[mH.out];exact Hs.out,Hb.out⟩
       case measure=>simp[intOf];omega
  . obtain rfl:j=L:=by omega
    obtain⟨Y,hY⟩:=aB (S j);obtain⟨HY,Hr,Hb⟩:=cC hY pr pb;have Hs:Hid (aj wr W.heap.size 39 [.bool (ai (dN Y)),.string (bs (nt (dN Y).natAbs)),.int .i64 (dE Y)]):=by rw[<-hY];exact ps'
    clear pr ps' pb hY;obtain⟨r0,ag,r1,ah,r2,au⟩:=Hr.out.g3;obtain⟨s0,s1,s2⟩:=Hs.out.c3;go_wp2;clear r0 ag r1 ah r2 au s0 s1 s2;refine dw (aW wr (w.heap.size) 0 [.bool (ai (dN Y)),.string (bs (nt (dN Y).natAbs)),.int .i64 (dE Y)]) bi ?_;intro w9 hs;replace Hr:=bF Hr hs;replace Hs:=kS Hs hs zo;obtain⟨r0,ag,r1,ah,r2,au⟩:=Hr.out.g3;obtain⟨s0,s1,s2⟩:=Hs.out.c3;replace Hb:=bS Hb hs ZS;clear hs;refine bodyPost_ret (v:=bK Y) (by simp[results,Tryz.results57,go_sem,r0,r1,r2]) rfl ⟨by rw[HY.out],Hb.out⟩
def vw (k:Nat):Dyadic:=Dyadic.ofIntWithPrec (2^k) 0
theorem YL (D:Dyadic)(k:Nat):ar (ai (dN D),nt (dN D).natAbs,dE D+(k:Int))=D*vw k:=by
 have h:=bM D;unfold ar canon at h;unfold ar vw;simp only[dz]at h⊢;conv=>rhs;rw[<-h]
 rw[vk,<-pW (dN D) k (-(dE D+k))];congr 1;omega
theorem ZF (k:Nat):Sm (k+1) (vw k):=by
 refine⟨2^k*2^(k+1),?_,?_⟩
 . unfold vw;have:=pW (2^k) (k+1) 0;rw[<-this];congr 1;omega
 . rw[Int.natAbs_mul,Int.natAbs_pow,Int.natAbs_pow,<-Nat.pow_add];exact Nat.pow_lt_pow_right zd zo
theorem Zq :Sm 2 (Dyadic.ofIntWithPrec 3 0):=by refine⟨12,?_,by decide⟩;have:=pW 3 2 0;rw[<-this];rfl
def tq (X:Dyadic):Nat->Dyadic
 |0=>X
 |k+1=>tq X k*Dyadic.ofIntWithPrec 3 0
def tJ (Y:Dyadic):Nat->Dyadic
 |0=>Y
 |k+1=>tJ Y k*vw 2
theorem WR {B:Nat}{X:Dyadic}(h:Sm B X)(k:Nat):Sm (B+2*k) (tq X k):=by
 induction k with
 |zero=>exact h
 |succ k ih=>exact(Sm.mul ih Zq).mono zo
theorem YC {B:Nat}{X:Dyadic}(h:Sm B X)(k:Nat):Sm (B+3*k) (tJ X k):=by
 induction k with
 |zero=>exact h
 |succ k ih=>exact(Sm.mul ih (ZF 2)).mono zo
def Dk (X Y:Dyadic)(k:Nat):Bool:=decide (aR (tq X k-tJ Y k)<0)
def sB (w:World)(lb rb:Nat)(X Y:Dyadic)(k:Nat):Prop:=aj w lb 39 (cg (canon (tq X k)))/\aj w rb 39 (cg (canon (tJ Y k)))/\lb≠rb
theorem sB.below {w w':World}{lb rb k:Nat}{X Y:Dyadic}(h:sB w lb rb X Y k)(hb:Bw w w'):sB w' lb rb X Y k:=⟨h.1.below hb,h.2.1.below hb,h.2.2⟩
theorem alN (lb rb B k:Nat)(X Y:Dyadic)(w:World)(hX:Sm B X)(hY:Sm B Y)(hB:B<=1000000)(hk:k<=2000)(hT:az w)(hJ:sB w lb rb X Y k):
 Calls Tryz.prog 58 #[.pointer (some ⟨lb,0,none⟩),.pointer (some ⟨rb,0,none⟩)] w λe w'=>e=.returned (.bool (Dk X Y k))/\Bw w w':=by
 obtain⟨h1,h2,_⟩:=hJ;have hx:=WR hX k;have hy:=YC hY k;unfold Dk;obtain⟨L,hL⟩:=aB (tq X k);obtain⟨R,hR⟩:=aB (tJ Y k);rw[hL]at h1 hx⊢;rw[hR]at h2 hy⊢;obtain⟨c,hc⟩:=aB (aR (L-R));rw[hc];have Hc:Hid (aR (ar (ai (dN L),nt (dN L).natAbs,dE L)-ar (ai (dN R),nt (dN R).natAbs,dE R))=c):=by show aR (ar (canon L)-ar (canon R))=c;rw[bM,bM];exact hc
 have FL:Hid (Ok (ai (dN L),nt (dN L).natAbs,dE L)):=(hx.fit zo).1;have FR:Hid (Ok (ai (dN R),nt (dN R).natAbs,dE R)):=(hy.fit zo).1;have Hl:Hid (aj w lb 39 [.bool (ai (dN L)),.string (bs (nt (dN L).natAbs)),.int .i64 (dE L)]):=h1;have Hr:Hid (aj w rb 39 [.bool (ai (dN R)),.string (bs (nt (dN R).natAbs)),.int .i64 (dE R)]):=h2;have HT:=af hT;clear h1 h2 hx hy hc hL hR hT hX hY;have Hb:Hid (Bw w w):=Below.refl _ _;go_enter Tryz.func58,Tryz.ntmps58;obtain⟨l0,l1,l2⟩:=Hl.out.c3;obtain⟨r0,r1,r2⟩:=Hr.out.c3;go_wp2_with fail;refine(sH _ _ _ _ _ _ c Hc.out _ FL.out FR.out (HT.out.below Hb.out)).mono ?_;rintro e w1 ⟨rfl,ae⟩;clear l0 l1 l2 r0 r1 r2;replace Hl:=kB Hl ae;replace Hr:=kB Hr ae;obtain⟨l0,l1,l2⟩:=Hl.out.c3;obtain⟨r0,r1,r2⟩:=Hr.out.c3;replace Hb:=ak Hb ae;clear ae;go_wp2;refine bodyPost_ret (results_tmp rfl _ _ _) rfl ⟨rfl,Hb.out⟩
theorem alS (lb rb B k:Nat)(X Y:Dyadic)(v0 w:World)(hv:Bw v0 w)(hX:Sm B X)(hY:Sm B Y)(hB:B<=1000000)(hk:k<=2000)(hT:az v0)(hl:v0.heap.size<=lb)(hr:v0.heap.size<=rb)(hJ:sB w lb rb X Y k):
 Calls Tryz.prog 59 #[.pointer (some ⟨lb,0,none⟩),.pointer (some ⟨rb,0,none⟩)] w λe w'=>e=.returned (.tuple #[])/\sB w' lb rb X Y (k+1)/\Bw v0 w':=by
 obtain⟨h1,h2,hne⟩:=hJ;have hx:=WR hX k;have hy:=YC hY k;have hx2:tq X (k+1)=tq X k*Dyadic.ofIntWithPrec 3 0:=rfl;have hy2:tJ Y (k+1)=tJ Y k*vw 2:=rfl;unfold sB;obtain⟨L,hL⟩:=aB (tq X k);obtain⟨R,hR⟩:=aB (tJ Y k);obtain⟨L2,hL2⟩:∃L,tq X (k+1)=L:=⟨_,rfl⟩;obtain⟨R2,Ca⟩:∃R,tJ Y (k+1)=R:=⟨_,rfl⟩;rw[hL]at h1 hx hx2;rw[hR]at h2 hy hy2;rw[hL2]at hx2⊢;rw[Ca]at hy2⊢;obtain⟨E,hE⟩:=aB (Dyadic.ofIntWithPrec 3 0);have Tw:Sm 2 E:=by rw[<-hE];exact Zq
 rw[hE]at hx2;have HE:=af hE;have HL:Hid (ar (ai (dN L),nt (dN L).natAbs,dE L) *ar (ai (dN E),nt (dN E).natAbs,dE E)=L2):=by show ar (canon L) *ar (canon E)=L2;rw[bM,bM];exact hx2.symm
 have HR:Hid (ar (ai (dN R),nt (dN R).natAbs,dE R+2)=R2):=by rw[hy2];exact YL R 2
 have FL:Hid (Fit (B+6000) (ai (dN L),nt (dN L).natAbs,dE L)):=(hx.mono zo).fit zo;have FE:Hid (Fit (B+6000) (ai (dN E),nt (dN E).natAbs,dE E)):=(Tw.mono zo).fit zo;have FR:Hid (Ok (ai (dN R),nt (dN R).natAbs,dE R)):=(hy.fit zo).1;have Hl:Hid (aj w lb 39 [.bool (ai (dN L)),.string (bs (nt (dN L).natAbs)),.int .i64 (dE L)]):=h1;have Hr:Hid (aj w rb 39 [.bool (ai (dN R)),.string (bs (nt (dN R).natAbs)),.int .i64 (dE R)]):=h2;have HT:=af hT;have ll:=h1.lt;have lr:=h2.lt;clear h1 h2 hx hy hx2 hy2 hL hR hL2 Ca hT hX hY hE Tw;have Hb:Hid (Bw v0 w):=hv;clear hv;go_enter Tryz.func59,Tryz.ntmps59;obtain⟨l0,gJ,l1,gK,l2,nW⟩:=Hl.out.g3;obtain⟨r0,ag,r1,ah,r2,au⟩:=Hr.out.g3;go_wp2_with fail;refine cd (λw'=>w'.cell? ⟨lb,0,none⟩=some (.bool (ai (dN L)))/\w'.cell? ⟨lb,1,none⟩=some (.string (bs (nt (dN L).natAbs)))/\w'.cell? ⟨lb,2,none⟩=some (.int .i64 (dE L))/\w'.cell? ⟨rb,0,none⟩=some (.bool (ai (dN R)))/\w'.cell? ⟨rb,1,none⟩=some (.string (bs (nt (dN R).natAbs)))/\w'.cell? ⟨rb,2,none⟩=some (.int .i64 (dE R))) (λi=>Nat.blt i 6) [(0,true),(4,true),(1,false),(2,false),(3,false),(5,false),(6,false),(7,false)] zk zk rfl zk zc ⟨l0,l1,l2,r0,r1,r2⟩ ?_;iterate 2 (refine pT rfl rfl ?_ (by intro w' ⟨q0,q1,q2,q3,q4,q5⟩;go_simp;try with_reducible rfl);try simp only[UU])
 refine aC rfl rfl (λK hK=>?_);go_simp;with_reducible refine(rf 3 E HE.out _ zd (by first|exact(HT.out.below Hb.out) |exact az.drew (HT.out.below Hb.out) |exact az.alloc (HT.out.below Hb.out) _|exact az.drew (az.alloc (HT.out.below Hb.out) _) |exact az.alloc (az.drew (HT.out.below Hb.out)) _)).mono ?_
 rintro e w1 ⟨rfl,hq⟩;have ae:Bw w w1:=by first|exact hq|exact aO hq
 clear l0 gJ l1 gK l2 nW r0 ag r1 ah r2 au;replace Hl:=kB Hl ae;replace Hr:=kB Hr ae;obtain⟨l0,gJ,l1,gK,l2,nW⟩:=Hl.out.g3;obtain⟨r0,ag,r1,ah,r2,au⟩:=Hr.out.g3;replace Hb:=ak Hb ae;clear ae;refine hK _ _ (λ_=>⟨l0,l1,l2,r0,r1,r2⟩) ?_;clear hK K;try simp only[UU]
 refine aC rfl rfl (λK hK=>?_);go_simp;refine hK _ _ (λ_=>⟨aJ l0,aJ l1,aJ l2,aJ r0,aJ r1,aJ r2⟩) ?_;clear hK K;try simp only[UU]
 refine bJ (λW2=>aj W2 (w1.heap.size) 39 [.bool (ai (dN L)),.string (bs (nt (dN L).natAbs)),.int .i64 (dE L),.bool (ai (dN E)),.string (bs (nt (dN E).natAbs)),.int .i64 (dE E)]/\Bw w1 W2) (by first|exact cZ|exact df) ?_;rintro W2 ⟨qu,ae⟩;clear l0 gJ l1 gK l2 nW r0 ag r1 ah r2 au;have apL:=Hl.out.lt;have ov:=Hr.out.lt;replace Hl:=kB Hl ae;replace Hr:=kB Hr ae;have Hu:=af qu;clear qu;obtain⟨l0,gJ,l1,gK,l2,nW⟩:=Hl.out.g3;obtain⟨r0,ag,r1,ah,r2,au⟩:=Hr.out.g3;obtain⟨u0,u1,u2,u3,u4,u5⟩:=Hu.out.c6;replace Hb:=ak Hb ae;clear ae;refine aC rfl rfl (λK hK=>?_);go_simp;with_reducible refine(pj _ _ _ _ _ _ L2 (B+6000) HL.out w1.heap.size 2 39 _ FL.out FE.out zo Hu.out (by first|exact(HT.out.below Hb.out) |exact az.drew (HT.out.below Hb.out) |exact az.alloc (HT.out.below Hb.out) _|exact az.drew (az.alloc (HT.out.below Hb.out) _) |exact az.alloc (az.drew (HT.out.below Hb.out)) _)).mono ?_
 rintro e w3 ⟨rfl,hq⟩;have ae:Bw W2 w3:=by first|exact hq|exact aO hq
 clear l0 gJ l1 gK l2 nW r0 ag r1 ah r2 au u0 u1 u2 u3 u4 u5;replace Hl:=kB Hl ae;replace Hr:=kB Hr ae;replace Hu:=kB Hu ae;obtain⟨l0,gJ,l1,gK,l2,nW⟩:=Hl.out.g3;obtain⟨r0,ag,r1,ah,r2,au⟩:=Hr.out.g3;obtain⟨u0,u1,u2,u3,u4,u5⟩:=Hu.out.c6;replace Hb:=ak Hb ae;clear ae;refine hK _ _ (λ_=>⟨l0,l1,l2,r0,r1,r2⟩) ?_;clear hK K;try simp only[UU]
 refine aC rfl rfl (λK hK=>?_);go_simp;with_reducible refine(Ib _ _ _ 2 R2 HR.out _ FR.out zd (by first|exact(HT.out.below Hb.out) |exact az.drew (HT.out.below Hb.out) |exact az.alloc (HT.out.below Hb.out) _|exact az.drew (az.alloc (HT.out.below Hb.out) _) |exact az.alloc (az.drew (HT.out.below Hb.out)) _)).mono ?_
 rintro e w4 ⟨rfl,hq⟩;have ae:Bw w3 w4:=by first|exact hq|exact aO hq
 clear l0 gJ l1 gK l2 nW r0 ag r1 ah r2 au u0 u1 u2 u3 u4 u5;replace Hl:=kB Hl ae;replace Hr:=kB Hr ae;replace Hu:=kB Hu ae;obtain⟨l0,gJ,l1,gK,l2,nW⟩:=Hl.out.g3;obtain⟨r0,ag,r1,ah,r2,au⟩:=Hr.out.g3;obtain⟨u0,u1,u2,u3,u4,u5⟩:=Hu.out.c6;replace Hb:=ak Hb ae;clear ae;refine hK _ _ (λ_=>⟨l0,l1,l2,r0,r1,r2⟩) ?_;clear hK K;try simp only[UU]
 refine aC rfl rfl (λK hK=>?_);go_simp;refine hK _ _ (λh=>absurd h zd) ?_;clear hK K;try simp only[UU]
 clear l0 gJ l1 gK l2 nW r0 ag r1 ah r2 au u0 u1 u2 u3 u4 u5;refine bJ (aW w4 (lb) 0 [.bool (ai (dN L2)),.string (bs (nt (dN L2).natAbs)),.int .i64 (dE L2)]) bi ?_;intro W5 hs;replace Hl:=bF Hl hs;replace Hr:=kS Hr hs zo;replace Hu:=kS Hu hs zo;obtain⟨l0,gJ,l1,gK,l2,nW⟩:=Hl.out.g3;obtain⟨r0,ag,r1,ah,r2,au⟩:=Hr.out.g3;obtain⟨u0,u1,u2,u3,u4,u5⟩:=Hu.out.c6;replace Hb:=bS Hb hs ZS;clear hs;refine aC rfl rfl (λK hK=>?_);go_simp;refine hK _ _ (λh=>absurd h zd) ?_;clear hK K;try simp only[UU]
 clear l0 gJ l1 gK l2 nW r0 ag r1 ah r2 au u0 u1 u2 u3 u4 u5;refine bJ (aW W5 (rb) 0 [.bool (ai (dN R2)),.string (bs (nt (dN R2).natAbs)),.int .i64 (dE R2)]) bi ?_;intro W6 hs;replace Hl:=kS Hl hs zo;replace Hr:=bF Hr hs;replace Hu:=kS Hu hs zo;obtain⟨l0,gJ,l1,gK,l2,nW⟩:=Hl.out.g3;obtain⟨r0,ag,r1,ah,r2,au⟩:=Hr.out.g3;obtain⟨u0,u1,u2,u3,u4,u5⟩:=Hu.out.c6;replace Hb:=bS Hb hs ZS;clear hs;simp only[aV];refine bodyPost_end (v:=.tuple #[]) (by simp[results,Tryz.results59,go_sem]) rfl ⟨rfl,⟨Hl.out,Hr.out,hne⟩,Hb.out⟩
end Go.Proofs.YtoopepmmepmfnaaGreatDoor
