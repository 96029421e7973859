/- Package bound: steep. -/
import Derived.Test.YtoopepmmepmfnaaGreatDoorZ16
import Derived.Test.YtoopepmmepmfnaaGreatDoorZ20
import Derived.Test.YtoopepmmepmfnaaGreatDoorZ23
set_option linter.unusedVariables false
set_option linter.unusedSimpArgs false
set_option maxRecDepth 100000
set_option maxHeartbeats 16000000
namespace Go.Proofs.YtoopepmmepmfnaaGreatDoor
open Go.RowKit
attribute [local go_sem ↓] Go.wp_at_zero Go.wp_at_succ
def pj (p:List UInt8->Bool)(X:Dyadic)(ts:List aO):Nat->Dyadic
 |0=>X
 |k+1=>if p (ts.getD k ([],false,[],0)).1 then pj p X ts k+ar (ts.getD k ([],false,[],0)).2*ar (ts.getD k ([],false,[],0)).2 else pj p X ts k
def stA (p:List UInt8->Bool)(T:Nat->List aO):Nat->Dyadic
 |0=>0
 |j+1=>pj p (stA p T j) (T j) (T j).length
theorem Sb {p:List UInt8->Bool}{B C:Nat}{X:Dyadic}{ts:List aO}(hX:Sm C X)(hB:2*B<=C)(h:∀t∈ts,Sm B (ar t.2))(k:Nat):Sm (C+k) (pj p X ts k):=by
 have hg:∀k,Sm B (ar (ts.getD k ([],false,[],0)).2):=λk=>by
  by_cases hk:k<ts.length
  . have e:ts.getD k ([],false,[],0)=ts[k]:=by simp[hk]
    rw[e];exact h _ (List.getElem_mem hk)
  . have e:ts.getD k ([],false,[],0)=([],false,[],0):=by simp[List.getD_eq_getElem?_getD,List.getElem?_eq_none (by omega:ts.length<=k)]
    rw[e];exact Sm.zero _
 induction k with
 |zero=>exact hX
 | succ k ih=>
   unfold pj;split
   . exact Sm.add ih ((Sm.mul (hg k) (hg k)).mono (show B+B<=C+k by omega))
   . exact ih.mono zo
theorem Zm {p:List UInt8->Bool}{B N L:Nat}{T:Nat->List aO}(h:∀j,j<L->(∀t∈T j,Sm B (ar t.2))/\(T j).length<=N)(j:Nat)(hj:j<=L):Sm (2*B+j*N) (stA p T j):=by
 induction j with
 |zero=>exact Sm.zero _
 |succ j ih=>obtain⟨h1,h2⟩:=h j zo;have:=Sb (p:=p) (ih zo) zo h1 (T j).length;exact this.mono (by rw[Nat.add_mul];omega)
theorem ams (p:List UInt8->Bool)(a:Option Addr)(L cap V B:Nat)(ps:List Pv)(T:Nat->List aO)(w:World)(hL:ps.length=L)(hl:L<=100)(hV:V<=12)(ha:At w a (ps.flatMap jm))(hP:gD w V B ps T)(hB:B<=1000000)(hp:∀j,j<L->∀t∈T j,(iz t.1=1↔p t.1=true))(hN:∀j,j<L->(T j).length<=100)(hT:az w):
 Calls Tryz.prog 57 #[.slice a L cap] w λe w'=>e=.returned (bH (stA p T L))/\Bw w w':=by
 have hfit:∀j,j<L->(∀t∈T j,Sm B (ar t.2))/\(T j).length<=100:=λj hj=>by obtain⟨_,_,_,_,h⟩:=hP j zo;exact⟨λt ht=>(h.2 t ht).2,hN j hj⟩
 have hsm:=λj (hj:j<=L)=>Zm (p:=p) hfit j hj;have Gv:=λj (hj:j<L) k=>Sb (p:=p) (hsm j zo) zo (hfit j hj).1 k;have hst:∀j,stA p T (j+1)=pj p (stA p T j) (T j) (T j).length:=λj=>rfl;have NA:stA p T 0=0:=rfl;obtain⟨S,hS⟩:=aB (stA p T);simp only[hS]at hsm Gv hst NA;rw[hS];have pP:∀X ts k,pj p X ts (k+1)=if p (ts.getD k ([],false,[],0)).1 then pj p X ts k+ar (ts.getD k ([],false,[],0)).2*ar (ts.getD k ([],false,[],0)).2 else pj p X ts k:=λX ts k=>rfl
 have MF:∀X ts,pj p X ts 0=X:=λX ts=>rfl;obtain⟨Q,hQ⟩:=aB (pj p);simp only[hQ]at Gv hst pP MF;obtain⟨vS,acU,bX,acW,Ai,abc,Ha,HP,Hp,HT,HL,HNl⟩:=ij hsm Gv hst NA pP MF ha hP hp hT hL hN;clear hsm Gv hst NA pP MF ha hP hp hT hL hS hQ hfit hN;obtain⟨W,bU,Hb,Hr⟩:=gL w 39 [.bool false,.string ⟨#[]⟩,.int .i64 0];obtain⟨r0,ag,r1,ah,r2,au⟩:=Hr.out.g3;go_enter Tryz.func57,Tryz.ntmps57;have oH:=Hr.out.lt;obtain⟨W2,lu,ae,Hs⟩:=cf W 39 [.bool false,.string ⟨#[]⟩,.int .i64 0];clear r0 ag r1 ah r2 au;replace Hr:=kB Hr ae;obtain⟨r0,ag,r1,ah,r2,au⟩:=Hr.out.g3;obtain⟨s0,aW,s1,aX,s2,bi⟩:=Hs.out.g3;replace Hb:=ak Hb ae;clear ae;go_wp2_with fail;clear r0 ag r1 ah r2 au s0 aW s1 aX s2 bi;first|refine bQ (aY W2 (W.heap.size) 0 [.bool false,.string ⟨#[]⟩,.int .i64 0]) bg ?_|refine bP (aY W2 (W.heap.size) 0 [.bool false,.string ⟨#[]⟩,.int .i64 0]) bg ?_
 intro W3 hs;replace Hr:=kS Hr hs zo;replace Hs:=bE Hs hs;obtain⟨r0,ag,r1,ah,r2,au⟩:=Hr.out.g3;obtain⟨s0,aW,s1,aX,s2,bi⟩:=Hs.out.g3;replace Hb:=bS Hb hs ZS;clear hs;have lr:=Hr.out.lt;have ls:=Hs.out.lt;go_wp2_with fail;clear r0 r1 r2 ag ah au s0 s1 s2 aW aX bi;have hws:w.heap.size<W.heap.size:=by omega
 go_loopw[11] (λx wr=>∃j:Nat,j<=L/\x=.int .i64 (j:Int)/\aj wr w.heap.size 39 [.bool false,.string ⟨#[]⟩,.int .i64 0]/\aj wr W.heap.size 39 (cg (canon (S j)))/\Bw w wr) (λx _=>L-(intOf x).toNat);case atStart=>exact⟨0,Nat.zero_le _,rfl,Hr.out,by rw[acW.out];exact Hs.out,Hb.out⟩
 case round=>
  clear Hr Hs Hb;obtain⟨j,hj,rfl,pr,ps',pb⟩:=hrel;by_cases hlt:j<L
  . obtain⟨pa,pc,Wm,Nr,hft⟩:=HP.out j (by rw[HL.out];exact hlt);obtain⟨b,o,hab,hwn⟩:=(Ha.out.below pb).arD j (by rw[HL.out];exact hlt) Wm;have bB:=wX L cap j (j:Int) hab hlt rfl;obtain⟨ts,hts⟩:=aB (T j);obtain⟨n,hn⟩:=aB ts.length;obtain⟨Y,hY⟩:=aB (S j);have VL:=HNl.out j hlt;have hs1:=acU.out j hlt;have hnx:=bX.out j;have gK:=Hp.out j hlt;rw[hts]at Nr hft VL hnx gK;rw[hY]at hnx ps';simp only[hts,hY]at hs1;rw[hts,hn]at hwn;rw[hn]at VL hnx;obtain⟨eJ,QT,Hs1,oV,El,Hn,Hr,Hs,Hb⟩:=GH Nr.1 hft hs1 hnx gK hn pr ps' pb;have Hu:Hid (bO wr b (o+j*2) [.int .i64 (V:Int),.slice pa n pc]):=hwn;have hsz:=pb.size;have hsl:=ps'.lt;clear Nr hft hs1 hnx gK hn pr ps' pb hwn hab Wm hts hY;obtain⟨u0,u1⟩:=Hu.out.w2;have Ku0:=u0;have Ku1:=u1;have GN:=Hr.out.lt;have aju:=Hs.out.lt;obtain⟨W4,ku,ae,Hq⟩:=cf wr 91 [.int .i64 (V:Int),.slice pa n pc];replace Hr:=kB Hr ae;replace Hs:=kB Hs ae;clear u0 u1;replace Hu:=kW Hu ae;obtain⟨u0,u1⟩:=Hu.out.w2;obtain⟨q0,q1⟩:=Hq.out.c2;replace Hb:=ak Hb ae;clear ae;have Hj:=af hj;obtain⟨wo,hwo⟩:∃wo,wo=wr:=⟨_,rfl⟩;subst hwo;go_wp2_with fail;clear Ku0 Ku1 u0 u1 q0 q1 bB Hq Hu;go_loopw[18] (λx wr=>∃k:Nat,k<=n/\x=.int .i64 (k:Int)/\aj wr w.heap.size 39 [.bool false,.string ⟨#[]⟩,.int .i64 0]/\aj wr W.heap.size 39 (cg (canon (Q Y ts k)))/\Bw w wr) (λx _=>n-(intOf x).toNat);case atStart=>exact⟨0,Nat.zero_le _,rfl,Hr.out,by rw[abc.out];exact Hs.out,Hb.out⟩
    case round=>
     clear Hr Hs Hb;obtain⟨k,hk,rfl,pr,ps',pb⟩:=hrel;by_cases bG:k<n
     . have eO:k<ts.length:=by rw[Hn.out];exact bG
       obtain⟨l,s,m,e,hx⟩:∃l s m e,ts[k]=(l,s,m,e):=⟨_,_,_,_,rfl⟩;obtain⟨b2,o2,mr,hw2⟩:=(eJ.out.below pb).term k eO hx;have jg:=rM n pc k (k:Int) mr bG rfl;have hmem:(l,s,m,e)∈ts:=by rw[<-hx];exact List.getElem_mem eO
       have jx:=QT.out.1.2.1 _ hmem;have Cl:=QT.out.2 _ hmem;have rK:=El.out _ hmem;have pP:=Ai.out Y ts k;have lw:ts.getD k ([],false,[],0)=(l,s,m,e):=by rw[<-hx];simp[eO]
       rw[lw]at pP;dsimp only at jx Cl rK pP;obtain⟨A,hA⟩:=aB (Q Y ts k);obtain⟨Z,hZ⟩:=aB (Q Y ts (k+1));obtain⟨P,hP⟩:=aB (ar (s,m,e) *ar (s,m,e));have lj:=Hs1.out k;rw[hA]at ps' pP lj;rw[hZ,hP]at pP;have FA:Hid (Fit (2*B+20000) (ai (dN A),nt (dN A).natAbs,dE A)):=(lj.mono zo).fit zo;have rH:Sm (2*B+20000) P:=by rw[<-hP];exact(Sm.mul Cl.2 Cl.2).mono zo
       have FP:Hid (Fit (2*B+20000) (ai (dN P),nt (dN P).natAbs,dE P)):=rH.fit zo;unfold gh at jx;rw[Bool.and_eq_true,List.all_eq_true]at jx;have MK:=λW=>afL l W (by have:=of_decide_eq_true jx.2;omega) (λc hc=>of_decide_eq_true (jx.1 c hc));obtain⟨g,hg⟩:=aB (iz l);rw[hg]at rK;simp only[hg]at MK;obtain⟨c,hc⟩:=aB (p l);rw[hc]at rK pP;have hgt:((g:Int)==1)=c:=by
        cases c with
        |true=>have:=rK.2 rfl;subst this;rfl
        | false=>
          have:¬g=1:=λh=>by have:=rK.1 h;cases this
          simp;omega
       obtain⟨ul,DK,Qy,Qz,Fe,abr,Hr,Hb⟩:=mI hw2 hP hZ pP Cl MK pr pb;have Hs:Hid (aj wr W.heap.size 39 [.bool (ai (dN A)),.string (bs (nt (dN A).natAbs)),.int .i64 (dE A)]):=ps';have Hv:Hid (bO wr b2 (o2+k*4) [.string (bs l),.bool s,.string (bs m),.int .i64 e]):=hw2;have ao8:=pb.size;have ao7:=ps'.lt;clear hw2 mr hmem jx Cl rK pP lw hA hZ hP lj rH hg hc hx pr ps' pb MK ul;obtain⟨s0,aW,s1,aX,s2,bi⟩:=Hs.out.g3;obtain⟨v0,v1,v2,v3⟩:=Hv.out.w4;have Kv0:=v0;have Kv1:=v1;have Kv2:=v2;have Kv3:=v3;have GP:=Hr.out.lt;have aqt:=Hs.out.lt;obtain⟨W5,FH,ae,Hf⟩:=cf wr 93 [.string (bs l),.bool s,.string (bs m),.int .i64 e];replace Hr:=kB Hr ae;clear s0 aW s1 aX s2 bi;replace Hs:=kB Hs ae;clear v0 v1 v2 v3;replace Hv:=kW Hv ae;obtain⟨s0,aW,s1,aX,s2,bi⟩:=Hs.out.g3;obtain⟨v0,v1,v2,v3⟩:=Hv.out.w4;obtain⟨f0,f1,f2,f3⟩:=Hf.out.c4;replace Hb:=ak Hb ae;clear ae;go_wp2_with fail;refine(abr.out _).mono ?_;rintro e w6 ⟨rfl,ae⟩;clear s0 aW s1 aX s2 bi v0 v1 v2 v3 f0 f1 f2 f3;replace Hr:=kB Hr ae;replace Hs:=kB Hs ae;replace Hv:=kW Hv ae;replace Hf:=kB Hf ae;obtain⟨s0,aW,s1,aX,s2,bi⟩:=Hs.out.g3;obtain⟨v0,v1,v2,v3⟩:=Hv.out.w4;obtain⟨f0,f1,f2,f3⟩:=Hf.out.c4;replace Hb:=ak Hb ae;clear ae Kv0 Kv1 Kv2 Kv3 v0 v1 v2 v3 Hv jg;cases c with
       | true=>
         have HZ:Hid (ar (ai (dN A),nt (dN A).natAbs,dE A)+ar (ai (dN P),nt (dN P).natAbs,dE P)=Z):=by
          show ar (canon A)+ar (canon P)=Z
          rw[bL,bL,Qz.out,if_pos rfl]
         go_wp2_with fail;refine bW (λw'=>w'.cell? ⟨W.heap.size,0,none⟩=some (.bool (ai (dN A)))/\w'.cell? ⟨W.heap.size,1,none⟩=some (.string (bs (nt (dN A).natAbs)))/\w'.cell? ⟨W.heap.size,2,none⟩=some (.int .i64 (dE A))/\w'.cell? ⟨wr.heap.size,0,none⟩=some (.string (bs l))/\w'.cell? ⟨wr.heap.size,1,none⟩=some (.bool s)/\w'.cell? ⟨wr.heap.size,2,none⟩=some (.string (bs m))/\w'.cell? ⟨wr.heap.size,3,none⟩=some (.int .i64 e)) (λi=>Nat.blt i 9) [(0,true),(1,true),(2,true),(3,true),(4,true),(5,false),(6,false),(7,false),(8,false),(9,false)] zk zk rfl zk zc ⟨s0,s1,s2,f0,f1,f2,f3⟩ ?_;iterate 5 (refine pT rfl rfl ?_ (by intro w' ⟨q0,q1,q2,q3,q4,q5,q6⟩;go_simp;try with_reducible rfl);try simp only[UU])
         refine aC rfl rfl (λK hK=>?_);go_simp;refine hK _ _ (λ_=>⟨aJ s0,aJ s1,aJ s2,aJ f0,aJ f1,aJ f2,aJ f3⟩) ?_;clear hK K;try simp only[UU]
         refine bI (λW7=>aj W7 (w6.heap.size) 39 [.bool s,.string (bs m),.int .i64 e,.bool s,.string (bs m),.int .i64 e]/\Bw w6 W7) (by first|exact cS|exact cV) ?_;rintro W7 ⟨Yu,ae⟩;clear s0 aW s1 aX s2 bi f0 f1 f2 f3;have aqn:=Hr.out.lt;have aqv:=Hs.out.lt;have apU:=Hf.out.lt;replace Hr:=kB Hr ae;replace Hs:=kB Hs ae;replace Hf:=kB Hf ae;have kP:=af Yu;clear Yu;obtain⟨s0,aW,s1,aX,s2,bi⟩:=Hs.out.g3;obtain⟨f0,f1,f2,f3⟩:=Hf.out.c4;obtain⟨g10,g11,g12,g13,g14,g15⟩:=kP.out.c6;replace Hb:=ak Hb ae;clear ae;refine aC rfl rfl (λK hK=>?_);go_simp;with_reducible refine(pE s m e s m e P B DK.out _ 2 39 _ Fe.out Fe.out zo kP.out (by first|exact(HT.out.below Hb.out) |exact az.drew (HT.out.below Hb.out) |exact az.alloc (HT.out.below Hb.out) _|exact az.drew (az.alloc (HT.out.below Hb.out) _) |exact az.alloc (az.drew (HT.out.below Hb.out)) _)).mono ?_
         rintro e w8 ⟨rfl,hq⟩;have ae:Bw W7 w8:=by first|exact hq|exact aM hq
         clear s0 aW s1 aX s2 bi f0 f1 f2 f3 g10 g11 g12 g13 g14 g15;replace Hr:=kB Hr ae;replace Hs:=kB Hs ae;replace Hf:=kB Hf ae;replace kP:=kB kP ae;obtain⟨s0,aW,s1,aX,s2,bi⟩:=Hs.out.g3;obtain⟨f0,f1,f2,f3⟩:=Hf.out.c4;obtain⟨g10,g11,g12,g13,g14,g15⟩:=kP.out.c6;replace Hb:=ak Hb ae;clear ae;refine hK _ _ (λ_=>⟨s0,s1,s2,f0,f1,f2,f3⟩) ?_;clear hK K;try simp only[UU]
         refine aC rfl rfl (λK hK=>?_);go_simp;refine hK _ _ (λ_=>⟨aJ s0,aJ s1,aJ s2,aJ f0,aJ f1,aJ f2,aJ f3⟩) ?_;clear hK K;try simp only[UU]
         refine bI (λW9=>aj W9 (w8.heap.size) 39 [.bool (ai (dN A)),.string (bs (nt (dN A).natAbs)),.int .i64 (dE A),.bool (ai (dN P)),.string (bs (nt (dN P).natAbs)),.int .i64 (dE P)]/\Bw w8 W9) (by first|exact cS|exact cV) ?_;rintro W9 ⟨Yv,ae⟩;clear s0 aW s1 aX s2 bi f0 f1 f2 f3 g10 g11 g12 g13 g14 g15;have ajs:=Hr.out.lt;have ajv:=Hs.out.lt;have Xw:=Hf.out.lt;have apV:=kP.out.lt;replace Hr:=kB Hr ae;replace Hs:=kB Hs ae;replace Hf:=kB Hf ae;replace kP:=kB kP ae;have qW:=af Yv;clear Yv;obtain⟨s0,aW,s1,aX,s2,bi⟩:=Hs.out.g3;obtain⟨f0,f1,f2,f3⟩:=Hf.out.c4;obtain⟨g10,g11,g12,g13,g14,g15⟩:=kP.out.c6;obtain⟨g20,g21,g22,g23,Ff,Fh⟩:=qW.out.c6;replace Hb:=ak Hb ae;clear ae;refine aC rfl rfl (λK hK=>?_);go_simp;with_reducible refine(yz _ _ _ _ _ _ Z (2*B+20000) HZ.out _ 2 39 _ FA.out FP.out zo qW.out (by first|exact(HT.out.below Hb.out) |exact az.drew (HT.out.below Hb.out) |exact az.alloc (HT.out.below Hb.out) _|exact az.drew (az.alloc (HT.out.below Hb.out) _) |exact az.alloc (az.drew (HT.out.below Hb.out)) _)).mono ?_
         rintro e cC ⟨rfl,hq⟩;have ae:Bw W9 cC:=by first|exact hq|exact aM hq
         clear s0 aW s1 aX s2 bi f0 f1 f2 f3 g10 g11 g12 g13 g14 g15 g20 g21 g22 g23 Ff Fh;replace Hr:=kB Hr ae;replace Hs:=kB Hs ae;replace Hf:=kB Hf ae;replace kP:=kB kP ae;replace qW:=kB qW ae;obtain⟨s0,aW,s1,aX,s2,bi⟩:=Hs.out.g3;obtain⟨f0,f1,f2,f3⟩:=Hf.out.c4;obtain⟨g10,g11,g12,g13,g14,g15⟩:=kP.out.c6;obtain⟨g20,g21,g22,g23,Ff,Fh⟩:=qW.out.c6;replace Hb:=ak Hb ae;clear ae;refine hK _ _ (λ_=>⟨s0,s1,s2,f0,f1,f2,f3⟩) ?_;clear hK K;try simp only[UU]
         refine aC rfl rfl (λK hK=>?_);go_simp;refine hK _ _ (λh=>absurd h zd) ?_;clear hK K;try simp only[UU]
         clear s0 aW s1 aX s2 bi f0 f1 f2 f3 g10 g11 g12 g13 g14 g15 g20 g21 g22 g23 Ff Fh;refine bI (aY cC (W.heap.size) 0 [.bool (ai (dN Z)),.string (bs (nt (dN Z).natAbs)),.int .i64 (dE Z)]) bg ?_;intro gW hs;replace Hr:=kS Hr hs zo;replace Hs:=bE Hs hs;replace Hf:=kS Hf hs zo;replace kP:=kS kP hs zo;replace qW:=kS qW hs zo;obtain⟨s0,aW,s1,aX,s2,bi⟩:=Hs.out.g3;obtain⟨f0,f1,f2,f3⟩:=Hf.out.c4;obtain⟨g10,g11,g12,g13,g14,g15⟩:=kP.out.c6;obtain⟨g20,g21,g22,g23,Ff,Fh⟩:=qW.out.c6;replace Hb:=bS Hb hs ZS;clear hs;simp only[aV];go_wp2;go_roundw;case rel=>exact⟨k+1,by omega,by go_num,Hr.out,by rw[Qy.out];exact Hs.out,Hb.out⟩
         case measure=>simp[intOf];omega
       | false=>
         have HZ:Hid (Z=A):=by show _=_;rw[Qz.out];rfl
         clear s0 s1 s2 aW aX bi f0 f1 f2 f3;go_wp2;go_roundw;case rel=>exact⟨k+1,by omega,by go_num,Hr.out,by rw[Qy.out,HZ.out];exact Hs.out,Hb.out⟩
         case measure=>simp[intOf];omega
     . obtain rfl:k=n:=by omega
       obtain⟨Hr,Hs,Hb⟩:=cG pr ps' pb;clear pr ps' pb;go_wp2;go_roundw;case rel=>exact⟨j+1,by omega,by go_num,Hr.out,by rw[oV.out];exact Hs.out,Hb.out⟩
       case measure=>simp[intOf];omega
  . obtain rfl:j=L:=by omega
    obtain⟨Y,hY⟩:=aB (S j);obtain⟨HY,Hr,Hb⟩:=cG hY pr pb;have Hs:Hid (aj wr W.heap.size 39 [.bool (ai (dN Y)),.string (bs (nt (dN Y).natAbs)),.int .i64 (dE Y)]):=by rw[<-hY];exact ps'
    clear pr ps' pb hY;obtain⟨r0,ag,r1,ah,r2,au⟩:=Hr.out.g3;obtain⟨s0,s1,s2⟩:=Hs.out.c3;go_wp2;clear r0 ag r1 ah r2 au s0 s1 s2;refine dx (aY wr (w.heap.size) 0 [.bool (ai (dN Y)),.string (bs (nt (dN Y).natAbs)),.int .i64 (dE Y)]) bg ?_;intro w9 hs;replace Hr:=bE Hr hs;replace Hs:=kS Hs hs zo;obtain⟨r0,ag,r1,ah,r2,au⟩:=Hr.out.g3;obtain⟨s0,s1,s2⟩:=Hs.out.c3;replace Hb:=bS Hb hs ZS;clear hs;refine bodyPost_ret (v:=bH Y) (by simp[results,Tryz.results57,go_sem,r0,r1,r2]) rfl ⟨by rw[HY.out],Hb.out⟩
def vB (k:Nat):Dyadic:=Dyadic.ofIntWithPrec (2^k) 0
theorem YU (D:Dyadic)(k:Nat):ar (ai (dN D),nt (dN D).natAbs,dE D+(k:Int))=D*vB k:=by
 have h:=bL D;unfold ar canon at h;unfold ar vB;simp only[dI]at h⊢;conv=>rhs;rw[<-h]
 rw[tP,<-qE (dN D) k (-(dE D+k))];congr 1;omega
theorem ZQ (k:Nat):Sm (k+1) (vB k):=by
 refine⟨2^k*2^(k+1),?_,?_⟩
 . unfold vB;have:=qE (2^k) (k+1) 0;rw[<-this];congr 1;omega
 . rw[Int.natAbs_mul,Int.natAbs_pow,Int.natAbs_pow,<-Nat.pow_add];exact Nat.pow_lt_pow_right zd zo
theorem ZE :Sm 2 (Dyadic.ofIntWithPrec 3 0):=by refine⟨12,?_,by decide⟩;have:=qE 3 2 0;rw[<-this];rfl
def tG (X:Dyadic):Nat->Dyadic
 |0=>X
 |k+1=>tG X k*Dyadic.ofIntWithPrec 3 0
def tV (Y:Dyadic):Nat->Dyadic
 |0=>Y
 |k+1=>tV Y k*vB 2
theorem Xg {B:Nat}{X:Dyadic}(h:Sm B X)(k:Nat):Sm (B+2*k) (tG X k):=by
 induction k with
 |zero=>exact h
 |succ k ih=>exact(Sm.mul ih ZE).mono zo
theorem YL {B:Nat}{X:Dyadic}(h:Sm B X)(k:Nat):Sm (B+3*k) (tV X k):=by
 induction k with
 |zero=>exact h
 |succ k ih=>exact(Sm.mul ih (ZQ 2)).mono zo
def Dm (X Y:Dyadic)(k:Nat):Bool:=decide (aP (tG X k-tV Y k)<0)
def sI (w:World)(lb rb:Nat)(X Y:Dyadic)(k:Nat):Prop:=aj w lb 39 (cg (canon (tG X k)))/\aj w rb 39 (cg (canon (tV Y k)))/\lb≠rb
theorem sI.below {w w':World}{lb rb k:Nat}{X Y:Dyadic}(h:sI w lb rb X Y k)(hb:Bw w w'):sI w' lb rb X Y k:=⟨h.1.below hb,h.2.1.below hb,h.2.2⟩
theorem al1 (lb rb B k:Nat)(X Y:Dyadic)(w:World)(hX:Sm B X)(hY:Sm B Y)(hB:B<=1000000)(hk:k<=2000)(hT:az w)(hJ:sI w lb rb X Y k):
 Calls Tryz.prog 58 #[.pointer (some ⟨lb,0,none⟩),.pointer (some ⟨rb,0,none⟩)] w λe w'=>e=.returned (.bool (Dm X Y k))/\Bw w w':=by
 obtain⟨h1,h2,_⟩:=hJ;have hx:=Xg hX k;have hy:=YL hY k;unfold Dm;obtain⟨L,hL⟩:=aB (tG X k);obtain⟨R,hR⟩:=aB (tV Y k);rw[hL]at h1 hx⊢;rw[hR]at h2 hy⊢;obtain⟨c,hc⟩:=aB (aP (L-R));rw[hc];have Hc:Hid (aP (ar (ai (dN L),nt (dN L).natAbs,dE L)-ar (ai (dN R),nt (dN R).natAbs,dE R))=c):=by show aP (ar (canon L)-ar (canon R))=c;rw[bL,bL];exact hc
 have FL:Hid (Ok (ai (dN L),nt (dN L).natAbs,dE L)):=(hx.fit zo).1;have FR:Hid (Ok (ai (dN R),nt (dN R).natAbs,dE R)):=(hy.fit zo).1;have Hl:Hid (aj w lb 39 [.bool (ai (dN L)),.string (bs (nt (dN L).natAbs)),.int .i64 (dE L)]):=h1;have Hr:Hid (aj w rb 39 [.bool (ai (dN R)),.string (bs (nt (dN R).natAbs)),.int .i64 (dE R)]):=h2;have HT:=af hT;clear h1 h2 hx hy hc hL hR hT hX hY;have Hb:Hid (Bw w w):=Below.refl _ _;go_enter Tryz.func58,Tryz.ntmps58;obtain⟨l0,l1,l2⟩:=Hl.out.c3;obtain⟨r0,r1,r2⟩:=Hr.out.c3;go_wp2_with fail;refine(sN _ _ _ _ _ _ c Hc.out _ FL.out FR.out (HT.out.below Hb.out)).mono ?_;rintro e w1 ⟨rfl,ae⟩;clear l0 l1 l2 r0 r1 r2;replace Hl:=kB Hl ae;replace Hr:=kB Hr ae;obtain⟨l0,l1,l2⟩:=Hl.out.c3;obtain⟨r0,r1,r2⟩:=Hr.out.c3;replace Hb:=ak Hb ae;clear ae;go_wp2;refine bodyPost_ret (results_tmp rfl _ _ _) rfl ⟨rfl,Hb.out⟩
theorem al6 (lb rb B k:Nat)(X Y:Dyadic)(v0 w:World)(hv:Bw v0 w)(hX:Sm B X)(hY:Sm B Y)(hB:B<=1000000)(hk:k<=2000)(hT:az v0)(hl:v0.heap.size<=lb)(hr:v0.heap.size<=rb)(hJ:sI w lb rb X Y k):
 Calls Tryz.prog 59 #[.pointer (some ⟨lb,0,none⟩),.pointer (some ⟨rb,0,none⟩)] w λe w'=>e=.returned (.tuple #[])/\sI w' lb rb X Y (k+1)/\Bw v0 w':=by
 obtain⟨h1,h2,hne⟩:=hJ;have hx:=Xg hX k;have hy:=YL hY k;have hx2:tG X (k+1)=tG X k*Dyadic.ofIntWithPrec 3 0:=rfl;have hy2:tV Y (k+1)=tV Y k*vB 2:=rfl;unfold sI;obtain⟨L,hL⟩:=aB (tG X k);obtain⟨R,hR⟩:=aB (tV Y k);obtain⟨L2,hL2⟩:∃L,tG X (k+1)=L:=⟨_,rfl⟩;obtain⟨R2,BX⟩:∃R,tV Y (k+1)=R:=⟨_,rfl⟩;rw[hL]at h1 hx hx2;rw[hR]at h2 hy hy2;rw[hL2]at hx2⊢;rw[BX]at hy2⊢;obtain⟨E,hE⟩:=aB (Dyadic.ofIntWithPrec 3 0);have TV:Sm 2 E:=by rw[<-hE];exact ZE
 rw[hE]at hx2;have HE:=af hE;have HL:Hid (ar (ai (dN L),nt (dN L).natAbs,dE L) *ar (ai (dN E),nt (dN E).natAbs,dE E)=L2):=by show ar (canon L) *ar (canon E)=L2;rw[bL,bL];exact hx2.symm
 have HR:Hid (ar (ai (dN R),nt (dN R).natAbs,dE R+2)=R2):=by rw[hy2];exact YU R 2
 have FL:Hid (Fit (B+6000) (ai (dN L),nt (dN L).natAbs,dE L)):=(hx.mono zo).fit zo;have FE:Hid (Fit (B+6000) (ai (dN E),nt (dN E).natAbs,dE E)):=(TV.mono zo).fit zo;have FR:Hid (Ok (ai (dN R),nt (dN R).natAbs,dE R)):=(hy.fit zo).1;have Hl:Hid (aj w lb 39 [.bool (ai (dN L)),.string (bs (nt (dN L).natAbs)),.int .i64 (dE L)]):=h1;have Hr:Hid (aj w rb 39 [.bool (ai (dN R)),.string (bs (nt (dN R).natAbs)),.int .i64 (dE R)]):=h2;have HT:=af hT;have ll:=h1.lt;have lr:=h2.lt;clear h1 h2 hx hy hx2 hy2 hL hR hL2 BX hT hX hY hE TV;have Hb:Hid (Bw v0 w):=hv;clear hv;go_enter Tryz.func59,Tryz.ntmps59;obtain⟨l0,gF,l1,gG,l2,ot⟩:=Hl.out.g3;obtain⟨r0,ag,r1,ah,r2,au⟩:=Hr.out.g3;go_wp2_with fail;refine bW (λw'=>w'.cell? ⟨lb,0,none⟩=some (.bool (ai (dN L)))/\w'.cell? ⟨lb,1,none⟩=some (.string (bs (nt (dN L).natAbs)))/\w'.cell? ⟨lb,2,none⟩=some (.int .i64 (dE L))/\w'.cell? ⟨rb,0,none⟩=some (.bool (ai (dN R)))/\w'.cell? ⟨rb,1,none⟩=some (.string (bs (nt (dN R).natAbs)))/\w'.cell? ⟨rb,2,none⟩=some (.int .i64 (dE R))) (λi=>Nat.blt i 6) [(0,true),(4,true),(1,false),(2,false),(3,false),(5,false),(6,false),(7,false)] zk zk rfl zk zc ⟨l0,l1,l2,r0,r1,r2⟩ ?_;iterate 2 (refine pT rfl rfl ?_ (by intro w' ⟨q0,q1,q2,q3,q4,q5⟩;go_simp;try with_reducible rfl);try simp only[UU])
 refine aC rfl rfl (λK hK=>?_);go_simp;with_reducible refine(rA 3 E HE.out _ zd (by first|exact(HT.out.below Hb.out) |exact az.drew (HT.out.below Hb.out) |exact az.alloc (HT.out.below Hb.out) _|exact az.drew (az.alloc (HT.out.below Hb.out) _) |exact az.alloc (az.drew (HT.out.below Hb.out)) _)).mono ?_
 rintro e w1 ⟨rfl,hq⟩;have ae:Bw w w1:=by first|exact hq|exact aM hq
 clear l0 gF l1 gG l2 ot r0 ag r1 ah r2 au;replace Hl:=kB Hl ae;replace Hr:=kB Hr ae;obtain⟨l0,gF,l1,gG,l2,ot⟩:=Hl.out.g3;obtain⟨r0,ag,r1,ah,r2,au⟩:=Hr.out.g3;replace Hb:=ak Hb ae;clear ae;refine hK _ _ (λ_=>⟨l0,l1,l2,r0,r1,r2⟩) ?_;clear hK K;try simp only[UU]
 refine aC rfl rfl (λK hK=>?_);go_simp;refine hK _ _ (λ_=>⟨aJ l0,aJ l1,aJ l2,aJ r0,aJ r1,aJ r2⟩) ?_;clear hK K;try simp only[UU]
 refine bI (λW2=>aj W2 (w1.heap.size) 39 [.bool (ai (dN L)),.string (bs (nt (dN L).natAbs)),.int .i64 (dE L),.bool (ai (dN E)),.string (bs (nt (dN E).natAbs)),.int .i64 (dE E)]/\Bw w1 W2) (by first|exact cS|exact cV) ?_;rintro W2 ⟨qu,ae⟩;clear l0 gF l1 gG l2 ot r0 ag r1 ah r2 au;have ap0:=Hl.out.lt;have oH:=Hr.out.lt;replace Hl:=kB Hl ae;replace Hr:=kB Hr ae;have Hu:=af qu;clear qu;obtain⟨l0,gF,l1,gG,l2,ot⟩:=Hl.out.g3;obtain⟨r0,ag,r1,ah,r2,au⟩:=Hr.out.g3;obtain⟨u0,u1,u2,u3,u4,u5⟩:=Hu.out.c6;replace Hb:=ak Hb ae;clear ae;refine aC rfl rfl (λK hK=>?_);go_simp;with_reducible refine(pE _ _ _ _ _ _ L2 (B+6000) HL.out w1.heap.size 2 39 _ FL.out FE.out zo Hu.out (by first|exact(HT.out.below Hb.out) |exact az.drew (HT.out.below Hb.out) |exact az.alloc (HT.out.below Hb.out) _|exact az.drew (az.alloc (HT.out.below Hb.out) _) |exact az.alloc (az.drew (HT.out.below Hb.out)) _)).mono ?_
 rintro e w3 ⟨rfl,hq⟩;have ae:Bw W2 w3:=by first|exact hq|exact aM hq
 clear l0 gF l1 gG l2 ot r0 ag r1 ah r2 au u0 u1 u2 u3 u4 u5;replace Hl:=kB Hl ae;replace Hr:=kB Hr ae;replace Hu:=kB Hu ae;obtain⟨l0,gF,l1,gG,l2,ot⟩:=Hl.out.g3;obtain⟨r0,ag,r1,ah,r2,au⟩:=Hr.out.g3;obtain⟨u0,u1,u2,u3,u4,u5⟩:=Hu.out.c6;replace Hb:=ak Hb ae;clear ae;refine hK _ _ (λ_=>⟨l0,l1,l2,r0,r1,r2⟩) ?_;clear hK K;try simp only[UU]
 refine aC rfl rfl (λK hK=>?_);go_simp;with_reducible refine(Il _ _ _ 2 R2 HR.out _ FR.out zd (by first|exact(HT.out.below Hb.out) |exact az.drew (HT.out.below Hb.out) |exact az.alloc (HT.out.below Hb.out) _|exact az.drew (az.alloc (HT.out.below Hb.out) _) |exact az.alloc (az.drew (HT.out.below Hb.out)) _)).mono ?_
 rintro e w4 ⟨rfl,hq⟩;have ae:Bw w3 w4:=by first|exact hq|exact aM hq
 clear l0 gF l1 gG l2 ot r0 ag r1 ah r2 au u0 u1 u2 u3 u4 u5;replace Hl:=kB Hl ae;replace Hr:=kB Hr ae;replace Hu:=kB Hu ae;obtain⟨l0,gF,l1,gG,l2,ot⟩:=Hl.out.g3;obtain⟨r0,ag,r1,ah,r2,au⟩:=Hr.out.g3;obtain⟨u0,u1,u2,u3,u4,u5⟩:=Hu.out.c6;replace Hb:=ak Hb ae;clear ae;refine hK _ _ (λ_=>⟨l0,l1,l2,r0,r1,r2⟩) ?_;clear hK K;try simp only[UU]
 refine aC rfl rfl (λK hK=>?_);go_simp;refine hK _ _ (λh=>absurd h zd) ?_;clear hK K;try simp only[UU]
 clear l0 gF l1 gG l2 ot r0 ag r1 ah r2 au u0 u1 u2 u3 u4 u5;refine bI (aY w4 (lb) 0 [.bool (ai (dN L2)),.string (bs (nt (dN L2).natAbs)),.int .i64 (dE L2)]) bg ?_;intro W5 hs;replace Hl:=bE Hl hs;replace Hr:=kS Hr hs zo;replace Hu:=kS Hu hs zo;obtain⟨l0,gF,l1,gG,l2,ot⟩:=Hl.out.g3;obtain⟨r0,ag,r1,ah,r2,au⟩:=Hr.out.g3;obtain⟨u0,u1,u2,u3,u4,u5⟩:=Hu.out.c6;replace Hb:=bS Hb hs ZS;clear hs;refine aC rfl rfl (λK hK=>?_);go_simp;refine hK _ _ (λh=>absurd h zd) ?_;clear hK K;try simp only[UU]
 clear l0 gF l1 gG l2 ot r0 ag r1 ah r2 au u0 u1 u2 u3 u4 u5;refine bI (aY W5 (rb) 0 [.bool (ai (dN R2)),.string (bs (nt (dN R2).natAbs)),.int .i64 (dE R2)]) bg ?_;intro W6 hs;replace Hl:=kS Hl hs zo;replace Hr:=bE Hr hs;replace Hu:=kS Hu hs zo;obtain⟨l0,gF,l1,gG,l2,ot⟩:=Hl.out.g3;obtain⟨r0,ag,r1,ah,r2,au⟩:=Hr.out.g3;obtain⟨u0,u1,u2,u3,u4,u5⟩:=Hu.out.c6;replace Hb:=bS Hb hs ZS;clear hs;simp only[aV];refine bodyPost_end (v:=.tuple #[]) (by simp[results,Tryz.results59,go_sem]) rfl ⟨rfl,⟨Hl.out,Hr.out,hne⟩,Hb.out⟩
end Go.Proofs.YtoopepmmepmfnaaGreatDoor
