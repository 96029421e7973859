/- Packages ogeeref07,ogeeref08: May;put. -/
import Derived.Test.YtdaadlblknpipaaGreatDoorZ17
import Derived.Test.YtdaadlblknpipaaGreatDoorZ11
import Derived.Test.YtdaadlblknpipaaGreatDoorZ16
set_option linter.unusedVariables false
set_option linter.unusedSimpArgs false
set_option maxRecDepth 100000
set_option maxHeartbeats 16000000
namespace Go.Proofs.YtdaadlblknpipaaGreatDoor
open Go.RowKit
attribute [local go_sem ↓] Go.wp_at_zero Go.wp_at_succ
theorem al5 (l:List UInt8)(v:Int)(w:World)(hl:l.length<=9223372036854775807):
 Calls Tryz.prog 121 #[.string (bs l),.int .i64 v] w λe w'=>e=.returned (.bool (fH l v))/\Bw w w':=by
 obtain⟨n,hn⟩:=aB l.length;have hsz:(bs l).size=n:=by rw[lI,hn]
 obtain⟨M,hM⟩:=aB (fH l v);rw[hM];obtain⟨HM,Hn⟩:=aL hM hn;rw[hn]at hl;clear hM hn;go_enter Tryz.func121,Tryz.ntmps121;have Hb:Hid (Bw w w):=Below.refl _ _;go_wp2_with fail;go_loopw[5] (λx wr=>∃k:Nat,k<=n/\x=.int .i64 (k:Int)/\((l.take k).all λc=>decide (c.toNat<=127))=true/\Bw w wr) (λx _=>n-(intOf x).toNat);case atStart=>exact⟨0,Nat.zero_le _,rfl,rfl,Hb.out⟩
 case round=>
  clear Hb;obtain⟨k,hk,rfl,hall,pb⟩:=hrel;obtain⟨vQ,Hb⟩:=aL hall pb;clear hall pb;by_cases hlt:k<n
  . have hk2:k<l.length:=by rw[Hn.out];exact hlt
    have ix:=xy l (k:Int) k hk2 rfl;obtain⟨c,hc⟩:∃c:Nat,(l[k]).toNat=c:=⟨_,rfl⟩;rw[hc]at ix;by_cases h1:128<=c
    . have h2:(128:Int)<=(c:Int):=by omega
      have nJ:M=false:=by
       rw[<-HM.out];unfold fH;have:(l.all λc=>decide (c.toNat<=127))=false:=by rw[List.all_eq_false];exact⟨l[k],List.getElem_mem hk2,by simp;omega⟩
       rw[this];rfl
      subst nJ;go_wp2;refine bodyPost_ret (v:=.bool false) (by simp[results,Tryz.results121,go_sem]) rfl ⟨rfl,?_⟩;(repeat first|exact Hb.out| (refine Below.setCell ?_ (by have:=Hb.out.size;first| (dsimp only;omega) | (show _<=_;omega) | (simp<;>omega)) _) | (refine Below.alloc ?_ zt _) |refine Below.drew ?_)
    . have h2:¬(128:Int)<=(c:Int):=by omega
      have bX:Hid (((l.take (k+1)).all λc=>decide (c.toNat<=127))=true):=by
       show _=_
       rw[List.take_succ_eq_append_getElem hk2,List.all_append,vQ.out];simp;omega
      clear hc;go_wp2;go_roundw;case rel=>exact⟨k+1,by omega,by go_num,bX.out,Hb.out⟩
      case measure=>simp[intOf];omega
  . obtain rfl:k=n:=by omega
    have hme:M=decide ((k:Int)=v):=by rw[<-HM.out];have h:=vQ.out;rw[List.take_of_length_le (by rw[Hn.out];exact Nat.le_refl _)]at h;unfold fH;rw[h,Hn.out,Bool.true_and]
    have JN:=ah hme;clear hme;go_wp2;refine bodyPost_ret (results_tmp rfl _ _ _) rfl ⟨?_,Hb.out⟩;rw[JN.out];by_cases h:(k:Int)=v<;>simp[h]
theorem adU (m:List UInt8)(l:List aK)(j:Nat)(h:j<gV m l)(hj:j<l.length):Op.bytesLess l[j].1 m=true:=by
 induction l generalizing j with
 |nil=>simp at hj
 | cons x l ih=>
   unfold gV at h;split at h
   . rename_i hx
     cases j with
     |zero=>exact hx
     |succ j=>exact ih j zo (by simpa using hj)
   . omega
theorem adV (m:List UInt8)(l:List aK)(h:gV m l<l.length):Op.bytesLess l[gV m l].1 m=false:=by
 induction l with
 |nil=>simp at h
 | cons x l ih=>
   by_cases hx:Op.bytesLess x.1 m=true
   . have e:gV m (x::l)=gV m l+1:=by show(if _ then _ else _)=_;rw[if_pos hx]
     simp only[e]at h⊢;exact ih (by simpa using h)
   . have e:gV m (x::l)=0:=by show(if _ then _ else _)=_;rw[if_neg hx]
     simp only[e];simpa using hx
theorem alH (l:List aK)(x:aK)(k:Nat)(hk:gV x.1 l=k)(h:k<l.length)(e:l[k].1=x.1):gv l x=l.take k++[(x.1,canon (aC l[k].2+aC x.2))]++l.drop (k+1):=by
 have e1:(l.drop k).head?=some l[k]:=by rw[List.drop_eq_getElem_cons h];rfl
 have e2:(l.drop k).headD default=l[k]:=by rw[List.drop_eq_getElem_cons h];rfl
 rw[YG,hk,e1,e2,if_pos (by rw[Option.map_some,e]),List.append_assoc,List.singleton_append]
theorem Om (l:List aK)(x:aK)(k:Nat)(hk:gV x.1 l=k)(h:∀h:k<l.length,l[k].1≠x.1):gv l x=l.take k++[(x.1,canon (aC x.2))]++l.drop k:=by
 rw[YG,hk,if_neg,List.append_assoc,List.singleton_append];intro e;by_cases hl:k<l.length
 . rw[List.drop_eq_getElem_cons hl,List.head?_cons,Option.map_some]at e;exact h hl (Option.some.inj e)
 . rw[List.drop_of_length_le zo]at e;cases e
theorem At.arR {w:World}{a:Option Addr}{ts:List aK}(h:At w a (ts.flatMap aM))(k:Nat):At w a ((ts.take k).flatMap aM):=by
 have e:(ts.take k).flatMap aM++(ts.drop k).flatMap aM=ts.flatMap aM:=by rw[<-List.flatMap_append,List.take_append_drop]
 rcases h with h|⟨b,o,rfl,hc⟩
 . rw[h]at e;exact .inl (List.append_eq_nil_iff.1 e).1
 . by_cases h0:(ts.take k).flatMap aM=[]
   . exact .inl h0
   . refine .inr ⟨b,o,rfl,λj hj=>?_⟩;rw[hc j (by rw[<-e,List.length_append];omega),<-e,List.getElem?_append_left hj]
theorem At.arN {w:World}{a:Option Addr}{ts:List aK}(h:At w a (ts.flatMap aM)){n cap:Nat}(k:Nat)(hn:ts.length=n)(hk:k<=n)(hc:n<=cap):At w (if cap=k then a else a.map (·.add (k*4))) ((ts.drop k).flatMap aM):=by
 have h1:=At.cut (size:=4) (n:=n) (k:=k) (cap:=cap) h (by rw[ll,hn]) hk hc;have e:(ts.drop k).flatMap aM=(ts.flatMap aM).drop (k*4):=by
  have e0:ts.flatMap aM=(ts.take k).flatMap aM++(ts.drop k).flatMap aM:=by rw[<-List.flatMap_append,List.take_append_drop]
  rw[e0,List.drop_append_of_le_length (by rw[ll,List.length_take];omega)];have e1:((ts.take k).flatMap aM).length=k*4:=by rw[ll,List.length_take,Nat.min_eq_left zo]
  rw[<-e1,List.drop_length,List.nil_append]
 rw[e];exact h1
theorem amh (a:Option Addr)(n cap:Nat)(ts:List aK)(l:List UInt8)(s:Bool)(m:List UInt8)(e:Int)(w:World)(hn:ts.length=n)(hl:n<=65536)(hs:Sl a n cap)(ha:At w a (ts.flatMap aM))(hf:∀t∈ts,ic t.2)(hx:ic (s,m,e)):
 Calls Tryz.prog 120 #[.slice a n cap,.agg #[.string (bs l),.bool s,.string (bs m),.int .i64 e]] w λex w'=>∃v',ex=.returned v'/\w'.ownsRow w.heap.size 107 4 v' (gv ts (l,s,m,e)).length ((gv ts (l,s,m,e)).flatMap aM)/\Bw w w':=by
 obtain⟨i0,hi,hz0,hz1,hz2⟩:=info_parts Tryz.arL;obtain⟨A,hA⟩:=aB (gV l ts);have hAn:A<=n:=by rw[<-hA,<-hn];exact adT _ _
 have hgo:∀j (h:j<ts.length),j<A->Op.bytesLess ts[j].1 l=true:=λj h hj=>adU l ts j zo h;have hst:∀(h:A<ts.length),Op.bytesLess ts[A].1 l=false:=λh=>by subst hA;exact adV l ts h
 have GH:=hs.1;obtain⟨Hi,cX,cN,cO,Ei,JG,bX,Hs,Ha,Hf,fI,Hn⟩:=gY hi hz0 hz1 hz2 hA hgo hst hs ha hf hx hn;clear hi hz0 hz1 hz2 hA hgo hst hs ha hf hx hn;obtain⟨W,dF,Hb,Hx⟩:=jl w 107 [.string (bs l),.bool s,.string (bs m),.int .i64 e];obtain⟨x0,x1,x2,x3⟩:=Hx.out.c4;go_enter Tryz.func120,Tryz.ntmps120;go_wp2_with fail;go_loopw[5] (λx wr=>∃k:Nat,k<=A/\x=.int .i64 (k:Int)/\ai wr w.heap.size 107 [.string (bs l),.bool s,.string (bs m),.int .i64 e]/\Bw w wr) (λx _=>n-(intOf x).toNat);case atStart=>exact⟨0,Nat.zero_le _,rfl,Hx.out,Hb.out⟩
 case round=>
  clear x0 x1 x2 x3 Hx Hb;obtain⟨k,hk,rfl,px,pb⟩:=hrel;obtain⟨Hx,Hb⟩:=aL px pb;clear px pb;by_cases hlt:k<A
  . have hkn:k<n:=by omega
    have hk2:k<ts.length:=by rw[Hn.out];exact hkn
    obtain⟨l',s',m',e',hx'⟩:∃l s m e,ts[k]=(l,s,m,e):=⟨_,_,_,_,rfl⟩;obtain⟨b,o,rfl,bY⟩:=(Ha.out.below Hb.out).term k hk2 hx';have bB:=jg n cap k (k:Int) (rfl:(some ⟨b,o,none⟩:Option Addr)=_) hkn rfl;have qZ:Op.bytesLess (bs l').toList (bs l).toList=true:=by rw[fS,fS];have:=JG.out k hk2 hlt;rw[hx']at this;exact this
    have Ht:Hid (aY wr b (o+k*4) [.string (bs l'),.bool s',.string (bs m'),.int .i64 e']):=bY;clear bY hx';obtain⟨x0,x1,x2,x3⟩:=Hx.out.c4;obtain⟨t0,t1,t2,t3⟩:=Ht.out.w4;have rc:decide ((k:Int)<(n:Int))=true:=by simp;omega
    go_wp2_with fail;refine bC (λw'=>w'.cell? ⟨w.heap.size,0,none⟩=some (.string (bs l))/\w'.cell? ⟨b,o+k*4,none⟩=some (.string (bs l'))) (λi=>Nat.blt i 100000) [(0,true),(1,true),(2,true),(3,true),(4,true),(5,true),(6,true),(7,true),(8,true),(9,true),(10,true),(11,true),(12,true),(13,true)] zk zk rfl zk zc ⟨x0,t0⟩ ?_;iterate 14 (refine pT rfl rfl ?_ (by intro w' ⟨q0,q1⟩;go_simp;try with_reducible rfl);try simp only[UU])
    simp only[aS];go_wp2;go_roundw;case rel=>exact⟨k+1,by omega,by go_num,Hx.out,Hb.out.drew⟩
    case measure=>simp[intOf];omega
  . obtain rfl:k=A:=by omega
    have hkc:k<=cap:=by omega
    by_cases hkn:k<n
    . have hk2:k<ts.length:=by rw[Hn.out];exact hkn
      obtain⟨l',s',m',e',hx'⟩:∃l s m e,ts[k]=(l,s,m,e):=⟨_,_,_,_,rfl⟩;obtain⟨b,o,rfl,bY⟩:=(Ha.out.below Hb.out).term k hk2 hx';have bB:=jg n cap k (k:Int) (rfl:(some ⟨b,o,none⟩:Option Addr)=_) hkn rfl;have qZ:Op.bytesLess (bs l').toList (bs l).toList=false:=by rw[fS,fS];have:=bX.out hk2;rw[hx']at this;exact this
      have lbt:b<w.heap.size:=by obtain⟨b3,o3,h3,hw3⟩:=Ha.out.term k hk2 hx';simp only[Option.some.injEq,Addr.mk.injEq,and_true]at h3;obtain⟨rfl,rfl⟩:=h3;exact World.block_lt_of_cell? w _ (hw3.cell 0 zm)
      have Ht:Hid (aY wr b (o+k*4) [.string (bs l'),.bool s',.string (bs m'),.int .i64 e']):=bY;clear bY;obtain⟨x0,x1,x2,x3⟩:=Hx.out.c4;obtain⟨t0,t1,t2,t3⟩:=Ht.out.w4;have rc:decide ((k:Int)<(n:Int))=true:=by simp;omega
      go_wp2_with fail;refine bC (λw'=>w'.cell? ⟨w.heap.size,0,none⟩=some (.string (bs l))/\w'.cell? ⟨b,o+k*4,none⟩=some (.string (bs l'))) (λi=>Nat.blt i 100000) [(0,true),(1,true),(2,true),(3,true),(4,true),(5,true),(6,true),(7,true),(8,true),(9,true),(10,true),(11,true),(12,true),(13,true)] zk zk rfl zk zc ⟨x0,t0⟩ ?_;iterate 14 (refine pT rfl rfl ?_ (by intro w' ⟨q0,q1⟩;go_simp;try with_reducible rfl);try simp only[UU])
      simp only[aS];generalize pV:wr.drew=wd;have vd:ai wd w.heap.size 107 [.string (bs l),.bool s,.string (bs m),.int .i64 e]:=by rw[<-pV];exact Hx.out
      have kq:Bw w wd:=by rw[<-pV];exact Hb.out.drew
      have hpre:((ts.take k).flatMap aM).length=k*4:=by rw[ll,List.length_take,Nat.min_eq_left zo]
      have uE:=Ha.out.below kq;have uD:=uE.arR k;obtain⟨uo,jE,AO,Bl⟩:=dH vd kq uD hpre;have Zu:=kq.size;have XN:=uo.out.lt;clear vd kq uD hpre uE pV x0 x1 x2 x3 t0 t1 t2 t3 Hx Ht Hb;go_wp2_with (at_builtin;refine rO rfl _ _ 55 rfl wd.heap.size 107 i0 _ 4 48 Tryz.underlying55 Hi.out cX.out cN.out cO.out rfl zd _ 0 [] rfl (World.ownsRow_made wd #[] 0 (Nat.le_refl _) (Nat.zero_le _) zm) (some ⟨b,o,none⟩) k cap ((ts.take k).flatMap aM) rfl (Sl.some _ _ _ hkc) Bl.out (AO.out.below ((Below.refl _ wd).alloc (Nat.le_refl _) _)) (rL _) zx zo zm ?_;intro v1 w1 df hg1 xj);have hb1:=((Below.refl _ wd).alloc (Nat.le_refl _) _).grown hg1 zm (λk hk=>by have h9:wd.heap.size=k:=Option.some.inj hk;omega);rw[Nat.zero_add,List.nil_append]at df;obtain⟨av,cv,rfl,_,_⟩:=dS df;obtain⟨Hx,Hb⟩:=aL (uo.out.below hb1) (aJ jE.out hb1);obtain⟨b2,o2,fx,bY⟩:=(Ha.out.below Hb.out).term k hk2 hx';simp only[Option.some.injEq,Addr.mk.injEq,and_true]at fx;obtain⟨rfl,rfl⟩:=fx;have Ht:Hid (aY w1 b (o+k*4) [.string (bs l'),.bool s',.string (bs m'),.int .i64 e']):=bY;obtain⟨lG,bI⟩:=aL df hb1;have hsz1:=hb1.size;have jI:ic (s',m',e'):=by have:=Hf.out _ (List.getElem_mem hk2);rw[hx']at this;exact this
      have hel:ts[k]=(l',s',m',e'):=hx';clear df hb1 hg1 xj bY hx' qZ;obtain⟨x0,x1,x2,x3⟩:=Hx.out.c4;obtain⟨t0,t1,t2,t3⟩:=Ht.out.w4;go_wp2_with fail;have FU:((bs l').toList==(bs l).toList)=decide (l'=l):=by rw[fS,fS];by_cases h:l'=l<;>simp[h]
      by_cases he:l'=l
      case neg=>
       rw[decide_eq_false he]at FU;refine bC (λw'=>w'.cell? ⟨w.heap.size,0,none⟩=some (.string (bs l))/\w'.cell? ⟨b,o+k*4,none⟩=some (.string (bs l'))) (λi=>Nat.blt i 100000) [(0,true),(1,true),(2,true),(3,true),(4,true),(5,true),(6,true),(7,true),(8,true),(9,true),(10,true),(11,true),(12,true),(13,true)] zk zk rfl zk zc ⟨x0,t0⟩ ?_;iterate 14 (refine pT rfl rfl ?_ (by intro w' ⟨q0,q1⟩;go_simp;try with_reducible rfl);try simp only[UU])
       simp only[aS];have jq:=bI.out.drew;generalize gH:w1.drew=w2;have hx2:ai w2 w.heap.size 107 [.string (bs l),.bool s,.string (bs m),.int .i64 e]:=by rw[<-gH];exact Hx.out
       have hv2:w2.ownsRow wd.heap.size 107 4 (.slice av k cv) k ((ts.take k).flatMap aM):=by rw[<-gH];exact lG.out
       have cH:=ah hv2;replace Hx:=ah hx2;replace Hb:Hid (Bw w2 w2):=Below.refl _ _;have vS:Hid (Bw wd w2):=by rw[<-gH];exact jq
       have pX:=Ha.out.below jE.out;have hz2:wd.heap.size<=w2.heap.size:=by rw[<-gH];exact hsz1
       obtain⟨S,hS⟩:=aB (aC (s,m,e));have hps:=Om ts (l,s,m,e) k Ei.out (λ_=>by rw[hel];exact he);rw[show aC ((l,s,m,e):aK).2=S from hS]at hps;have oC:((ts.drop k).flatMap aM).length=(n-k) *4:=by rw[ll,List.length_drop,Hn.out]
       have hdr:=pX.arN (n:=n) (cap:=cap) k Hn.out zo GH;have hsc:=Hs.out.cut (k:=k) (size:=4) zo;have agu:(⟨b,o,none⟩:Addr).add (k*4)=⟨b,o+k*4,none⟩:=by unfold Addr.add;split<;>simp_all
       rw[if_neg zo,Option.map_some,agu]at hdr hsc;obtain⟨mB,HS,vX,rV,jr⟩:=fO hps hS oC hdr hsc;have hk1:k<=n:=by omega
       have Mz:k<=cap:=by omega
       clear hps hS hx2 hv2 pX oC hdr hsc gH jq hel jI x0 x1 x2 x3 t0 t1 t2 t3 FU he bB;obtain⟨x0,x1,x2,x3⟩:=Hx.out.c4;go_wp2_with fail;refine bC (λw'=>w'.cell? ⟨w.heap.size,0,none⟩=some (.string (bs l))/\w'.cell? ⟨w.heap.size,1,none⟩=some (.bool s)/\w'.cell? ⟨w.heap.size,2,none⟩=some (.string (bs m))/\w'.cell? ⟨w.heap.size,3,none⟩=some (.int .i64 e)) (λi=>Nat.blt i 100000) [(0,true),(1,true),(2,true),(3,true),(4,true),(5,false),(6,true),(7,false),(8,false),(9,true)] zk zk rfl zk zc ⟨x0,x1,x2,x3⟩ ?_;iterate 5 (refine pT rfl rfl ?_ (by intro w' ⟨q0,q1,q2,q3⟩;go_simp;try with_reducible rfl);try simp only[UU])
       refine aI rfl rfl (λK hK=>?_);go_simp;with_reducible refine(Aj s m e S HS.out _ fI.out).mono ?_
       rintro e w4 ⟨rfl,hq⟩;have ae:Bw w2 w4:=by first|exact hq|exact aN hq
       clear x0 x1 x2 x3;replace Hx:=kB Hx ae;obtain⟨x0,x1,x2,x3⟩:=Hx.out.c4;replace Hb:=au Hb ae;clear ae;refine hK _ _ (λ_=>⟨x0,x1,x2,x3⟩) ?_;clear hK K;try simp only[UU]
       refine pT rfl rfl ?_;try simp only[UU]
       refine aI rfl rfl (λK hK=>?_);go_simp;refine hK _ _ (λ_=>⟨aG x0,aG x1,aG x2,aG x3⟩) ?_;clear hK K;try simp only[UU]
       refine bF (λW5=>ai W5 (w4.heap.size) 107 [.string (bs l),.bool (ar (dN S)),.string (bs (nt (dN S).natAbs)),.int .i64 (dE S)]/\Bw w4 W5) (by first|exact dL|exact dM) ?_;rintro W5 ⟨qc,ae⟩;clear x0 x1 x2 x3;have zW:=Hx.out.lt;replace Hx:=kB Hx ae;have Hc:=ah qc;clear qc;obtain⟨x0,x1,x2,x3⟩:=Hx.out.c4;obtain⟨c0,c1,c2,c3⟩:=Hc.out.c4;replace Hb:=au Hb ae;clear ae;refine aI rfl rfl (λK hK=>?_);have dZ:=ownsRow_below cH.out Hb.out;have hs3:=Hb.out.size;refine wp_append_own _ _ _ 55 rfl wd.heap.size 107 i0 _ 4 48 Tryz.underlying55 Hi.out cX.out cN.out cO.out rfl zd (.slice av k cv) k ((ts.take k).flatMap aM) rfl dZ ⟨w4.heap.size,0,none⟩ 1 1 [.string (bs l),.bool (ar (dN S)),.string (bs (nt (dN S).natAbs)),.int .i64 (dE S)] rfl rfl (gW Hc.out) zy zx zo zo ?_;intro v8 w8 dP bi _;have nb:∀b,b<wd.heap.size->some b≠(Value.slice av k cv).ownBlock:=λb hb e=>by have:=dt dZ b e.symm;omega
       refine hK _ _ (λ_=>⟨bU bi x0 (nb _ zo),bU bi x1 (nb _ zo),bU bi x2 (nb _ zo),bU bi x3 (nb _ zo)⟩) ?_;clear hK K;try simp only[UU]
       have fu:=(aJ vS.out Hb.out).grown bi zo (λj e=>dt dZ j e);obtain⟨fw,ig⟩:=aL fu dP;have td:=bi.size;refine pT rfl rfl ?_;try simp only[UU]
       simp only[aS];clear nb dZ dP bi fu x0 x1 x2 x3 c0 c1 c2 c3;go_wp2_with (at_builtin;refine rO rfl _ _ 55 rfl wd.heap.size 107 i0 _ 4 48 Tryz.underlying55 Hi.out cX.out cN.out cO.out rfl zd v8 (k+1) _ rfl ig.out _ (n-k) (cap-k) ((ts.drop k).flatMap aM) rfl jr.out vX.out (rV.out.below fw.out) (rL _) zx zo zo ?_;intro v9 w9 gq kQ CO);all_goals
        go_ret
        refine⟨v9,rfl,?_,(aJ jE.out fw.out).grown kQ zo (λj e=>by have:=dt ig.out j e;omega)⟩
        rw[mB.out]
        have e9:((ts.take k++[(l,canon S)]++ts.drop k).flatMap aM)=(ts.take k).flatMap aM++[.string (bs l),.bool (ar (dN S)),.string (bs (nt (dN S).natAbs)),.int .i64 (dE S)]++(ts.drop k).flatMap aM:=by rw[List.flatMap_append,List.flatMap_append];rfl
        have l9:(ts.take k++[(l,canon S)]++ts.drop k).length=k+1+(n-k):=by simp[Hn.out];omega
        rw[e9,l9]
        exact oW gq zo
      rw[decide_eq_true he]at FU;refine bC (λw'=>w'.cell? ⟨w.heap.size,0,none⟩=some (.string (bs l))/\w'.cell? ⟨b,o+k*4,none⟩=some (.string (bs l'))) (λi=>Nat.blt i 100000) [(0,true),(1,true),(2,true),(3,true),(4,true),(5,true),(6,true),(7,true),(8,true),(9,true),(10,true),(11,true),(12,true),(13,true)] zk zk rfl zk zc ⟨x0,t0⟩ ?_;iterate 14 (refine pT rfl rfl ?_ (by intro w' ⟨q0,q1⟩;go_simp;try with_reducible rfl);try simp only[UU])
      simp only[aS];have jq:=bI.out.drew;generalize gH:w1.drew=w2;have hx2:ai w2 w.heap.size 107 [.string (bs l),.bool s,.string (bs m),.int .i64 e]:=by rw[<-gH];exact Hx.out
      have ht2:aY w2 b (o+k*4) [.string (bs l'),.bool s',.string (bs m'),.int .i64 e']:=by rw[<-gH];exact Ht.out
      have hb2:Bw w w2:=by rw[<-gH];exact Hb.out.drew
      have hv2:w2.ownsRow wd.heap.size 107 4 (.slice av k cv) k ((ts.take k).flatMap aM):=by rw[<-gH];exact lG.out
      have cH:=ah hv2;replace Hx:=ah hx2;replace Ht:=ah ht2;replace Hb:Hid (Bw w2 w2):=Below.refl _ _;have vS:Hid (Bw wd w2):=by rw[<-gH];exact jq
      have pX:=Ha.out.below jE.out;have hz2:wd.heap.size<=w2.heap.size:=by rw[<-gH];exact hsz1
      obtain⟨S,hS⟩:=aB (aC (s',m',e')+aC (s,m,e));have hps:=alH ts (l,s,m,e) k Ei.out hk2 (by rw[hel];exact he);rw[show aC ts[k].2=aC (s',m',e')by rw[hel],show aC (s',m',e')+aC ((l,s,m,e):aK).2=S from hS]at hps;have oC:((ts.drop (k+1)).flatMap aM).length=(n-(k+1)) *4:=by rw[ll,List.length_drop,Hn.out]
      have hdr:=pX.arN (n:=n) (cap:=cap) (k+1) Hn.out zo GH;have hsc:=Hs.out.cut (k:=k+1) (size:=4) zo;obtain⟨mB,HS,lD,vX,rV,jr⟩:=iz hps hS jI oC hdr hsc;have hk1:k+1<=n:=by omega
      have Mz:k+1<=cap:=by omega
      clear hps hS hel jI hx2 ht2 hb2 hv2 pX oC hdr hsc x0 x1 x2 x3 t0 t1 t2 t3 gH jq FU he bB;obtain⟨x0,x1,x2,x3⟩:=Hx.out.c4;obtain⟨t0,t1,t2,t3⟩:=Ht.out.w4;have bB:=jg n cap k (k:Int) (rfl:(some ⟨b,o,none⟩:Option Addr)=_) hkn rfl;go_wp2_with fail;have GZ:=Hx.out.lt;refine bC (λw'=>w'.cell? ⟨w.heap.size,0,none⟩=some (.string (bs l))/\w'.cell? ⟨w.heap.size,1,none⟩=some (.bool s)/\w'.cell? ⟨w.heap.size,2,none⟩=some (.string (bs m))/\w'.cell? ⟨w.heap.size,3,none⟩=some (.int .i64 e)/\w'.cell? ⟨b,o+k*4,none⟩=some (.string (bs l'))/\w'.cell? ⟨b,o+k*4+1,none⟩=some (.bool s')/\w'.cell? ⟨b,o+k*4+2,none⟩=some (.string (bs m'))/\w'.cell? ⟨b,o+k*4+3,none⟩=some (.int .i64 e')) (λi=>Nat.blt i 100000) [(0,true),(1,true),(2,true),(3,true),(4,true),(5,true),(6,true),(7,true),(8,true),(9,true),(10,false),(11,true),(12,false),(13,false),(14,true)] zk zk rfl zk zc ⟨x0,x1,x2,x3,t0,t1,t2,t3⟩ ?_;iterate 10 (refine pT rfl rfl ?_ (by intro w' ⟨q0,q1,q2,q3,q4,q5,q6,q7⟩;go_simp;try with_reducible rfl);try simp only[UU])
      refine aI rfl rfl (λK hK=>?_);go_simp;with_reducible refine(amc s' m' e' s m e S HS.out _ lD.out fI.out).mono ?_
      rintro e w4 ⟨rfl,hq⟩;have ae:Bw w2 w4:=by first|exact hq|exact aN hq
      clear x0 x1 x2 x3 t0 t1 t2 t3;replace Hx:=kB Hx ae;replace Ht:=kW Ht ae;obtain⟨x0,x1,x2,x3⟩:=Hx.out.c4;obtain⟨t0,t1,t2,t3⟩:=Ht.out.w4;replace Hb:=au Hb ae;clear ae;refine hK _ _ (λ_=>⟨x0,x1,x2,x3,t0,t1,t2,t3⟩) ?_;clear hK K;try simp only[UU]
      refine pT rfl rfl ?_;try simp only[UU]
      refine aI rfl rfl (λK hK=>?_);go_simp;refine hK _ _ (λ_=>⟨aG x0,aG x1,aG x2,aG x3,aG t0,aG t1,aG t2,aG t3⟩) ?_;clear hK K;try simp only[UU]
      refine bF (λW5=>ai W5 (w4.heap.size) 107 [.string (bs l),.bool (ar (dN S)),.string (bs (nt (dN S).natAbs)),.int .i64 (dE S)]/\Bw w4 W5) (by first|exact dL|exact dM) ?_;rintro W5 ⟨qc,ae⟩;clear x0 x1 x2 x3 t0 t1 t2 t3;have zW:=Hx.out.lt;replace Hx:=kB Hx ae;replace Ht:=kW Ht ae;have Hc:=ah qc;clear qc;obtain⟨x0,x1,x2,x3⟩:=Hx.out.c4;obtain⟨t0,t1,t2,t3⟩:=Ht.out.w4;obtain⟨c0,c1,c2,c3⟩:=Hc.out.c4;replace Hb:=au Hb ae;clear ae;refine aI rfl rfl (λK hK=>?_);have dZ:=ownsRow_below cH.out Hb.out;have hs3:=Hb.out.size;refine wp_append_own _ _ _ 55 rfl wd.heap.size 107 i0 _ 4 48 Tryz.underlying55 Hi.out cX.out cN.out cO.out rfl zd (.slice av k cv) k ((ts.take k).flatMap aM) rfl dZ ⟨w4.heap.size,0,none⟩ 1 1 [.string (bs l),.bool (ar (dN S)),.string (bs (nt (dN S).natAbs)),.int .i64 (dE S)] rfl rfl (gW Hc.out) zy zx zo zo ?_;intro v8 w8 dP bi _;have nb:∀b,b<wd.heap.size->some b≠(Value.slice av k cv).ownBlock:=λb hb e=>by have:=dt dZ b e.symm;omega
      refine hK _ _ (λ_=>⟨bU bi x0 (nb _ zo),bU bi x1 (nb _ zo),bU bi x2 (nb _ zo),bU bi x3 (nb _ zo),bU bi t0 (nb _ zp),bU bi t1 (nb _ zp),bU bi t2 (nb _ zp),bU bi t3 (nb _ zp)⟩) ?_;clear hK K;try simp only[UU]
      have fu:=(aJ vS.out Hb.out).grown bi zo (λj e=>dt dZ j e);obtain⟨fw,ig⟩:=aL fu dP;have td:=bi.size;refine pT rfl rfl ?_;try simp only[UU]
      simp only[aS];clear nb dZ dP bi fu x0 x1 x2 x3 t0 t1 t2 t3 c0 c1 c2 c3;go_wp2_with (at_builtin;refine rO rfl _ _ 55 rfl wd.heap.size 107 i0 _ 4 48 Tryz.underlying55 Hi.out cX.out cN.out cO.out rfl zd v8 (k+1) _ rfl ig.out _ (n-(k+1)) (cap-(k+1)) ((ts.drop (k+1)).flatMap aM) rfl jr.out vX.out (rV.out.below fw.out) (rL _) zx zo zo ?_;intro v9 w9 gq kQ CO);all_goals
       go_ret
       refine⟨v9,rfl,?_,(aJ jE.out fw.out).grown kQ zo (λj e=>by have:=dt ig.out j e;omega)⟩
       rw[mB.out]
       have e9:((ts.take k++[(l,canon S)]++ts.drop (k+1)).flatMap aM)=(ts.take k).flatMap aM++[.string (bs l),.bool (ar (dN S)),.string (bs (nt (dN S).natAbs)),.int .i64 (dE S)]++(ts.drop (k+1)).flatMap aM:=by rw[List.flatMap_append,List.flatMap_append];rfl
       have l9:(ts.take k++[(l,canon S)]++ts.drop (k+1)).length=k+1+(n-(k+1)):=by simp[Hn.out];omega
       rw[e9,l9]
       exact oW gq zo
    . obtain rfl:n=k:=by omega
      cases a with
      | none=>
        have hc0:=Hs.out.2 rfl;obtain rfl:n=0:=by omega
        subst hc0;obtain⟨x0,x1,x2,x3⟩:=Hx.out.c4;have rc:decide (((0:Nat):Int)<((0:Nat):Int))=false:=by simp
        go_wp2_with fail;refine bC (λw'=>w'.cell? ⟨w.heap.size,0,none⟩=some (.string (bs l))) (λi=>Nat.blt i 100000) [(0,true),(1,true),(2,true),(3,true),(4,true),(5,true),(6,true),(7,true),(8,true),(9,true),(10,true),(11,true),(12,true),(13,true)] zk zk rfl zk zc x0 ?_;iterate 5 (refine pT rfl rfl ?_;try simp only[UU])
        refine aZ rfl rfl ?_;try simp only[UU]
        refine aZ rfl rfl ?_;try simp only[UU]
        refine aZ rfl rfl ?_;try simp only[UU]
        refine aZ rfl rfl ?_;try simp only[UU]
        refine aZ rfl rfl ?_;try simp only[UU]
        refine aZ rfl rfl ?_;try simp only[UU]
        refine aZ rfl rfl ?_;try simp only[UU]
        refine aZ rfl rfl ?_;try simp only[UU]
        refine pT rfl rfl ?_;try simp only[UU]
        simp only[aS];generalize pV:wr.drew=wd;have vd:ai wd w.heap.size 107 [.string (bs l),.bool s,.string (bs m),.int .i64 e]:=by rw[<-pV];exact Hx.out
        have kq:Bw w wd:=by rw[<-pV];exact Hb.out.drew
        have hpre:((ts.take 0).flatMap aM).length=0*4:=by rw[ll,List.length_take,Nat.min_eq_left (by have:=Hn.out;omega)]
        have uE:=Ha.out.below kq;have uD:=uE.arR 0;have hsk:Sl none 0 0:=Hs.out;obtain⟨uo,jE,AO,Bl⟩:=dH vd kq uD hpre;have Zu:=kq.size;have XN:=uo.out.lt;clear vd kq uD hpre uE pV x0 x1 x2 x3 Hx Hb;go_wp2_with (at_builtin;refine rO rfl _ _ 55 rfl wd.heap.size 107 i0 _ 4 48 Tryz.underlying55 Hi.out cX.out cN.out cO.out rfl zd _ 0 [] rfl (World.ownsRow_made wd #[] 0 (Nat.le_refl _) (Nat.zero_le _) zm) none 0 0 ((ts.take 0).flatMap aM) rfl hsk Bl.out (AO.out.below ((Below.refl _ wd).alloc (Nat.le_refl _) _)) (rL _) (by simp[maxLen]) zo zm ?_;intro v1 w1 df hg1 xj);have hb1:=((Below.refl _ wd).alloc (Nat.le_refl _) _).grown hg1 zm (λk hk=>by have h9:wd.heap.size=k:=Option.some.inj hk;omega);rw[Nat.zero_add,List.nil_append]at df;obtain⟨av,cv,rfl,_,_⟩:=dS df;obtain⟨Hx,Hb,lG,bI⟩:=dH (uo.out.below hb1) (aJ jE.out hb1) df hb1;have hsz1:=hb1.size;clear df hb1 hg1 xj;obtain⟨x0,x1,x2,x3⟩:=Hx.out.c4;go_wp2_with fail;refine bC (λw'=>w'.cell? ⟨w.heap.size,0,none⟩=some (.string (bs l))) (λi=>Nat.blt i 100000) [(0,true),(1,true),(2,true),(3,true),(4,true),(5,true),(6,true),(7,true),(8,true),(9,true),(10,true),(11,true),(12,true),(13,true)] zk zk rfl zk zc x0 ?_;iterate 5 (refine pT rfl rfl ?_;try simp only[UU])
        refine aZ rfl rfl ?_;try simp only[UU]
        refine aZ rfl rfl ?_;try simp only[UU]
        refine aZ rfl rfl ?_;try simp only[UU]
        refine aZ rfl rfl ?_;try simp only[UU]
        refine aZ rfl rfl ?_;try simp only[UU]
        refine aZ rfl rfl ?_;try simp only[UU]
        refine aZ rfl rfl ?_;try simp only[UU]
        refine aZ rfl rfl ?_;try simp only[UU]
        refine pT rfl rfl ?_;try simp only[UU]
        simp only[aS];have jq:=bI.out.drew;generalize gH:w1.drew=w2;have hx2:ai w2 w.heap.size 107 [.string (bs l),.bool s,.string (bs m),.int .i64 e]:=by rw[<-gH];exact Hx.out
        have hv2:w2.ownsRow wd.heap.size 107 4 (.slice av 0 cv) 0 ((ts.take 0).flatMap aM):=by rw[<-gH];exact lG.out
        have cH:=ah hv2;replace Hx:=ah hx2;replace Hb:Hid (Bw w2 w2):=Below.refl _ _;have vS:Hid (Bw wd w2):=by rw[<-gH];exact jq
        have pX:=Ha.out.below jE.out;have hz2:wd.heap.size<=w2.heap.size:=by rw[<-gH];exact hsz1
        obtain⟨S,hS⟩:=aB (aC (s,m,e));have hps:=Om ts (l,s,m,e) 0 Ei.out (λh=>absurd h (by have:=Hn.out;omega));rw[show aC ((l,s,m,e):aK).2=S from hS]at hps;have oC:((ts.drop 0).flatMap aM).length=(0-0) *4:=by rw[ll,List.length_drop,Hn.out]
        have hdr:=pX.arN (n:=0) (cap:=0) 0 Hn.out zo GH;have hsc:=Hs.out.cut (k:=0) (size:=4) zo;obtain⟨mB,HS,vX,rV,jr⟩:=fO hps hS oC hdr hsc;have hk1:0<=0:=by omega
        have Mz:0<=0:=by omega
        clear hps hS hx2 hv2 pX oC hdr hsc gH jq x0 x1 x2 x3;obtain⟨x0,x1,x2,x3⟩:=Hx.out.c4;go_wp2_with fail;refine bC (λw'=>w'.cell? ⟨w.heap.size,0,none⟩=some (.string (bs l))/\w'.cell? ⟨w.heap.size,1,none⟩=some (.bool s)/\w'.cell? ⟨w.heap.size,2,none⟩=some (.string (bs m))/\w'.cell? ⟨w.heap.size,3,none⟩=some (.int .i64 e)) (λi=>Nat.blt i 100000) [(0,true),(1,true),(2,true),(3,true),(4,true),(5,false),(6,true),(7,false),(8,false),(9,true)] zk zk rfl zk zc ⟨x0,x1,x2,x3⟩ ?_;iterate 5 (refine pT rfl rfl ?_ (by intro w' ⟨q0,q1,q2,q3⟩;go_simp;try with_reducible rfl);try simp only[UU])
        refine aI rfl rfl (λK hK=>?_);go_simp;with_reducible refine(Aj s m e S HS.out _ fI.out).mono ?_
        rintro e w4 ⟨rfl,hq⟩;have ae:Bw w2 w4:=by first|exact hq|exact aN hq
        clear x0 x1 x2 x3;replace Hx:=kB Hx ae;obtain⟨x0,x1,x2,x3⟩:=Hx.out.c4;replace Hb:=au Hb ae;clear ae;refine hK _ _ (λ_=>⟨x0,x1,x2,x3⟩) ?_;clear hK K;try simp only[UU]
        refine pT rfl rfl ?_;try simp only[UU]
        refine aI rfl rfl (λK hK=>?_);go_simp;refine hK _ _ (λ_=>⟨aG x0,aG x1,aG x2,aG x3⟩) ?_;clear hK K;try simp only[UU]
        refine bF (λW5=>ai W5 (w4.heap.size) 107 [.string (bs l),.bool (ar (dN S)),.string (bs (nt (dN S).natAbs)),.int .i64 (dE S)]/\Bw w4 W5) (by first|exact dL|exact dM) ?_;rintro W5 ⟨qc,ae⟩;clear x0 x1 x2 x3;have zW:=Hx.out.lt;replace Hx:=kB Hx ae;have Hc:=ah qc;clear qc;obtain⟨x0,x1,x2,x3⟩:=Hx.out.c4;obtain⟨c0,c1,c2,c3⟩:=Hc.out.c4;replace Hb:=au Hb ae;clear ae;refine aI rfl rfl (λK hK=>?_);have dZ:=ownsRow_below cH.out Hb.out;have hs3:=Hb.out.size;refine wp_append_own _ _ _ 55 rfl wd.heap.size 107 i0 _ 4 48 Tryz.underlying55 Hi.out cX.out cN.out cO.out rfl zd (.slice av 0 cv) 0 ((ts.take 0).flatMap aM) rfl dZ ⟨w4.heap.size,0,none⟩ 1 1 [.string (bs l),.bool (ar (dN S)),.string (bs (nt (dN S).natAbs)),.int .i64 (dE S)] rfl rfl (gW Hc.out) zy (by simp[maxLen]) zo zo ?_;intro v8 w8 dP bi _;have nb:∀b,b<wd.heap.size->some b≠(Value.slice av 0 cv).ownBlock:=λb hb e=>by have:=dt dZ b e.symm;omega
        refine hK _ _ (λ_=>⟨bU bi x0 (nb _ zo),bU bi x1 (nb _ zo),bU bi x2 (nb _ zo),bU bi x3 (nb _ zo)⟩) ?_;clear hK K;try simp only[UU]
        have fu:=(aJ vS.out Hb.out).grown bi zo (λj e=>dt dZ j e);obtain⟨fw,ig⟩:=aL fu dP;have td:=bi.size;refine pT rfl rfl ?_;try simp only[UU]
        simp only[aS];clear nb dZ dP bi fu x0 x1 x2 x3 c0 c1 c2 c3;go_wp2_with (at_builtin;refine rO rfl _ _ 55 rfl wd.heap.size 107 i0 _ 4 48 Tryz.underlying55 Hi.out cX.out cN.out cO.out rfl zd v8 (0+1) _ rfl ig.out none 0 0 ((ts.drop 0).flatMap aM) rfl jr.out vX.out (rV.out.below fw.out) (rL _) (by simp[maxLen]) zo zo ?_;intro v9 w9 gq kQ CO);all_goals
         go_ret
         refine⟨v9,rfl,?_,(aJ jE.out fw.out).grown kQ zo (λj e=>by have:=dt ig.out j e;omega)⟩
         rw[mB.out]
         have e9:((ts.take 0++[(l,canon S)]++ts.drop 0).flatMap aM)=(ts.take 0).flatMap aM++[.string (bs l),.bool (ar (dN S)),.string (bs (nt (dN S).natAbs)),.int .i64 (dE S)]++(ts.drop 0).flatMap aM:=by rw[List.flatMap_append,List.flatMap_append];rfl
         have l9:(ts.take 0++[(l,canon S)]++ts.drop 0).length=0+1+0:=by simp[Hn.out]
         rw[e9,l9]
         exact oW gq zo
      | some ad=>
        obtain⟨x0,x1,x2,x3⟩:=Hx.out.c4;have rc:decide ((n:Int)<(n:Int))=false:=by simp
        go_wp2_with fail;refine bC (λw'=>w'.cell? ⟨w.heap.size,0,none⟩=some (.string (bs l))) (λi=>Nat.blt i 100000) [(0,true),(1,true),(2,true),(3,true),(4,true),(5,true),(6,true),(7,true),(8,true),(9,true),(10,true),(11,true),(12,true),(13,true)] zk zk rfl zk zc x0 ?_;iterate 5 (refine pT rfl rfl ?_;try simp only[UU])
        refine aZ rfl rfl ?_;try simp only[UU]
        refine aZ rfl rfl ?_;try simp only[UU]
        refine aZ rfl rfl ?_;try simp only[UU]
        refine aZ rfl rfl ?_;try simp only[UU]
        refine aZ rfl rfl ?_;try simp only[UU]
        refine aZ rfl rfl ?_;try simp only[UU]
        refine aZ rfl rfl ?_;try simp only[UU]
        refine aZ rfl rfl ?_;try simp only[UU]
        refine pT rfl rfl ?_;try simp only[UU]
        simp only[aS];generalize pV:wr.drew=wd;have vd:ai wd w.heap.size 107 [.string (bs l),.bool s,.string (bs m),.int .i64 e]:=by rw[<-pV];exact Hx.out
        have kq:Bw w wd:=by rw[<-pV];exact Hb.out.drew
        have hpre:((ts.take n).flatMap aM).length=n*4:=by rw[ll,List.length_take,Nat.min_eq_left (by have:=Hn.out;omega)]
        have uE:=Ha.out.below kq;have uD:=uE.arR n;have hsk:Sl (some ad) n cap:=Hs.out;obtain⟨uo,jE,AO,Bl⟩:=dH vd kq uD hpre;have Zu:=kq.size;have XN:=uo.out.lt;clear vd kq uD hpre uE pV x0 x1 x2 x3 Hx Hb;go_wp2_with (at_builtin;refine rO rfl _ _ 55 rfl wd.heap.size 107 i0 _ 4 48 Tryz.underlying55 Hi.out cX.out cN.out cO.out rfl zd _ 0 [] rfl (World.ownsRow_made wd #[] 0 (Nat.le_refl _) (Nat.zero_le _) zm) (some ad) n cap ((ts.take n).flatMap aM) rfl hsk Bl.out (AO.out.below ((Below.refl _ wd).alloc (Nat.le_refl _) _)) (rL _) zx zo zm ?_;intro v1 w1 df hg1 xj);have hb1:=((Below.refl _ wd).alloc (Nat.le_refl _) _).grown hg1 zm (λk hk=>by have h9:wd.heap.size=k:=Option.some.inj hk;omega);rw[Nat.zero_add,List.nil_append]at df;obtain⟨av,cv,rfl,_,_⟩:=dS df;obtain⟨Hx,Hb,lG,bI⟩:=dH (uo.out.below hb1) (aJ jE.out hb1) df hb1;have hsz1:=hb1.size;clear df hb1 hg1 xj;obtain⟨x0,x1,x2,x3⟩:=Hx.out.c4;go_wp2_with fail;refine bC (λw'=>w'.cell? ⟨w.heap.size,0,none⟩=some (.string (bs l))) (λi=>Nat.blt i 100000) [(0,true),(1,true),(2,true),(3,true),(4,true),(5,true),(6,true),(7,true),(8,true),(9,true),(10,true),(11,true),(12,true),(13,true)] zk zk rfl zk zc x0 ?_;iterate 5 (refine pT rfl rfl ?_;try simp only[UU])
        refine aZ rfl rfl ?_;try simp only[UU]
        refine aZ rfl rfl ?_;try simp only[UU]
        refine aZ rfl rfl ?_;try simp only[UU]
        refine aZ rfl rfl ?_;try simp only[UU]
        refine aZ rfl rfl ?_;try simp only[UU]
        refine aZ rfl rfl ?_;try simp only[UU]
        refine aZ rfl rfl ?_;try simp only[UU]
        refine aZ rfl rfl ?_;try simp only[UU]
        refine pT rfl rfl ?_;try simp only[UU]
        simp only[aS];have jq:=bI.out.drew;generalize gH:w1.drew=w2;have hx2:ai w2 w.heap.size 107 [.string (bs l),.bool s,.string (bs m),.int .i64 e]:=by rw[<-gH];exact Hx.out
        have hv2:w2.ownsRow wd.heap.size 107 4 (.slice av n cv) n ((ts.take n).flatMap aM):=by rw[<-gH];exact lG.out
        have cH:=ah hv2;replace Hx:=ah hx2;replace Hb:Hid (Bw w2 w2):=Below.refl _ _;have vS:Hid (Bw wd w2):=by rw[<-gH];exact jq
        have pX:=Ha.out.below jE.out;have hz2:wd.heap.size<=w2.heap.size:=by rw[<-gH];exact hsz1
        obtain⟨S,hS⟩:=aB (aC (s,m,e));have hps:=Om ts (l,s,m,e) n Ei.out (λh=>absurd h (by have:=Hn.out;omega));rw[show aC ((l,s,m,e):aK).2=S from hS]at hps;have oC:((ts.drop n).flatMap aM).length=0*4:=by rw[ll,List.length_drop,Hn.out,Nat.sub_self]
        have hdr:=pX.arN (n:=n) (cap:=cap) n Hn.out zo GH;have hsc:=Hs.out.cut (k:=n) (size:=4) zo;rw[Nat.sub_self]at hsc;obtain⟨mB,HS,vX,rV,jr⟩:=fO hps hS oC hdr hsc;have hk1:n<=n:=by omega
        have Mz:n<=cap:=by omega
        clear hps hS hx2 hv2 pX oC hdr hsc gH jq x0 x1 x2 x3;obtain⟨x0,x1,x2,x3⟩:=Hx.out.c4;go_wp2_with fail;refine bC (λw'=>w'.cell? ⟨w.heap.size,0,none⟩=some (.string (bs l))/\w'.cell? ⟨w.heap.size,1,none⟩=some (.bool s)/\w'.cell? ⟨w.heap.size,2,none⟩=some (.string (bs m))/\w'.cell? ⟨w.heap.size,3,none⟩=some (.int .i64 e)) (λi=>Nat.blt i 100000) [(0,true),(1,true),(2,true),(3,true),(4,true),(5,false),(6,true),(7,false),(8,false),(9,true)] zk zk rfl zk zc ⟨x0,x1,x2,x3⟩ ?_;iterate 5 (refine pT rfl rfl ?_ (by intro w' ⟨q0,q1,q2,q3⟩;go_simp;try with_reducible rfl);try simp only[UU])
        refine aI rfl rfl (λK hK=>?_);go_simp;with_reducible refine(Aj s m e S HS.out _ fI.out).mono ?_
        rintro e w4 ⟨rfl,hq⟩;have ae:Bw w2 w4:=by first|exact hq|exact aN hq
        clear x0 x1 x2 x3;replace Hx:=kB Hx ae;obtain⟨x0,x1,x2,x3⟩:=Hx.out.c4;replace Hb:=au Hb ae;clear ae;refine hK _ _ (λ_=>⟨x0,x1,x2,x3⟩) ?_;clear hK K;try simp only[UU]
        refine pT rfl rfl ?_;try simp only[UU]
        refine aI rfl rfl (λK hK=>?_);go_simp;refine hK _ _ (λ_=>⟨aG x0,aG x1,aG x2,aG x3⟩) ?_;clear hK K;try simp only[UU]
        refine bF (λW5=>ai W5 (w4.heap.size) 107 [.string (bs l),.bool (ar (dN S)),.string (bs (nt (dN S).natAbs)),.int .i64 (dE S)]/\Bw w4 W5) (by first|exact dL|exact dM) ?_;rintro W5 ⟨qc,ae⟩;clear x0 x1 x2 x3;have zW:=Hx.out.lt;replace Hx:=kB Hx ae;have Hc:=ah qc;clear qc;obtain⟨x0,x1,x2,x3⟩:=Hx.out.c4;obtain⟨c0,c1,c2,c3⟩:=Hc.out.c4;replace Hb:=au Hb ae;clear ae;refine aI rfl rfl (λK hK=>?_);have dZ:=ownsRow_below cH.out Hb.out;have hs3:=Hb.out.size;refine wp_append_own _ _ _ 55 rfl wd.heap.size 107 i0 _ 4 48 Tryz.underlying55 Hi.out cX.out cN.out cO.out rfl zd (.slice av n cv) n ((ts.take n).flatMap aM) rfl dZ ⟨w4.heap.size,0,none⟩ 1 1 [.string (bs l),.bool (ar (dN S)),.string (bs (nt (dN S).natAbs)),.int .i64 (dE S)] rfl rfl (gW Hc.out) zy zx zo zo ?_;intro v8 w8 dP bi _;have nb:∀b,b<wd.heap.size->some b≠(Value.slice av n cv).ownBlock:=λb hb e=>by have:=dt dZ b e.symm;omega
        refine hK _ _ (λ_=>⟨bU bi x0 (nb _ zo),bU bi x1 (nb _ zo),bU bi x2 (nb _ zo),bU bi x3 (nb _ zo)⟩) ?_;clear hK K;try simp only[UU]
        have fu:=(aJ vS.out Hb.out).grown bi zo (λj e=>dt dZ j e);obtain⟨fw,ig⟩:=aL fu dP;have td:=bi.size;refine pT rfl rfl ?_;try simp only[UU]
        simp only[aS];clear nb dZ dP bi fu x0 x1 x2 x3 c0 c1 c2 c3;go_wp2_with (at_builtin;refine rO rfl _ _ 55 rfl wd.heap.size 107 i0 _ 4 48 Tryz.underlying55 Hi.out cX.out cN.out cO.out rfl zd v8 (n+1) _ rfl ig.out _ 0 (cap-n) ((ts.drop n).flatMap aM) rfl jr.out vX.out (rV.out.below fw.out) (rL _) zx zo zo ?_;intro v9 w9 gq kQ CO);all_goals
         go_ret
         refine⟨v9,rfl,?_,(aJ jE.out fw.out).grown kQ zo (λj e=>by have:=dt ig.out j e;omega)⟩
         rw[mB.out]
         have e9:((ts.take n++[(l,canon S)]++ts.drop n).flatMap aM)=(ts.take n).flatMap aM++[.string (bs l),.bool (ar (dN S)),.string (bs (nt (dN S).natAbs)),.int .i64 (dE S)]++(ts.drop n).flatMap aM:=by rw[List.flatMap_append,List.flatMap_append];rfl
         have l9:(ts.take n++[(l,canon S)]++ts.drop n).length=n+1+0:=by simp[Hn.out]
         rw[e9,l9]
         exact oW gq zo
theorem alI {C:Nat}(l:List aK)(x:aK)(h:∀t∈l,Sm C (aC t.2))(hx:Sm C (aC x.2)):∀t∈gv l x,Sm (C+1) (aC t.2):=by
 have hc:∀X:Dyadic,Sm (C+1) X->Sm (C+1) (aC (canon X)):=λX h=>by rw[bK];exact h
 induction l with
 |nil=>intro t ht;simp only[gv,List.mem_singleton]at ht;rw[ht];exact hc _ (hx.mono zo)
 | cons y l ih=>
   intro t ht;unfold gv at ht;split at ht
   . rcases List.mem_cons.1 ht with rfl|ht
     . exact(h _ zm).mono zo
     . exact ih (λt ht=>h t (by simp[ht])) t ht
   . split at ht
     . rcases List.mem_cons.1 ht with rfl|ht
       . exact hc _ ((h y zm).add hx)
       . exact(h t (by simp[ht])).mono zo
     . rcases List.mem_cons.1 ht with rfl|ht
       . exact hc _ (hx.mono zo)
       . exact(h t ht).mono zo
theorem alM {B:Nat}(l:List aK)(h:∀t∈l,Sm B (aC t.2)):∀t∈gL l,Sm (B+l.length) (aC t.2):=by refine DV (Q:=λl=>(∀t∈l,Sm B (aC t.2))->∀t∈gL l,Sm (B+l.length) (aC t.2)) (λ_ t ht=>by cases ht) (λl x ih h=>?_) l h;rw[Ae];have h1:=ih (λt ht=>h t (by simp[ht]));have:=alI (C:=B+l.length) (gL l) x h1 ((h x zm).mono zo);intro t ht;have h9:=this t ht;rw[List.length_append];exact h9
theorem alK {B:Nat}(l:List aK)(h:∀t∈l,Sm B (aC t.2))(hB:B+l.length<=16384):∀t∈gL l,ic t.2:=λt ht=>by have h1:=alM l h t ht;rw[YH l t ht];exact h1.arJ hB
theorem agO (L:List aK)(k:Nat)(hk:k<L.length):(L.take (k+1)).filter fX=(L.take k).filter fX++if fX L[k]then[L[k]]else[]:=by rw[List.take_succ_eq_append_getElem hk,List.filter_append];congr 1;by_cases h:fX L[k]=true<;>simp[h]
theorem YT (V:Nat)(a:Option Addr)(n cap:Nat)(ts:List aK)(B:Nat)(w:World)(hn:ts.length=n)(hl:n<=4096)(ha:At w a (ts.flatMap aM))(hf:∀t∈ts,ic t.2)(hs:∀t∈ts,Sm B (aC t.2))(hB:B+n<=16384):
 Calls Tryz.prog 81 #[.int .i64 (V:Int),.slice a n cap] w λex w'=>∃a' c',ex=.returned (.tuple #[.agg #[.int .i64 (V:Int),.slice a' (bH ts).length c'],.int .i64 0])/\cz w' a' c' (bH ts)/\Bw w w':=by
 obtain⟨i0,hi,hz0,hz1,hz2⟩:=info_parts Tryz.arL;have ir:=λk=>alK (ts.take k) (λt ht=>hs t (List.mem_of_mem_take ht)) (by rw[List.length_take];omega);have hpl:=λk=>alL (ts.take k);have nH:=ag9 ts;obtain⟨C,hC⟩:=aB (bH ts);have hcl:=yL ts;rw[hC]at nH hcl⊢;obtain⟨Hi,cX,cN,cO,qH,pp,Hgc,Ha,Hf,Hn⟩:=zV hi hz0 hz1 hz2 ir hpl nH ha hf hn;have hC4:C.length<=4096:=by omega
 clear hi hz0 hz1 hz2 ir hpl nH ha hf hs hC hn hcl;obtain⟨W,dF,Hb,Hr⟩:=jl w 57 [.int .i64 0,.slice none 0 0];obtain⟨r0,aj,r1,ak⟩:=Hr.out.g2;go_enter Tryz.func81,Tryz.ntmps81;go_wp2_with fail;have hrl:=Hr.out.lt;go_loopw[6,7] (λs6 x wr=>∃(k:Nat) (v:Value),k<=n/\x=.int .i64 (k:Int)/\v=s6/\wr.ownsRow W.heap.size 107 4 v (gL (ts.take k)).length ((gL (ts.take k)).flatMap aM)/\Bw W wr) (λ_ x _=>n-(intOf x).toNat);case atStart=>exact⟨0,_,Nat.zero_le _,rfl,rfl,World.ownsRow_nil _ _ _ _,Below.refl _ _⟩
 case round=>
  clear r0 aj r1 ak;obtain⟨k,v,hk,rfl,rfl,ho,pb⟩:=hrel;by_cases hlt:k<n
  . have hk2:k<ts.length:=by rw[Hn.out];exact hlt
    obtain⟨l,s,m,e,hx⟩:∃l s m e,ts[k]=(l,s,m,e):=⟨_,_,_,_,rfl⟩;obtain⟨b,o,rfl,bY⟩:=(Ha.out.below (aJ Hb.out pb)).term k hk2 hx;have bB:=jg n cap k (k:Int) (rfl:(some ⟨b,o,none⟩:Option Addr)=_) hlt rfl;obtain⟨av,cv,rfl,uF,_⟩:=dS ho;have CU:=vC ho;have hnx:gL (ts.take (k+1))=gv (gL (ts.take k)) (l,s,m,e):=by rw[List.take_succ_eq_append_getElem hk2,Ae,hx]
    have hp1:(gL (ts.take k)).length<=65536:=by have:=pp.out k;rw[List.length_take]at this;omega
    have dc:ic (s,m,e):=by have:=Hf.out _ (List.getElem_mem hk2);rw[hx]at this;exact this
    have hput:=λ(W':World) (hW:Bw wr W')=>amh av _ cv (gL (ts.take k)) l s m e W' rfl hp1 CU (uF.below hW) (qH.out k) dc;rw[<-hnx]at hput;obtain⟨np,MM⟩:=aB ((gL (ts.take k)).length);rw[MM]at hput;rw[MM];obtain⟨acE,aQ⟩:=aL hput pb;have Ht:Hid (aY wr b (o+k*4) [.string (bs l),.bool s,.string (bs m),.int .i64 e]):=bY;have iG:=pb.size;clear hput pb MM hnx hp1 dc CU uF ho bY hx;have cd:Hid (Bw wr wr):=Below.refl _ _;obtain⟨t0,t1,t2,t3⟩:=Ht.out.w4;go_wp2_with fail;refine(acE.out _ (Below.refl _ _)).mono ?_;rintro ex w2 ⟨v2,rfl,eF,hb2⟩;obtain⟨sk,fg⟩:=aL (oW eF iG) (aJ aQ.out hb2);clear eF hb2;go_wp2;go_roundw;case rel=>exact⟨k+1,v2,by omega,by go_num,rfl,sk.out,fg.out⟩
    case measure=>simp[intOf];omega
  . obtain rfl:k=n:=by omega
    have htk:ts.take k=ts:=List.take_of_length_le (by rw[Hn.out];exact Nat.le_refl _);have ir:=qH.out k;have hpl:=pp.out k;rw[htk]at ho ir hpl;obtain⟨L,hL⟩:=aB (gL ts);have nH:=Hgc.out;rw[hL]at ho ir hpl nH;have hLn:L.length<=4096:=by rw[Hn.out]at hpl;omega
    obtain⟨N,hN⟩:=aB L.length;rw[hN]at ho hLn;obtain⟨av,cv,rfl,uF,_⟩:=dS ho;obtain⟨wg,WZ⟩:∃wg,wg=wr:=⟨_,rfl⟩;subst WZ;obtain⟨Hav,aQ,acA,HN,abO⟩:=fO uF pb ir hN nH;have szg:=pb.size;clear uF ho pb ir hpl nH hN hL htk;go_wp2_with fail;go_loopw[8,9] (λs8 x wr=>∃(j:Nat) (v:Value),j<=N/\x=.int .i64 (j:Int)/\v=s8/\wr.ownsRow wg.heap.size 107 4 v ((L.take j).filter fX).length (((L.take j).filter fX).flatMap aM)/\Bw wg wr) (λ_ x _=>N-(intOf x).toNat);case atStart=>exact⟨0,_,Nat.zero_le _,rfl,rfl,World.ownsRow_nil _ _ _ _,Below.refl _ _⟩
    case round=>
     obtain⟨j,v,hj,rfl,rfl,ho,qb⟩:=hrel;by_cases aW:j<N
     . have iK:j<L.length:=by rw[HN.out];exact aW
       obtain⟨l,s,m,e,hx⟩:∃l s m e,L[j]=(l,s,m,e):=⟨_,_,_,_,rfl⟩;obtain⟨b,o,rfl,bY⟩:=(Hav.out.below qb).term j iK hx;have bB:=jg N cv j (j:Int) (rfl:(some ⟨b,o,none⟩:Option Addr)=_) aW rfl;have hft:=agO L j iK;obtain⟨g,hg⟩:=aB (bV (aC (s,m,e)));have dc:ic (s,m,e):=by have:=acA.out _ (List.getElem_mem iK);rw[hx]at this;exact this
       have gJ:=λW=>Iq s m e g hg W (by have:=dc.1;simp only at this;omega);have hnz:fX L[j]= !(g==0):=by rw[hx];unfold fX;rw[show aC ((l,s,m,e):aK).2=aC (s,m,e)from rfl,hg]
       rw[hnz,hx]at hft;have hfl:((L.take j).filter fX).length<=N:=by have:=List.length_filter_le fX (L.take j);rw[List.length_take]at this;omega
       have Ht:Hid (aY wr b (o+j*4) [.string (bs l),.bool s,.string (bs m),.int .i64 e]):=bY;obtain⟨jF,iR,cH⟩:=cK gJ qb ho;have iG:=qb.size;obtain⟨F,hF⟩:=aB ((L.take j).filter fX);rw[hF]at cH hft hfl;have EF:=ah hft;clear gJ qb ho bY hx hg dc hnz hft hF;have Hb:Hid (Bw wr wr):=Below.refl _ _;obtain⟨t0,t1,t2,t3⟩:=Ht.out.w4;go_wp2_with fail;refine(jF.out _).mono ?_;rintro e w3 ⟨rfl,ae⟩;clear t0 t1 t2 t3;replace Ht:=kW Ht ae;obtain⟨t0,t1,t2,t3⟩:=Ht.out.w4;replace Hb:=au Hb ae;clear ae;by_cases hg0:g=0
       . subst hg0;have hz:(((0:Int)) !=0)=false:=by decide
         have hft:=EF.out;simp only[beq_self_eq_true,Bool.not_true,Bool.false_eq_true,if_false,List.append_nil]at hft;have JB:=ah hft;clear hft EF;obtain⟨Hq3,Ho3⟩:=aL (aJ iR.out Hb.out) (ownsRow_below cH.out Hb.out);go_wp2;go_roundw;case rel=>exact⟨j+1,v,by omega,by go_num,rfl,by rw[JB.out];exact Ho3.out,Hq3.out⟩
         case measure=>simp[intOf];omega
       . have hz:(g !=0)=true:=by simpa using hg0
         have hz2:(g==0)=false:=by simpa using hg0
         have hft:=EF.out;rw[hz2]at hft;simp only[Bool.not_false,if_true]at hft;have JB:=ah hft;clear hft EF;go_upto_region 11 with fail
         have P0:=t0;have P1:=t1;have P2:=t2;have P3:=t3;obtain⟨W5,zh,ae,Hc⟩:=cL w3 107 [.string (bs l),.bool s,.string (bs m),.int .i64 e];clear t0 t1 t2 t3;replace Ht:=kW Ht ae;obtain⟨t0,t1,t2,t3⟩:=Ht.out.w4;obtain⟨c0,c1,c2,c3⟩:=Hc.out.c4;replace Hb:=au Hb ae;clear ae;have xu:=ownsRow_below cH.out Hb.out;have hs5:=Hb.out.size;go_wp2_with (at_builtin;refine wpList_append_own_at _ rfl _ _ 55 rfl wg.heap.size 107 i0 _ 4 48 Tryz.underlying55 Hi.out cX.out cN.out cO.out rfl zd v F.length (F.flatMap aM) rfl xu ⟨w3.heap.size,0,none⟩ 1 1 [.string (bs l),.bool s,.string (bs m),.int .i64 e] rfl rfl (gW Hc.out) zy zx zo zo ?_;intro v' w7 eJ fN _ fU);have je:=(aJ iR.out Hb.out).grown fN zo (λj e=>dt xu j e);have e7:F.flatMap aM++[.string (bs l),.bool s,.string (bs m),.int .i64 e]=(F++[(l,s,m,e)]).flatMap aM:=by rw[List.flatMap_append];rfl
         rw[e7]at eJ;obtain⟨Bh,rS⟩:=aL eJ je;clear eJ je e7 fU fN xu P0 P1 P2 P3 t0 t1 t2 t3 c0 c1 c2 c3;go_wp2;go_roundw;case rel=>exact⟨j+1,v',by omega,by go_num,rfl,by rw[JB.out,List.length_append];exact Bh.out,rS.out⟩
         case measure=>simp[intOf];omega
     . obtain rfl:j=N:=by omega
       have htk:L.take j=L:=List.take_of_length_le (by rw[HN.out];exact Nat.le_refl _);rw[htk,abO.out]at ho;obtain⟨a2,c2,rfl,_,_⟩:=dS ho;obtain⟨Ho,ul⟩:=aL ho (aJ (aJ Hb.out aQ.out) qb);have jx:=aQ.out.size;have Rm:=ah (Hr.out.below (aJ aQ.out qb));have h4:¬(4096:Int)<(C.length:Int):=by omega
       have h4d:decide ((4096:Int)<(C.length:Int))=false:=by simp;omega
       clear ho htk qb;have Hr:=Rm;obtain⟨r0,aj,r1,ak⟩:=Hr.out.g2;go_wp2;refine yH (Rm.out) Ho.out ul.out zo ?_;intro w9 lS gq gX;obtain⟨p0,p1⟩:=lS.c2;exact bodyPost_ret (v:=.tuple #[.agg #[.int .i64 (V:Int),.slice a2 C.length c2],.int .i64 0]) (by simp[results,Tryz.results81,go_sem,p0,p1]) rfl ⟨_,_,rfl,Dm gq,gX⟩
end Go.Proofs.YtdaadlblknpipaaGreatDoor
