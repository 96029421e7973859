/- Packages ogeeref07,ogeeref08: May;put. -/
import Derived.Test.YtdaadlblknpipaaGreatDoorZ15
import Derived.Test.YtdaadlblknpipaaGreatDoorZ11
import Derived.Test.YtdaadlblknpipaaGreatDoorZ17
set_option linter.unusedVariables false
set_option linter.unusedSimpArgs false
set_option maxRecDepth 100000
set_option maxHeartbeats 16000000
namespace Go.Proofs.YtdaadlblknpipaaGreatDoor
open Go.RowKit
attribute [local go_sem ↓] Go.wp_at_zero Go.wp_at_succ
theorem aj5 (l:List UInt8)(v:Int)(w:World)(hl:l.length<=9223372036854775807):
 Calls Tryz.prog 121 #[.string (bs l),.int .i64 v] w λe w'=>e=.returned (.bool (gA l v))/\Bw w w':=by
 obtain⟨n,hn⟩:=aB l.length;have hsz:(bs l).size=n:=by rw[nY,hn]
 obtain⟨M,hM⟩:=aB (gA l v);rw[hM];obtain⟨HM,Hn⟩:=aL hM hn;rw[hn]at hl;clear hM hn;go_enter Tryz.func121,Tryz.ntmps121;have Hb:Hid (Bw w w):=Below.refl _ _;go_wp2_with fail;go_loopw[5] (λx wr=>∃k:Nat,k<=n/\x=.int .i64 (k:Int)/\((l.take k).all λc=>decide (c.toNat<=127))=true/\Bw w wr) (λx _=>n-(intOf x).toNat);case atStart=>exact⟨0,Nat.zero_le _,rfl,rfl,Hb.out⟩
 case round=>
  clear Hb;obtain⟨k,hk,rfl,hall,pb⟩:=hrel;obtain⟨wF,Hb⟩:=aL hall pb;clear hall pb;by_cases hlt:k<n
  . have hk2:k<l.length:=by rw[Hn.out];exact hlt
    have ix:=xU l (k:Int) k hk2 rfl;obtain⟨c,hc⟩:∃c:Nat,(l[k]).toNat=c:=⟨_,rfl⟩;rw[hc]at ix;by_cases h1:128<=c
    . have h2:(128:Int)<=(c:Int):=by omega
      have rX:M=false:=by
       rw[<-HM.out];unfold gA;have:(l.all λc=>decide (c.toNat<=127))=false:=by rw[List.all_eq_false];exact⟨l[k],List.getElem_mem hk2,by simp;omega⟩
       rw[this];rfl
      subst rX;go_wp2;refine bodyPost_ret (v:=.bool false) (by simp[results,Tryz.results121,go_sem]) rfl ⟨rfl,?_⟩;(repeat first|exact Hb.out| (refine Below.setCell ?_ (by have:=Hb.out.size;first| (dsimp only;omega) | (show _<=_;omega) | (simp<;>omega)) _) | (refine Below.alloc ?_ zt _) |refine Below.drew ?_)
    . have h2:¬(128:Int)<=(c:Int):=by omega
      have cd:Hid (((l.take (k+1)).all λc=>decide (c.toNat<=127))=true):=by
       show _=_
       rw[List.take_succ_eq_append_getElem hk2,List.all_append,wF.out];simp;omega
      clear hc;go_wp2;go_roundw;case rel=>exact⟨k+1,by omega,by go_num,cd.out,Hb.out⟩
      case measure=>simp[intOf];omega
  . obtain rfl:k=n:=by omega
    have hme:M=decide ((k:Int)=v):=by rw[<-HM.out];have h:=wF.out;rw[List.take_of_length_le (by rw[Hn.out];exact Nat.le_refl _)]at h;unfold gA;rw[h,Hn.out,Bool.true_and]
    have JY:=ah hme;clear hme;go_wp2;refine bodyPost_ret (results_tmp rfl _ _ _) rfl ⟨?_,Hb.out⟩;rw[JY.out];by_cases h:(k:Int)=v<;>simp[h]
theorem acl (m:List UInt8)(l:List aK)(j:Nat)(h:j<iy m l)(hj:j<l.length):Op.bytesLess l[j].1 m=true:=by
 induction l generalizing j with
 |nil=>simp at hj
 | cons x l ih=>
   unfold iy at h;split at h
   . rename_i hx
     cases j with
     |zero=>exact hx
     |succ j=>exact ih j zo (by simpa using hj)
   . omega
theorem acm (m:List UInt8)(l:List aK)(h:iy m l<l.length):Op.bytesLess l[iy m l].1 m=false:=by
 induction l with
 |nil=>simp at h
 | cons x l ih=>
   by_cases hx:Op.bytesLess x.1 m=true
   . have e:iy m (x::l)=iy m l+1:=by show(if _ then _ else _)=_;rw[if_pos hx]
     simp only[e]at h⊢;exact ih (by simpa using h)
   . have e:iy m (x::l)=0:=by show(if _ then _ else _)=_;rw[if_neg hx]
     simp only[e];simpa using hx
theorem ajD (l:List aK)(x:aK)(k:Nat)(hk:iy x.1 l=k)(h:k<l.length)(e:l[k].1=x.1):gT l x=l.take k++[(x.1,canon (az l[k].2+az x.2))]++l.drop (k+1):=by
 have e1:(l.drop k).head?=some l[k]:=by rw[List.drop_eq_getElem_cons h];rfl
 have e2:(l.drop k).headD default=l[k]:=by rw[List.drop_eq_getElem_cons h];rfl
 rw[XP,hk,e1,e2,if_pos (by rw[Option.map_some,e]),List.append_assoc,List.singleton_append]
theorem OE (l:List aK)(x:aK)(k:Nat)(hk:iy x.1 l=k)(h:∀h:k<l.length,l[k].1≠x.1):gT l x=l.take k++[(x.1,canon (az x.2))]++l.drop k:=by
 rw[XP,hk,if_neg,List.append_assoc,List.singleton_append];intro e;by_cases hl:k<l.length
 . rw[List.drop_eq_getElem_cons hl,List.head?_cons,Option.map_some]at e;exact h hl (Option.some.inj e)
 . rw[List.drop_of_length_le zo]at e;cases e
theorem At.apw {w:World}{a:Option Addr}{ts:List aK}(h:At w a (ts.flatMap aN))(k:Nat):At w a ((ts.take k).flatMap aN):=by
 have e:(ts.take k).flatMap aN++(ts.drop k).flatMap aN=ts.flatMap aN:=by rw[<-List.flatMap_append,List.take_append_drop]
 rcases h with h|⟨b,o,rfl,hc⟩
 . rw[h]at e;exact .inl (List.append_eq_nil_iff.1 e).1
 . by_cases h0:(ts.take k).flatMap aN=[]
   . exact .inl h0
   . refine .inr ⟨b,o,rfl,λj hj=>?_⟩;rw[hc j (by rw[<-e,List.length_append];omega),<-e,List.getElem?_append_left hj]
theorem At.aps {w:World}{a:Option Addr}{ts:List aK}(h:At w a (ts.flatMap aN)){n cap:Nat}(k:Nat)(hn:ts.length=n)(hk:k<=n)(hc:n<=cap):At w (if cap=k then a else a.map (·.add (k*4))) ((ts.drop k).flatMap aN):=by
 have h1:=At.cut (size:=4) (n:=n) (k:=k) (cap:=cap) h (by rw[lW,hn]) hk hc;have e:(ts.drop k).flatMap aN=(ts.flatMap aN).drop (k*4):=by
  have e0:ts.flatMap aN=(ts.take k).flatMap aN++(ts.drop k).flatMap aN:=by rw[<-List.flatMap_append,List.take_append_drop]
  rw[e0,List.drop_append_of_le_length (by rw[lW,List.length_take];omega)];have e1:((ts.take k).flatMap aN).length=k*4:=by rw[lW,List.length_take,Nat.min_eq_left zo]
  rw[<-e1,List.drop_length,List.nil_append]
 rw[e];exact h1
theorem aki (a:Option Addr)(n cap:Nat)(ts:List aK)(l:List UInt8)(s:Bool)(m:List UInt8)(e:Int)(w:World)(hn:ts.length=n)(hl:n<=65536)(hs:Sl a n cap)(ha:At w a (ts.flatMap aN))(hf:∀t∈ts,dV t.2)(hx:dV (s,m,e)):
 Calls Tryz.prog 120 #[.slice a n cap,.agg #[.string (bs l),.bool s,.string (bs m),.int .i64 e]] w λex w'=>∃v',ex=.returned v'/\w'.ownsRow w.heap.size 107 4 v' (gT ts (l,s,m,e)).length ((gT ts (l,s,m,e)).flatMap aN)/\Bw w w':=by
 obtain⟨i0,hi,hz0,hz1,hz2⟩:=info_parts Tryz.apr;obtain⟨A,hA⟩:=aB (iy l ts);have hAn:A<=n:=by rw[<-hA,<-hn];exact ack _ _
 have hgo:∀j (h:j<ts.length),j<A->Op.bytesLess ts[j].1 l=true:=λj h hj=>acl l ts j zo h;have hst:∀(h:A<ts.length),Op.bytesLess ts[A].1 l=false:=λh=>by subst hA;exact acm l ts h
 have GR:=hs.1;obtain⟨Hi,cG,cH,cE,EI,Hgo,cd,Hs,Ha,Hf,iW,Hn⟩:=fR hi hz0 hz1 hz2 hA hgo hst hs ha hf hx hn;clear hi hz0 hz1 hz2 hA hgo hst hs ha hf hx hn;obtain⟨W,dc,Hb,Hx⟩:=iF w 107 [.string (bs l),.bool s,.string (bs m),.int .i64 e];obtain⟨x0,x1,x2,x3⟩:=Hx.out.c4;go_enter Tryz.func120,Tryz.ntmps120;go_wp2_with fail;go_loopw[5] (λx wr=>∃k:Nat,k<=A/\x=.int .i64 (k:Int)/\ak wr w.heap.size 107 [.string (bs l),.bool s,.string (bs m),.int .i64 e]/\Bw w wr) (λx _=>n-(intOf x).toNat);case atStart=>exact⟨0,Nat.zero_le _,rfl,Hx.out,Hb.out⟩
 case round=>
  clear x0 x1 x2 x3 Hx Hb;obtain⟨k,hk,rfl,px,pb⟩:=hrel;obtain⟨Hx,Hb⟩:=aL px pb;clear px pb;by_cases hlt:k<A
  . have hkn:k<n:=by omega
    have hk2:k<ts.length:=by rw[Hn.out];exact hkn
    obtain⟨l',s',m',e',hx'⟩:∃l s m e,ts[k]=(l,s,m,e):=⟨_,_,_,_,rfl⟩;obtain⟨b,o,rfl,cW⟩:=(Ha.out.below Hb.out).term k hk2 hx';have bD:=jJ n cap k (k:Int) (rfl:(some ⟨b,o,none⟩:Option Addr)=_) hkn rfl;have rW:Op.bytesLess (bs l').toList (bs l).toList=true:=by rw[gq,gq];have:=Hgo.out k hk2 hlt;rw[hx']at this;exact this
    have Ht:Hid (aV wr b (o+k*4) [.string (bs l'),.bool s',.string (bs m'),.int .i64 e']):=cW;clear cW hx';obtain⟨x0,x1,x2,x3⟩:=Hx.out.c4;obtain⟨t0,t1,t2,t3⟩:=Ht.out.w4;have pE:decide ((k:Int)<(n:Int))=true:=by simp;omega
    go_wp2_with fail;refine bJ (λw'=>w'.cell? ⟨w.heap.size,0,none⟩=some (.string (bs l))/\w'.cell? ⟨b,o+k*4,none⟩=some (.string (bs l'))) (λi=>Nat.blt i 100000) [(0,true),(1,true),(2,true),(3,true),(4,true),(5,true),(6,true),(7,true),(8,true),(9,true),(10,true),(11,true),(12,true),(13,true)] zk zk rfl zk zc ⟨x0,t0⟩ ?_;iterate 14 (refine pT rfl rfl ?_ (by intro w' ⟨q0,q1⟩;go_simp;try with_reducible rfl);try simp only[UU])
    simp only[aU];go_wp2;go_roundw;case rel=>exact⟨k+1,by omega,by go_num,Hx.out,Hb.out.drew⟩
    case measure=>simp[intOf];omega
  . obtain rfl:k=A:=by omega
    have hkc:k<=cap:=by omega
    by_cases hkn:k<n
    . have hk2:k<ts.length:=by rw[Hn.out];exact hkn
      obtain⟨l',s',m',e',hx'⟩:∃l s m e,ts[k]=(l,s,m,e):=⟨_,_,_,_,rfl⟩;obtain⟨b,o,rfl,cW⟩:=(Ha.out.below Hb.out).term k hk2 hx';have bD:=jJ n cap k (k:Int) (rfl:(some ⟨b,o,none⟩:Option Addr)=_) hkn rfl;have rW:Op.bytesLess (bs l').toList (bs l).toList=false:=by rw[gq,gq];have:=cd.out hk2;rw[hx']at this;exact this
      have lbt:b<w.heap.size:=by obtain⟨b3,o3,h3,hw3⟩:=Ha.out.term k hk2 hx';simp only[Option.some.injEq,Addr.mk.injEq,and_true]at h3;obtain⟨rfl,rfl⟩:=h3;exact World.block_lt_of_cell? w _ (hw3.cell 0 zm)
      have Ht:Hid (aV wr b (o+k*4) [.string (bs l'),.bool s',.string (bs m'),.int .i64 e']):=cW;clear cW;obtain⟨x0,x1,x2,x3⟩:=Hx.out.c4;obtain⟨t0,t1,t2,t3⟩:=Ht.out.w4;have pE:decide ((k:Int)<(n:Int))=true:=by simp;omega
      go_wp2_with fail;refine bJ (λw'=>w'.cell? ⟨w.heap.size,0,none⟩=some (.string (bs l))/\w'.cell? ⟨b,o+k*4,none⟩=some (.string (bs l'))) (λi=>Nat.blt i 100000) [(0,true),(1,true),(2,true),(3,true),(4,true),(5,true),(6,true),(7,true),(8,true),(9,true),(10,true),(11,true),(12,true),(13,true)] zk zk rfl zk zc ⟨x0,t0⟩ ?_;iterate 14 (refine pT rfl rfl ?_ (by intro w' ⟨q0,q1⟩;go_simp;try with_reducible rfl);try simp only[UU])
      simp only[aU];generalize qQ:wr.drew=wd;have vE:ak wd w.heap.size 107 [.string (bs l),.bool s,.string (bs m),.int .i64 e]:=by rw[<-qQ];exact Hx.out
      have kM:Bw w wd:=by rw[<-qQ];exact Hb.out.drew
      have hpre:((ts.take k).flatMap aN).length=k*4:=by rw[lW,List.length_take,Nat.min_eq_left zo]
      have uZ:=Ha.out.below kM;have uY:=uZ.apw k;obtain⟨uJ,jS,Bl,BR⟩:=dW vE kM uY hpre;have YF:=kM.size;have Xb:=uJ.out.lt;clear vE kM uY hpre uZ qQ x0 x1 x2 x3 t0 t1 t2 t3 Hx Ht Hb;go_wp2_with (at_builtin;refine oO rfl _ _ 55 rfl wd.heap.size 107 i0 _ 4 48 Tryz.underlying55 Hi.out cG.out cH.out cE.out rfl zd _ 0 [] rfl (World.ownsRow_made wd #[] 0 (Nat.le_refl _) (Nat.zero_le _) zm) (some ⟨b,o,none⟩) k cap ((ts.take k).flatMap aN) rfl (Sl.some _ _ _ hkc) BR.out (Bl.out.below ((Below.refl _ wd).alloc (Nat.le_refl _) _)) (sS _) zx zo zm ?_;intro v1 w1 cP hg1 qY);have hb1:=((Below.refl _ wd).alloc (Nat.le_refl _) _).grown hg1 zm (λk hk=>by have h9:wd.heap.size=k:=Option.some.inj hk;omega);rw[Nat.zero_add,List.nil_append]at cP;obtain⟨av,cv,rfl,_,_⟩:=di cP;obtain⟨Hx,Hb⟩:=aL (uJ.out.below hb1) (aJ jS.out hb1);obtain⟨b2,o2,dm,cW⟩:=(Ha.out.below Hb.out).term k hk2 hx';simp only[Option.some.injEq,Addr.mk.injEq,and_true]at dm;obtain⟨rfl,rfl⟩:=dm;have Ht:Hid (aV w1 b (o+k*4) [.string (bs l'),.bool s',.string (bs m'),.int .i64 e']):=cW;obtain⟨mz,bQ⟩:=aL cP hb1;have hsz1:=hb1.size;have ke:dV (s',m',e'):=by have:=Hf.out _ (List.getElem_mem hk2);rw[hx']at this;exact this
      have hel:ts[k]=(l',s',m',e'):=hx';clear cP hb1 hg1 qY cW hx' rW;obtain⟨x0,x1,x2,x3⟩:=Hx.out.c4;obtain⟨t0,t1,t2,t3⟩:=Ht.out.w4;go_wp2_with fail;have Ge:((bs l').toList==(bs l).toList)=decide (l'=l):=by rw[gq,gq];by_cases h:l'=l<;>simp[h]
      by_cases he:l'=l
      case neg=>
       rw[decide_eq_false he]at Ge;refine bJ (λw'=>w'.cell? ⟨w.heap.size,0,none⟩=some (.string (bs l))/\w'.cell? ⟨b,o+k*4,none⟩=some (.string (bs l'))) (λi=>Nat.blt i 100000) [(0,true),(1,true),(2,true),(3,true),(4,true),(5,true),(6,true),(7,true),(8,true),(9,true),(10,true),(11,true),(12,true),(13,true)] zk zk rfl zk zc ⟨x0,t0⟩ ?_;iterate 14 (refine pT rfl rfl ?_ (by intro w' ⟨q0,q1⟩;go_simp;try with_reducible rfl);try simp only[UU])
       simp only[aU];have kz:=bQ.out.drew;generalize ik:w1.drew=w2;have hx2:ak w2 w.heap.size 107 [.string (bs l),.bool s,.string (bs m),.int .i64 e]:=by rw[<-ik];exact Hx.out
       have hv2:w2.ownsRow wd.heap.size 107 4 (.slice av k cv) k ((ts.take k).flatMap aN):=by rw[<-ik];exact mz.out
       have cM:=ah hv2;replace Hx:=ah hx2;replace Hb:Hid (Bw w2 w2):=Below.refl _ _;have wG:Hid (Bw wd w2):=by rw[<-ik];exact kz
       have qR:=Ha.out.below jS.out;have hz2:wd.heap.size<=w2.heap.size:=by rw[<-ik];exact hsz1
       obtain⟨S,hS⟩:=aB (az (s,m,e));have hps:=OE ts (l,s,m,e) k EI.out (λ_=>by rw[hel];exact he);rw[show az ((l,s,m,e):aK).2=S from hS]at hps;have qT:((ts.drop k).flatMap aN).length=(n-k) *4:=by rw[lW,List.length_drop,Hn.out]
       have hdr:=qR.aps (n:=n) (cap:=cap) k Hn.out zo GR;have hsc:=Hs.out.cut (k:=k) (size:=4) zo;have aeQ:(⟨b,o,none⟩:Addr).add (k*4)=⟨b,o+k*4,none⟩:=by unfold Addr.add;split<;>simp_all
       rw[if_neg zo,Option.map_some,aeQ]at hdr hsc;obtain⟨oX,HS,wL,td,iJ⟩:=fg hps hS qT hdr hsc;have hk1:k<=n:=by omega
       have GI:k<=cap:=by omega
       clear hps hS hx2 hv2 qR qT hdr hsc ik kz hel ke x0 x1 x2 x3 t0 t1 t2 t3 Ge he bD;obtain⟨x0,x1,x2,x3⟩:=Hx.out.c4;go_wp2_with fail;refine bJ (λw'=>w'.cell? ⟨w.heap.size,0,none⟩=some (.string (bs l))/\w'.cell? ⟨w.heap.size,1,none⟩=some (.bool s)/\w'.cell? ⟨w.heap.size,2,none⟩=some (.string (bs m))/\w'.cell? ⟨w.heap.size,3,none⟩=some (.int .i64 e)) (λi=>Nat.blt i 100000) [(0,true),(1,true),(2,true),(3,true),(4,true),(5,false),(6,true),(7,false),(8,false),(9,true)] zk zk rfl zk zc ⟨x0,x1,x2,x3⟩ ?_;iterate 5 (refine pT rfl rfl ?_ (by intro w' ⟨q0,q1,q2,q3⟩;go_simp;try with_reducible rfl);try simp only[UU])
       refine aI rfl rfl (λK hK=>?_);go_simp;with_reducible refine(yr s m e S HS.out _ iW.out).mono ?_
       rintro e w4 ⟨rfl,hq⟩;have ae:Bw w2 w4:=by first|exact hq|exact aM hq
       clear x0 x1 x2 x3;replace Hx:=kB Hx ae;obtain⟨x0,x1,x2,x3⟩:=Hx.out.c4;replace Hb:=au Hb ae;clear ae;refine hK _ _ (λ_=>⟨x0,x1,x2,x3⟩) ?_;clear hK K;try simp only[UU]
       refine pT rfl rfl ?_;try simp only[UU]
       refine aI rfl rfl (λK hK=>?_);go_simp;refine hK _ _ (λ_=>⟨aG x0,aG x1,aG x2,aG x3⟩) ?_;clear hK K;try simp only[UU]
       refine bN (λW5=>ak W5 (w4.heap.size) 107 [.string (bs l),.bool (ar (dN S)),.string (bs (nt (dN S).natAbs)),.int .i64 (dE S)]/\Bw w4 W5) (by first|exact dP|exact dQ) ?_;rintro W5 ⟨qc,ae⟩;clear x0 x1 x2 x3;have Ah:=Hx.out.lt;replace Hx:=kB Hx ae;have Hc:=ah qc;clear qc;obtain⟨x0,x1,x2,x3⟩:=Hx.out.c4;obtain⟨c0,c1,c2,c3⟩:=Hc.out.c4;replace Hb:=au Hb ae;clear ae;refine aI rfl rfl (λK hK=>?_);have eF:=ownsRow_below cM.out Hb.out;have hs3:=Hb.out.size;refine wp_append_own _ _ _ 55 rfl wd.heap.size 107 i0 _ 4 48 Tryz.underlying55 Hi.out cG.out cH.out cE.out rfl zd (.slice av k cv) k ((ts.take k).flatMap aN) rfl eF ⟨w4.heap.size,0,none⟩ 1 1 [.string (bs l),.bool (ar (dN S)),.string (bs (nt (dN S).natAbs)),.int .i64 (dE S)] rfl rfl (fM Hc.out) zy zx zo zo ?_;intro v8 w8 dv aY _;have nb:∀b,b<wd.heap.size->some b≠(Value.slice av k cv).ownBlock:=λb hb e=>by have:=cJ eF b e.symm;omega
       refine hK _ _ (λ_=>⟨bE aY x0 (nb _ zo),bE aY x1 (nb _ zo),bE aY x2 (nb _ zo),bE aY x3 (nb _ zo)⟩) ?_;clear hK K;try simp only[UU]
       have gY:=(aJ wG.out Hb.out).grown aY zo (λj e=>cJ eF j e);obtain⟨iV,iI⟩:=aL gY dv;have GX:=aY.size;refine pT rfl rfl ?_;try simp only[UU]
       simp only[aU];clear nb eF dv aY gY x0 x1 x2 x3 c0 c1 c2 c3;go_wp2_with (at_builtin;refine oO rfl _ _ 55 rfl wd.heap.size 107 i0 _ 4 48 Tryz.underlying55 Hi.out cG.out cH.out cE.out rfl zd v8 (k+1) _ rfl iI.out _ (n-k) (cap-k) ((ts.drop k).flatMap aN) rfl iJ.out wL.out (td.out.below iV.out) (sS _) zx zo zo ?_;intro v9 w9 gy qV MZ);all_goals
        go_ret
        refine⟨v9,rfl,?_,(aJ jS.out iV.out).grown qV zo (λj e=>by have:=cJ iI.out j e;omega)⟩
        rw[oX.out]
        have e9:((ts.take k++[(l,canon S)]++ts.drop k).flatMap aN)=(ts.take k).flatMap aN++[.string (bs l),.bool (ar (dN S)),.string (bs (nt (dN S).natAbs)),.int .i64 (dE S)]++(ts.drop k).flatMap aN:=by rw[List.flatMap_append,List.flatMap_append];rfl
        have l9:(ts.take k++[(l,canon S)]++ts.drop k).length=k+1+(n-k):=by simp[Hn.out];omega
        rw[e9,l9]
        exact pU gy zo
      rw[decide_eq_true he]at Ge;refine bJ (λw'=>w'.cell? ⟨w.heap.size,0,none⟩=some (.string (bs l))/\w'.cell? ⟨b,o+k*4,none⟩=some (.string (bs l'))) (λi=>Nat.blt i 100000) [(0,true),(1,true),(2,true),(3,true),(4,true),(5,true),(6,true),(7,true),(8,true),(9,true),(10,true),(11,true),(12,true),(13,true)] zk zk rfl zk zc ⟨x0,t0⟩ ?_;iterate 14 (refine pT rfl rfl ?_ (by intro w' ⟨q0,q1⟩;go_simp;try with_reducible rfl);try simp only[UU])
      simp only[aU];have kz:=bQ.out.drew;generalize ik:w1.drew=w2;have hx2:ak w2 w.heap.size 107 [.string (bs l),.bool s,.string (bs m),.int .i64 e]:=by rw[<-ik];exact Hx.out
      have ht2:aV w2 b (o+k*4) [.string (bs l'),.bool s',.string (bs m'),.int .i64 e']:=by rw[<-ik];exact Ht.out
      have hb2:Bw w w2:=by rw[<-ik];exact Hb.out.drew
      have hv2:w2.ownsRow wd.heap.size 107 4 (.slice av k cv) k ((ts.take k).flatMap aN):=by rw[<-ik];exact mz.out
      have cM:=ah hv2;replace Hx:=ah hx2;replace Ht:=ah ht2;replace Hb:Hid (Bw w2 w2):=Below.refl _ _;have wG:Hid (Bw wd w2):=by rw[<-ik];exact kz
      have qR:=Ha.out.below jS.out;have hz2:wd.heap.size<=w2.heap.size:=by rw[<-ik];exact hsz1
      obtain⟨S,hS⟩:=aB (az (s',m',e')+az (s,m,e));have hps:=ajD ts (l,s,m,e) k EI.out hk2 (by rw[hel];exact he);rw[show az ts[k].2=az (s',m',e')by rw[hel],show az (s',m',e')+az ((l,s,m,e):aK).2=S from hS]at hps;have qT:((ts.drop (k+1)).flatMap aN).length=(n-(k+1)) *4:=by rw[lW,List.length_drop,Hn.out]
      have hdr:=qR.aps (n:=n) (cap:=cap) (k+1) Hn.out zo GR;have hsc:=Hs.out.cut (k:=k+1) (size:=4) zo;obtain⟨oX,HS,mn,wL,td,iJ⟩:=gN hps hS ke qT hdr hsc;have hk1:k+1<=n:=by omega
      have GI:k+1<=cap:=by omega
      clear hps hS hel ke hx2 ht2 hb2 hv2 qR qT hdr hsc x0 x1 x2 x3 t0 t1 t2 t3 ik kz Ge he bD;obtain⟨x0,x1,x2,x3⟩:=Hx.out.c4;obtain⟨t0,t1,t2,t3⟩:=Ht.out.w4;have bD:=jJ n cap k (k:Int) (rfl:(some ⟨b,o,none⟩:Option Addr)=_) hkn rfl;go_wp2_with fail;have NH:=Hx.out.lt;refine bJ (λw'=>w'.cell? ⟨w.heap.size,0,none⟩=some (.string (bs l))/\w'.cell? ⟨w.heap.size,1,none⟩=some (.bool s)/\w'.cell? ⟨w.heap.size,2,none⟩=some (.string (bs m))/\w'.cell? ⟨w.heap.size,3,none⟩=some (.int .i64 e)/\w'.cell? ⟨b,o+k*4,none⟩=some (.string (bs l'))/\w'.cell? ⟨b,o+k*4+1,none⟩=some (.bool s')/\w'.cell? ⟨b,o+k*4+2,none⟩=some (.string (bs m'))/\w'.cell? ⟨b,o+k*4+3,none⟩=some (.int .i64 e')) (λi=>Nat.blt i 100000) [(0,true),(1,true),(2,true),(3,true),(4,true),(5,true),(6,true),(7,true),(8,true),(9,true),(10,false),(11,true),(12,false),(13,false),(14,true)] zk zk rfl zk zc ⟨x0,x1,x2,x3,t0,t1,t2,t3⟩ ?_;iterate 10 (refine pT rfl rfl ?_ (by intro w' ⟨q0,q1,q2,q3,q4,q5,q6,q7⟩;go_simp;try with_reducible rfl);try simp only[UU])
      refine aI rfl rfl (λK hK=>?_);go_simp;with_reducible refine(Eu s' m' e' s m e S HS.out _ mn.out iW.out).mono ?_
      rintro e w4 ⟨rfl,hq⟩;have ae:Bw w2 w4:=by first|exact hq|exact aM hq
      clear x0 x1 x2 x3 t0 t1 t2 t3;replace Hx:=kB Hx ae;replace Ht:=kW Ht ae;obtain⟨x0,x1,x2,x3⟩:=Hx.out.c4;obtain⟨t0,t1,t2,t3⟩:=Ht.out.w4;replace Hb:=au Hb ae;clear ae;refine hK _ _ (λ_=>⟨x0,x1,x2,x3,t0,t1,t2,t3⟩) ?_;clear hK K;try simp only[UU]
      refine pT rfl rfl ?_;try simp only[UU]
      refine aI rfl rfl (λK hK=>?_);go_simp;refine hK _ _ (λ_=>⟨aG x0,aG x1,aG x2,aG x3,aG t0,aG t1,aG t2,aG t3⟩) ?_;clear hK K;try simp only[UU]
      refine bN (λW5=>ak W5 (w4.heap.size) 107 [.string (bs l),.bool (ar (dN S)),.string (bs (nt (dN S).natAbs)),.int .i64 (dE S)]/\Bw w4 W5) (by first|exact dP|exact dQ) ?_;rintro W5 ⟨qc,ae⟩;clear x0 x1 x2 x3 t0 t1 t2 t3;have Ah:=Hx.out.lt;replace Hx:=kB Hx ae;replace Ht:=kW Ht ae;have Hc:=ah qc;clear qc;obtain⟨x0,x1,x2,x3⟩:=Hx.out.c4;obtain⟨t0,t1,t2,t3⟩:=Ht.out.w4;obtain⟨c0,c1,c2,c3⟩:=Hc.out.c4;replace Hb:=au Hb ae;clear ae;refine aI rfl rfl (λK hK=>?_);have eF:=ownsRow_below cM.out Hb.out;have hs3:=Hb.out.size;refine wp_append_own _ _ _ 55 rfl wd.heap.size 107 i0 _ 4 48 Tryz.underlying55 Hi.out cG.out cH.out cE.out rfl zd (.slice av k cv) k ((ts.take k).flatMap aN) rfl eF ⟨w4.heap.size,0,none⟩ 1 1 [.string (bs l),.bool (ar (dN S)),.string (bs (nt (dN S).natAbs)),.int .i64 (dE S)] rfl rfl (fM Hc.out) zy zx zo zo ?_;intro v8 w8 dv aY _;have nb:∀b,b<wd.heap.size->some b≠(Value.slice av k cv).ownBlock:=λb hb e=>by have:=cJ eF b e.symm;omega
      refine hK _ _ (λ_=>⟨bE aY x0 (nb _ zo),bE aY x1 (nb _ zo),bE aY x2 (nb _ zo),bE aY x3 (nb _ zo),bE aY t0 (nb _ zp),bE aY t1 (nb _ zp),bE aY t2 (nb _ zp),bE aY t3 (nb _ zp)⟩) ?_;clear hK K;try simp only[UU]
      have gY:=(aJ wG.out Hb.out).grown aY zo (λj e=>cJ eF j e);obtain⟨iV,iI⟩:=aL gY dv;have GX:=aY.size;refine pT rfl rfl ?_;try simp only[UU]
      simp only[aU];clear nb eF dv aY gY x0 x1 x2 x3 t0 t1 t2 t3 c0 c1 c2 c3;go_wp2_with (at_builtin;refine oO rfl _ _ 55 rfl wd.heap.size 107 i0 _ 4 48 Tryz.underlying55 Hi.out cG.out cH.out cE.out rfl zd v8 (k+1) _ rfl iI.out _ (n-(k+1)) (cap-(k+1)) ((ts.drop (k+1)).flatMap aN) rfl iJ.out wL.out (td.out.below iV.out) (sS _) zx zo zo ?_;intro v9 w9 gy qV MZ);all_goals
       go_ret
       refine⟨v9,rfl,?_,(aJ jS.out iV.out).grown qV zo (λj e=>by have:=cJ iI.out j e;omega)⟩
       rw[oX.out]
       have e9:((ts.take k++[(l,canon S)]++ts.drop (k+1)).flatMap aN)=(ts.take k).flatMap aN++[.string (bs l),.bool (ar (dN S)),.string (bs (nt (dN S).natAbs)),.int .i64 (dE S)]++(ts.drop (k+1)).flatMap aN:=by rw[List.flatMap_append,List.flatMap_append];rfl
       have l9:(ts.take k++[(l,canon S)]++ts.drop (k+1)).length=k+1+(n-(k+1)):=by simp[Hn.out];omega
       rw[e9,l9]
       exact pU gy zo
    . obtain rfl:n=k:=by omega
      cases a with
      | none=>
        have hc0:=Hs.out.2 rfl;obtain rfl:n=0:=by omega
        subst hc0;obtain⟨x0,x1,x2,x3⟩:=Hx.out.c4;have pE:decide (((0:Nat):Int)<((0:Nat):Int))=false:=by simp
        go_wp2_with fail;refine bJ (λw'=>w'.cell? ⟨w.heap.size,0,none⟩=some (.string (bs l))) (λi=>Nat.blt i 100000) [(0,true),(1,true),(2,true),(3,true),(4,true),(5,true),(6,true),(7,true),(8,true),(9,true),(10,true),(11,true),(12,true),(13,true)] zk zk rfl zk zc x0 ?_;iterate 5 (refine pT rfl rfl ?_;try simp only[UU])
        refine bu rfl rfl ?_;try simp only[UU]
        refine bu rfl rfl ?_;try simp only[UU]
        refine bu rfl rfl ?_;try simp only[UU]
        refine bu rfl rfl ?_;try simp only[UU]
        refine bu rfl rfl ?_;try simp only[UU]
        refine bu rfl rfl ?_;try simp only[UU]
        refine bu rfl rfl ?_;try simp only[UU]
        refine bu rfl rfl ?_;try simp only[UU]
        refine pT rfl rfl ?_;try simp only[UU]
        simp only[aU];generalize qQ:wr.drew=wd;have vE:ak wd w.heap.size 107 [.string (bs l),.bool s,.string (bs m),.int .i64 e]:=by rw[<-qQ];exact Hx.out
        have kM:Bw w wd:=by rw[<-qQ];exact Hb.out.drew
        have hpre:((ts.take 0).flatMap aN).length=0*4:=by rw[lW,List.length_take,Nat.min_eq_left (by have:=Hn.out;omega)]
        have uZ:=Ha.out.below kM;have uY:=uZ.apw 0;have hsk:Sl none 0 0:=Hs.out;obtain⟨uJ,jS,Bl,BR⟩:=dW vE kM uY hpre;have YF:=kM.size;have Xb:=uJ.out.lt;clear vE kM uY hpre uZ qQ x0 x1 x2 x3 Hx Hb;go_wp2_with (at_builtin;refine oO rfl _ _ 55 rfl wd.heap.size 107 i0 _ 4 48 Tryz.underlying55 Hi.out cG.out cH.out cE.out rfl zd _ 0 [] rfl (World.ownsRow_made wd #[] 0 (Nat.le_refl _) (Nat.zero_le _) zm) none 0 0 ((ts.take 0).flatMap aN) rfl hsk BR.out (Bl.out.below ((Below.refl _ wd).alloc (Nat.le_refl _) _)) (sS _) (by simp[maxLen]) zo zm ?_;intro v1 w1 cP hg1 qY);have hb1:=((Below.refl _ wd).alloc (Nat.le_refl _) _).grown hg1 zm (λk hk=>by have h9:wd.heap.size=k:=Option.some.inj hk;omega);rw[Nat.zero_add,List.nil_append]at cP;obtain⟨av,cv,rfl,_,_⟩:=di cP;obtain⟨Hx,Hb,mz,bQ⟩:=dW (uJ.out.below hb1) (aJ jS.out hb1) cP hb1;have hsz1:=hb1.size;clear cP hb1 hg1 qY;obtain⟨x0,x1,x2,x3⟩:=Hx.out.c4;go_wp2_with fail;refine bJ (λw'=>w'.cell? ⟨w.heap.size,0,none⟩=some (.string (bs l))) (λi=>Nat.blt i 100000) [(0,true),(1,true),(2,true),(3,true),(4,true),(5,true),(6,true),(7,true),(8,true),(9,true),(10,true),(11,true),(12,true),(13,true)] zk zk rfl zk zc x0 ?_;iterate 5 (refine pT rfl rfl ?_;try simp only[UU])
        refine bu rfl rfl ?_;try simp only[UU]
        refine bu rfl rfl ?_;try simp only[UU]
        refine bu rfl rfl ?_;try simp only[UU]
        refine bu rfl rfl ?_;try simp only[UU]
        refine bu rfl rfl ?_;try simp only[UU]
        refine bu rfl rfl ?_;try simp only[UU]
        refine bu rfl rfl ?_;try simp only[UU]
        refine bu rfl rfl ?_;try simp only[UU]
        refine pT rfl rfl ?_;try simp only[UU]
        simp only[aU];have kz:=bQ.out.drew;generalize ik:w1.drew=w2;have hx2:ak w2 w.heap.size 107 [.string (bs l),.bool s,.string (bs m),.int .i64 e]:=by rw[<-ik];exact Hx.out
        have hv2:w2.ownsRow wd.heap.size 107 4 (.slice av 0 cv) 0 ((ts.take 0).flatMap aN):=by rw[<-ik];exact mz.out
        have cM:=ah hv2;replace Hx:=ah hx2;replace Hb:Hid (Bw w2 w2):=Below.refl _ _;have wG:Hid (Bw wd w2):=by rw[<-ik];exact kz
        have qR:=Ha.out.below jS.out;have hz2:wd.heap.size<=w2.heap.size:=by rw[<-ik];exact hsz1
        obtain⟨S,hS⟩:=aB (az (s,m,e));have hps:=OE ts (l,s,m,e) 0 EI.out (λh=>absurd h (by have:=Hn.out;omega));rw[show az ((l,s,m,e):aK).2=S from hS]at hps;have qT:((ts.drop 0).flatMap aN).length=(0-0) *4:=by rw[lW,List.length_drop,Hn.out]
        have hdr:=qR.aps (n:=0) (cap:=0) 0 Hn.out zo GR;have hsc:=Hs.out.cut (k:=0) (size:=4) zo;obtain⟨oX,HS,wL,td,iJ⟩:=fg hps hS qT hdr hsc;have hk1:0<=0:=by omega
        have GI:0<=0:=by omega
        clear hps hS hx2 hv2 qR qT hdr hsc ik kz x0 x1 x2 x3;obtain⟨x0,x1,x2,x3⟩:=Hx.out.c4;go_wp2_with fail;refine bJ (λw'=>w'.cell? ⟨w.heap.size,0,none⟩=some (.string (bs l))/\w'.cell? ⟨w.heap.size,1,none⟩=some (.bool s)/\w'.cell? ⟨w.heap.size,2,none⟩=some (.string (bs m))/\w'.cell? ⟨w.heap.size,3,none⟩=some (.int .i64 e)) (λi=>Nat.blt i 100000) [(0,true),(1,true),(2,true),(3,true),(4,true),(5,false),(6,true),(7,false),(8,false),(9,true)] zk zk rfl zk zc ⟨x0,x1,x2,x3⟩ ?_;iterate 5 (refine pT rfl rfl ?_ (by intro w' ⟨q0,q1,q2,q3⟩;go_simp;try with_reducible rfl);try simp only[UU])
        refine aI rfl rfl (λK hK=>?_);go_simp;with_reducible refine(yr s m e S HS.out _ iW.out).mono ?_
        rintro e w4 ⟨rfl,hq⟩;have ae:Bw w2 w4:=by first|exact hq|exact aM hq
        clear x0 x1 x2 x3;replace Hx:=kB Hx ae;obtain⟨x0,x1,x2,x3⟩:=Hx.out.c4;replace Hb:=au Hb ae;clear ae;refine hK _ _ (λ_=>⟨x0,x1,x2,x3⟩) ?_;clear hK K;try simp only[UU]
        refine pT rfl rfl ?_;try simp only[UU]
        refine aI rfl rfl (λK hK=>?_);go_simp;refine hK _ _ (λ_=>⟨aG x0,aG x1,aG x2,aG x3⟩) ?_;clear hK K;try simp only[UU]
        refine bN (λW5=>ak W5 (w4.heap.size) 107 [.string (bs l),.bool (ar (dN S)),.string (bs (nt (dN S).natAbs)),.int .i64 (dE S)]/\Bw w4 W5) (by first|exact dP|exact dQ) ?_;rintro W5 ⟨qc,ae⟩;clear x0 x1 x2 x3;have Ah:=Hx.out.lt;replace Hx:=kB Hx ae;have Hc:=ah qc;clear qc;obtain⟨x0,x1,x2,x3⟩:=Hx.out.c4;obtain⟨c0,c1,c2,c3⟩:=Hc.out.c4;replace Hb:=au Hb ae;clear ae;refine aI rfl rfl (λK hK=>?_);have eF:=ownsRow_below cM.out Hb.out;have hs3:=Hb.out.size;refine wp_append_own _ _ _ 55 rfl wd.heap.size 107 i0 _ 4 48 Tryz.underlying55 Hi.out cG.out cH.out cE.out rfl zd (.slice av 0 cv) 0 ((ts.take 0).flatMap aN) rfl eF ⟨w4.heap.size,0,none⟩ 1 1 [.string (bs l),.bool (ar (dN S)),.string (bs (nt (dN S).natAbs)),.int .i64 (dE S)] rfl rfl (fM Hc.out) zy (by simp[maxLen]) zo zo ?_;intro v8 w8 dv aY _;have nb:∀b,b<wd.heap.size->some b≠(Value.slice av 0 cv).ownBlock:=λb hb e=>by have:=cJ eF b e.symm;omega
        refine hK _ _ (λ_=>⟨bE aY x0 (nb _ zo),bE aY x1 (nb _ zo),bE aY x2 (nb _ zo),bE aY x3 (nb _ zo)⟩) ?_;clear hK K;try simp only[UU]
        have gY:=(aJ wG.out Hb.out).grown aY zo (λj e=>cJ eF j e);obtain⟨iV,iI⟩:=aL gY dv;have GX:=aY.size;refine pT rfl rfl ?_;try simp only[UU]
        simp only[aU];clear nb eF dv aY gY x0 x1 x2 x3 c0 c1 c2 c3;go_wp2_with (at_builtin;refine oO rfl _ _ 55 rfl wd.heap.size 107 i0 _ 4 48 Tryz.underlying55 Hi.out cG.out cH.out cE.out rfl zd v8 (0+1) _ rfl iI.out none 0 0 ((ts.drop 0).flatMap aN) rfl iJ.out wL.out (td.out.below iV.out) (sS _) (by simp[maxLen]) zo zo ?_;intro v9 w9 gy qV MZ);all_goals
         go_ret
         refine⟨v9,rfl,?_,(aJ jS.out iV.out).grown qV zo (λj e=>by have:=cJ iI.out j e;omega)⟩
         rw[oX.out]
         have e9:((ts.take 0++[(l,canon S)]++ts.drop 0).flatMap aN)=(ts.take 0).flatMap aN++[.string (bs l),.bool (ar (dN S)),.string (bs (nt (dN S).natAbs)),.int .i64 (dE S)]++(ts.drop 0).flatMap aN:=by rw[List.flatMap_append,List.flatMap_append];rfl
         have l9:(ts.take 0++[(l,canon S)]++ts.drop 0).length=0+1+0:=by simp[Hn.out]
         rw[e9,l9]
         exact pU gy zo
      | some ad=>
        obtain⟨x0,x1,x2,x3⟩:=Hx.out.c4;have pE:decide ((n:Int)<(n:Int))=false:=by simp
        go_wp2_with fail;refine bJ (λw'=>w'.cell? ⟨w.heap.size,0,none⟩=some (.string (bs l))) (λi=>Nat.blt i 100000) [(0,true),(1,true),(2,true),(3,true),(4,true),(5,true),(6,true),(7,true),(8,true),(9,true),(10,true),(11,true),(12,true),(13,true)] zk zk rfl zk zc x0 ?_;iterate 5 (refine pT rfl rfl ?_;try simp only[UU])
        refine bu rfl rfl ?_;try simp only[UU]
        refine bu rfl rfl ?_;try simp only[UU]
        refine bu rfl rfl ?_;try simp only[UU]
        refine bu rfl rfl ?_;try simp only[UU]
        refine bu rfl rfl ?_;try simp only[UU]
        refine bu rfl rfl ?_;try simp only[UU]
        refine bu rfl rfl ?_;try simp only[UU]
        refine bu rfl rfl ?_;try simp only[UU]
        refine pT rfl rfl ?_;try simp only[UU]
        simp only[aU];generalize qQ:wr.drew=wd;have vE:ak wd w.heap.size 107 [.string (bs l),.bool s,.string (bs m),.int .i64 e]:=by rw[<-qQ];exact Hx.out
        have kM:Bw w wd:=by rw[<-qQ];exact Hb.out.drew
        have hpre:((ts.take n).flatMap aN).length=n*4:=by rw[lW,List.length_take,Nat.min_eq_left (by have:=Hn.out;omega)]
        have uZ:=Ha.out.below kM;have uY:=uZ.apw n;have hsk:Sl (some ad) n cap:=Hs.out;obtain⟨uJ,jS,Bl,BR⟩:=dW vE kM uY hpre;have YF:=kM.size;have Xb:=uJ.out.lt;clear vE kM uY hpre uZ qQ x0 x1 x2 x3 Hx Hb;go_wp2_with (at_builtin;refine oO rfl _ _ 55 rfl wd.heap.size 107 i0 _ 4 48 Tryz.underlying55 Hi.out cG.out cH.out cE.out rfl zd _ 0 [] rfl (World.ownsRow_made wd #[] 0 (Nat.le_refl _) (Nat.zero_le _) zm) (some ad) n cap ((ts.take n).flatMap aN) rfl hsk BR.out (Bl.out.below ((Below.refl _ wd).alloc (Nat.le_refl _) _)) (sS _) zx zo zm ?_;intro v1 w1 cP hg1 qY);have hb1:=((Below.refl _ wd).alloc (Nat.le_refl _) _).grown hg1 zm (λk hk=>by have h9:wd.heap.size=k:=Option.some.inj hk;omega);rw[Nat.zero_add,List.nil_append]at cP;obtain⟨av,cv,rfl,_,_⟩:=di cP;obtain⟨Hx,Hb,mz,bQ⟩:=dW (uJ.out.below hb1) (aJ jS.out hb1) cP hb1;have hsz1:=hb1.size;clear cP hb1 hg1 qY;obtain⟨x0,x1,x2,x3⟩:=Hx.out.c4;go_wp2_with fail;refine bJ (λw'=>w'.cell? ⟨w.heap.size,0,none⟩=some (.string (bs l))) (λi=>Nat.blt i 100000) [(0,true),(1,true),(2,true),(3,true),(4,true),(5,true),(6,true),(7,true),(8,true),(9,true),(10,true),(11,true),(12,true),(13,true)] zk zk rfl zk zc x0 ?_;iterate 5 (refine pT rfl rfl ?_;try simp only[UU])
        refine bu rfl rfl ?_;try simp only[UU]
        refine bu rfl rfl ?_;try simp only[UU]
        refine bu rfl rfl ?_;try simp only[UU]
        refine bu rfl rfl ?_;try simp only[UU]
        refine bu rfl rfl ?_;try simp only[UU]
        refine bu rfl rfl ?_;try simp only[UU]
        refine bu rfl rfl ?_;try simp only[UU]
        refine bu rfl rfl ?_;try simp only[UU]
        refine pT rfl rfl ?_;try simp only[UU]
        simp only[aU];have kz:=bQ.out.drew;generalize ik:w1.drew=w2;have hx2:ak w2 w.heap.size 107 [.string (bs l),.bool s,.string (bs m),.int .i64 e]:=by rw[<-ik];exact Hx.out
        have hv2:w2.ownsRow wd.heap.size 107 4 (.slice av n cv) n ((ts.take n).flatMap aN):=by rw[<-ik];exact mz.out
        have cM:=ah hv2;replace Hx:=ah hx2;replace Hb:Hid (Bw w2 w2):=Below.refl _ _;have wG:Hid (Bw wd w2):=by rw[<-ik];exact kz
        have qR:=Ha.out.below jS.out;have hz2:wd.heap.size<=w2.heap.size:=by rw[<-ik];exact hsz1
        obtain⟨S,hS⟩:=aB (az (s,m,e));have hps:=OE ts (l,s,m,e) n EI.out (λh=>absurd h (by have:=Hn.out;omega));rw[show az ((l,s,m,e):aK).2=S from hS]at hps;have qT:((ts.drop n).flatMap aN).length=0*4:=by rw[lW,List.length_drop,Hn.out,Nat.sub_self]
        have hdr:=qR.aps (n:=n) (cap:=cap) n Hn.out zo GR;have hsc:=Hs.out.cut (k:=n) (size:=4) zo;rw[Nat.sub_self]at hsc;obtain⟨oX,HS,wL,td,iJ⟩:=fg hps hS qT hdr hsc;have hk1:n<=n:=by omega
        have GI:n<=cap:=by omega
        clear hps hS hx2 hv2 qR qT hdr hsc ik kz x0 x1 x2 x3;obtain⟨x0,x1,x2,x3⟩:=Hx.out.c4;go_wp2_with fail;refine bJ (λw'=>w'.cell? ⟨w.heap.size,0,none⟩=some (.string (bs l))/\w'.cell? ⟨w.heap.size,1,none⟩=some (.bool s)/\w'.cell? ⟨w.heap.size,2,none⟩=some (.string (bs m))/\w'.cell? ⟨w.heap.size,3,none⟩=some (.int .i64 e)) (λi=>Nat.blt i 100000) [(0,true),(1,true),(2,true),(3,true),(4,true),(5,false),(6,true),(7,false),(8,false),(9,true)] zk zk rfl zk zc ⟨x0,x1,x2,x3⟩ ?_;iterate 5 (refine pT rfl rfl ?_ (by intro w' ⟨q0,q1,q2,q3⟩;go_simp;try with_reducible rfl);try simp only[UU])
        refine aI rfl rfl (λK hK=>?_);go_simp;with_reducible refine(yr s m e S HS.out _ iW.out).mono ?_
        rintro e w4 ⟨rfl,hq⟩;have ae:Bw w2 w4:=by first|exact hq|exact aM hq
        clear x0 x1 x2 x3;replace Hx:=kB Hx ae;obtain⟨x0,x1,x2,x3⟩:=Hx.out.c4;replace Hb:=au Hb ae;clear ae;refine hK _ _ (λ_=>⟨x0,x1,x2,x3⟩) ?_;clear hK K;try simp only[UU]
        refine pT rfl rfl ?_;try simp only[UU]
        refine aI rfl rfl (λK hK=>?_);go_simp;refine hK _ _ (λ_=>⟨aG x0,aG x1,aG x2,aG x3⟩) ?_;clear hK K;try simp only[UU]
        refine bN (λW5=>ak W5 (w4.heap.size) 107 [.string (bs l),.bool (ar (dN S)),.string (bs (nt (dN S).natAbs)),.int .i64 (dE S)]/\Bw w4 W5) (by first|exact dP|exact dQ) ?_;rintro W5 ⟨qc,ae⟩;clear x0 x1 x2 x3;have Ah:=Hx.out.lt;replace Hx:=kB Hx ae;have Hc:=ah qc;clear qc;obtain⟨x0,x1,x2,x3⟩:=Hx.out.c4;obtain⟨c0,c1,c2,c3⟩:=Hc.out.c4;replace Hb:=au Hb ae;clear ae;refine aI rfl rfl (λK hK=>?_);have eF:=ownsRow_below cM.out Hb.out;have hs3:=Hb.out.size;refine wp_append_own _ _ _ 55 rfl wd.heap.size 107 i0 _ 4 48 Tryz.underlying55 Hi.out cG.out cH.out cE.out rfl zd (.slice av n cv) n ((ts.take n).flatMap aN) rfl eF ⟨w4.heap.size,0,none⟩ 1 1 [.string (bs l),.bool (ar (dN S)),.string (bs (nt (dN S).natAbs)),.int .i64 (dE S)] rfl rfl (fM Hc.out) zy zx zo zo ?_;intro v8 w8 dv aY _;have nb:∀b,b<wd.heap.size->some b≠(Value.slice av n cv).ownBlock:=λb hb e=>by have:=cJ eF b e.symm;omega
        refine hK _ _ (λ_=>⟨bE aY x0 (nb _ zo),bE aY x1 (nb _ zo),bE aY x2 (nb _ zo),bE aY x3 (nb _ zo)⟩) ?_;clear hK K;try simp only[UU]
        have gY:=(aJ wG.out Hb.out).grown aY zo (λj e=>cJ eF j e);obtain⟨iV,iI⟩:=aL gY dv;have GX:=aY.size;refine pT rfl rfl ?_;try simp only[UU]
        simp only[aU];clear nb eF dv aY gY x0 x1 x2 x3 c0 c1 c2 c3;go_wp2_with (at_builtin;refine oO rfl _ _ 55 rfl wd.heap.size 107 i0 _ 4 48 Tryz.underlying55 Hi.out cG.out cH.out cE.out rfl zd v8 (n+1) _ rfl iI.out _ 0 (cap-n) ((ts.drop n).flatMap aN) rfl iJ.out wL.out (td.out.below iV.out) (sS _) zx zo zo ?_;intro v9 w9 gy qV MZ);all_goals
         go_ret
         refine⟨v9,rfl,?_,(aJ jS.out iV.out).grown qV zo (λj e=>by have:=cJ iI.out j e;omega)⟩
         rw[oX.out]
         have e9:((ts.take n++[(l,canon S)]++ts.drop n).flatMap aN)=(ts.take n).flatMap aN++[.string (bs l),.bool (ar (dN S)),.string (bs (nt (dN S).natAbs)),.int .i64 (dE S)]++(ts.drop n).flatMap aN:=by rw[List.flatMap_append,List.flatMap_append];rfl
         have l9:(ts.take n++[(l,canon S)]++ts.drop n).length=n+1+0:=by simp[Hn.out]
         rw[e9,l9]
         exact pU gy zo
theorem ajE {C:Nat}(l:List aK)(x:aK)(h:∀t∈l,Sm C (az t.2))(hx:Sm C (az x.2)):∀t∈gT l x,Sm (C+1) (az t.2):=by
 have hc:∀X:Dyadic,Sm (C+1) X->Sm (C+1) (az (canon X)):=λX h=>by rw[bU];exact h
 induction l with
 |nil=>intro t ht;simp only[gT,List.mem_singleton]at ht;rw[ht];exact hc _ (hx.mono zo)
 | cons y l ih=>
   intro t ht;unfold gT at ht;split at ht
   . rcases List.mem_cons.1 ht with rfl|ht
     . exact(h _ zm).mono zo
     . exact ih (λt ht=>h t (by simp[ht])) t ht
   . split at ht
     . rcases List.mem_cons.1 ht with rfl|ht
       . exact hc _ ((h y zm).add hx)
       . exact(h t (by simp[ht])).mono zo
     . rcases List.mem_cons.1 ht with rfl|ht
       . exact hc _ (hx.mono zo)
       . exact(h t ht).mono zo
theorem ajI {B:Nat}(l:List aK)(h:∀t∈l,Sm B (az t.2)):∀t∈iu l,Sm (B+l.length) (az t.2):=by refine Ex (Q:=λl=>(∀t∈l,Sm B (az t.2))->∀t∈iu l,Sm (B+l.length) (az t.2)) (λ_ t ht=>by cases ht) (λl x ih h=>?_) l h;rw[Ax];have h1:=ih (λt ht=>h t (by simp[ht]));have:=ajE (C:=B+l.length) (iu l) x h1 ((h x zm).mono zo);intro t ht;have h9:=this t ht;rw[List.length_append];exact h9
theorem ajG {B:Nat}(l:List aK)(h:∀t∈l,Sm B (az t.2))(hB:B+l.length<=16384):∀t∈iu l,dV t.2:=λt ht=>by have h1:=ajI l h t ht;rw[XQ l t ht];exact h1.apj hB
theorem ae5 (L:List aK)(k:Nat)(hk:k<L.length):(L.take (k+1)).filter ic=(L.take k).filter ic++if ic L[k]then[L[k]]else[]:=by rw[List.take_succ_eq_append_getElem hk,List.filter_append];congr 1;by_cases h:ic L[k]=true<;>simp[h]
theorem Yd (V:Nat)(a:Option Addr)(n cap:Nat)(ts:List aK)(B:Nat)(w:World)(hn:ts.length=n)(hl:n<=4096)(ha:At w a (ts.flatMap aN))(hf:∀t∈ts,dV t.2)(hs:∀t∈ts,Sm B (az t.2))(hB:B+n<=16384):
 Calls Tryz.prog 81 #[.int .i64 (V:Int),.slice a n cap] w λex w'=>∃a' c',ex=.returned (.tuple #[.agg #[.int .i64 (V:Int),.slice a' (bR ts).length c'],.int .i64 0])/\cV w' a' c' (bR ts)/\Bw w w':=by
 obtain⟨i0,hi,hz0,hz1,hz2⟩:=info_parts Tryz.apr;have fJ:=λk=>ajG (ts.take k) (λt ht=>hs t (List.mem_of_mem_take ht)) (by rw[List.length_take];omega);have hpl:=λk=>ajH (ts.take k);have oC:=afp ts;obtain⟨C,hC⟩:=aB (bR ts);have hcl:=za ts;rw[hC]at oC hcl⊢;obtain⟨Hi,cG,cH,cE,lv,lw,Hgc,Ha,Hf,Hn⟩:=xY hi hz0 hz1 hz2 fJ hpl oC ha hf hn;have hC4:C.length<=4096:=by omega
 clear hi hz0 hz1 hz2 fJ hpl oC ha hf hs hC hn hcl;obtain⟨W,dc,Hb,Hr⟩:=iF w 57 [.int .i64 0,.slice none 0 0];obtain⟨r0,ai,r1,aj⟩:=Hr.out.g2;go_enter Tryz.func81,Tryz.ntmps81;go_wp2_with fail;have hrl:=Hr.out.lt;go_loopw[6,7] (λs6 x wr=>∃(k:Nat) (v:Value),k<=n/\x=.int .i64 (k:Int)/\v=s6/\wr.ownsRow W.heap.size 107 4 v (iu (ts.take k)).length ((iu (ts.take k)).flatMap aN)/\Bw W wr) (λ_ x _=>n-(intOf x).toNat);case atStart=>exact⟨0,_,Nat.zero_le _,rfl,rfl,World.ownsRow_nil _ _ _ _,Below.refl _ _⟩
 case round=>
  clear r0 ai r1 aj;obtain⟨k,v,hk,rfl,rfl,ho,pb⟩:=hrel;by_cases hlt:k<n
  . have hk2:k<ts.length:=by rw[Hn.out];exact hlt
    obtain⟨l,s,m,e,hx⟩:∃l s m e,ts[k]=(l,s,m,e):=⟨_,_,_,_,rfl⟩;obtain⟨b,o,rfl,cW⟩:=(Ha.out.below (aJ Hb.out pb)).term k hk2 hx;have bD:=jJ n cap k (k:Int) (rfl:(some ⟨b,o,none⟩:Option Addr)=_) hlt rfl;obtain⟨av,cv,rfl,vd,_⟩:=di ho;have DJ:=sJ ho;have hnx:iu (ts.take (k+1))=gT (iu (ts.take k)) (l,s,m,e):=by rw[List.take_succ_eq_append_getElem hk2,Ax,hx]
    have hp1:(iu (ts.take k)).length<=65536:=by have:=lw.out k;rw[List.length_take]at this;omega
    have eP:dV (s,m,e):=by have:=Hf.out _ (List.getElem_mem hk2);rw[hx]at this;exact this
    have hput:=λ(W':World) (hW:Bw wr W')=>aki av _ cv (iu (ts.take k)) l s m e W' rfl hp1 DJ (vd.below hW) (lv.out k) eP;rw[<-hnx]at hput;obtain⟨np,MU⟩:=aB ((iu (ts.take k)).length);rw[MU]at hput;rw[MU];obtain⟨abo,aO⟩:=aL hput pb;have Ht:Hid (aV wr b (o+k*4) [.string (bs l),.bool s,.string (bs m),.int .i64 e]):=cW;have gB:=pb.size;clear hput pb MU hnx hp1 eP DJ vd ho cW hx;have bP:Hid (Bw wr wr):=Below.refl _ _;obtain⟨t0,t1,t2,t3⟩:=Ht.out.w4;go_wp2_with fail;refine(abo.out _ (Below.refl _ _)).mono ?_;rintro ex w2 ⟨v2,rfl,dO,hb2⟩;obtain⟨tF,gj⟩:=aL (pU dO gB) (aJ aO.out hb2);clear dO hb2;go_wp2;go_roundw;case rel=>exact⟨k+1,v2,by omega,by go_num,rfl,tF.out,gj.out⟩
    case measure=>simp[intOf];omega
  . obtain rfl:k=n:=by omega
    have htk:ts.take k=ts:=List.take_of_length_le (by rw[Hn.out];exact Nat.le_refl _);have fJ:=lv.out k;have hpl:=lw.out k;rw[htk]at ho fJ hpl;obtain⟨L,hL⟩:=aB (iu ts);have oC:=Hgc.out;rw[hL]at ho fJ hpl oC;have hLn:L.length<=4096:=by rw[Hn.out]at hpl;omega
    obtain⟨N,hN⟩:=aB L.length;rw[hN]at ho hLn;obtain⟨av,cv,rfl,vd,_⟩:=di ho;obtain⟨wg,Wm⟩:∃wg,wg=wr:=⟨_,rfl⟩;subst Wm;obtain⟨ZV,aO,abm,HN,aaB⟩:=fg vd pb fJ hN oC;have szg:=pb.size;clear vd ho pb fJ hpl oC hN hL htk;go_wp2_with fail;go_loopw[8,9] (λs8 x wr=>∃(j:Nat) (v:Value),j<=N/\x=.int .i64 (j:Int)/\v=s8/\wr.ownsRow wg.heap.size 107 4 v ((L.take j).filter ic).length (((L.take j).filter ic).flatMap aN)/\Bw wg wr) (λ_ x _=>N-(intOf x).toNat);case atStart=>exact⟨0,_,Nat.zero_le _,rfl,rfl,World.ownsRow_nil _ _ _ _,Below.refl _ _⟩
    case round=>
     obtain⟨j,v,hj,rfl,rfl,ho,qb⟩:=hrel;by_cases bj:j<N
     . have kO:j<L.length:=by rw[HN.out];exact bj
       obtain⟨l,s,m,e,hx⟩:∃l s m e,L[j]=(l,s,m,e):=⟨_,_,_,_,rfl⟩;obtain⟨b,o,rfl,cW⟩:=(ZV.out.below qb).term j kO hx;have bD:=jJ N cv j (j:Int) (rfl:(some ⟨b,o,none⟩:Option Addr)=_) bj rfl;have hft:=ae5 L j kO;obtain⟨g,hg⟩:=aB (cw (az (s,m,e)));have eP:dV (s,m,e):=by have:=abm.out _ (List.getElem_mem kO);rw[hx]at this;exact this
       have il:=λW=>AE s m e g hg W (by have:=eP.1;simp only at this;omega);have hnz:ic L[j]= !(g==0):=by rw[hx];unfold ic;rw[show az ((l,s,m,e):aK).2=az (s,m,e)from rfl,hg]
       rw[hnz,hx]at hft;have hfl:((L.take j).filter ic).length<=N:=by have:=List.length_filter_le ic (L.take j);rw[List.length_take]at this;omega
       have Ht:Hid (aV wr b (o+j*4) [.string (bs l),.bool s,.string (bs m),.int .i64 e]):=cW;obtain⟨jU,jo,cM⟩:=cL il qb ho;have gB:=qb.size;obtain⟨F,hF⟩:=aB ((L.take j).filter ic);rw[hF]at cM hft hfl;have EW:=ah hft;clear il qb ho cW hx hg eP hnz hft hF;have Hb:Hid (Bw wr wr):=Below.refl _ _;obtain⟨t0,t1,t2,t3⟩:=Ht.out.w4;go_wp2_with fail;refine(jU.out _).mono ?_;rintro e w3 ⟨rfl,ae⟩;clear t0 t1 t2 t3;replace Ht:=kW Ht ae;obtain⟨t0,t1,t2,t3⟩:=Ht.out.w4;replace Hb:=au Hb ae;clear ae;by_cases hg0:g=0
       . subst hg0;have hz:(((0:Int)) !=0)=false:=by decide
         have hft:=EW.out;simp only[beq_self_eq_true,Bool.not_true,Bool.false_eq_true,if_false,List.append_nil]at hft;have JN:=ah hft;clear hft EW;obtain⟨Hq3,Ho3⟩:=aL (aJ jo.out Hb.out) (ownsRow_below cM.out Hb.out);go_wp2;go_roundw;case rel=>exact⟨j+1,v,by omega,by go_num,rfl,by rw[JN.out];exact Ho3.out,Hq3.out⟩
         case measure=>simp[intOf];omega
       . have hz:(g !=0)=true:=by simpa using hg0
         have hz2:(g==0)=false:=by simpa using hg0
         have hft:=EW.out;rw[hz2]at hft;simp only[Bool.not_false,if_true]at hft;have JN:=ah hft;clear hft EW;go_upto_region 11 with fail
         have P0:=t0;have P1:=t1;have P2:=t2;have P3:=t3;obtain⟨W5,Da,ae,Hc⟩:=cN w3 107 [.string (bs l),.bool s,.string (bs m),.int .i64 e];clear t0 t1 t2 t3;replace Ht:=kW Ht ae;obtain⟨t0,t1,t2,t3⟩:=Ht.out.w4;obtain⟨c0,c1,c2,c3⟩:=Hc.out.c4;replace Hb:=au Hb ae;clear ae;have xP:=ownsRow_below cM.out Hb.out;have hs5:=Hb.out.size;go_wp2_with (at_builtin;refine wpList_append_own_at _ rfl _ _ 55 rfl wg.heap.size 107 i0 _ 4 48 Tryz.underlying55 Hi.out cG.out cH.out cE.out rfl zd v F.length (F.flatMap aN) rfl xP ⟨w3.heap.size,0,none⟩ 1 1 [.string (bs l),.bool s,.string (bs m),.int .i64 e] rfl rfl (fM Hc.out) zy zx zo zo ?_;intro v' w7 dt eD _ fy);have jy:=(aJ jo.out Hb.out).grown eD zo (λj e=>cJ xP j e);have e7:F.flatMap aN++[.string (bs l),.bool s,.string (bs m),.int .i64 e]=(F++[(l,s,m,e)]).flatMap aN:=by rw[List.flatMap_append];rfl
         rw[e7]at dt;obtain⟨BO,Bo⟩:=aL dt jy;clear dt jy e7 fy eD xP P0 P1 P2 P3 t0 t1 t2 t3 c0 c1 c2 c3;go_wp2;go_roundw;case rel=>exact⟨j+1,v',by omega,by go_num,rfl,by rw[JN.out,List.length_append];exact BO.out,Bo.out⟩
         case measure=>simp[intOf];omega
     . obtain rfl:j=N:=by omega
       have htk:L.take j=L:=List.take_of_length_le (by rw[HN.out];exact Nat.le_refl _);rw[htk,aaB.out]at ho;obtain⟨a2,c2,rfl,_,_⟩:=di ho;obtain⟨Ho,abj⟩:=aL ho (aJ (aJ Hb.out aO.out) qb);have jH:=aO.out.size;have wV:=ah (Hr.out.below (aJ aO.out qb));have h4:¬(4096:Int)<(C.length:Int):=by omega
       have h4d:decide ((4096:Int)<(C.length:Int))=false:=by simp;omega
       clear ho htk qb;have Hr:=wV;obtain⟨r0,ai,r1,aj⟩:=Hr.out.g2;go_wp2;refine yV (wV.out) Ho.out abj.out zo ?_;intro w9 oF gy lI;obtain⟨p0,p1⟩:=oF.c2;exact bodyPost_ret (v:=.tuple #[.agg #[.int .i64 (V:Int),.slice a2 C.length c2],.int .i64 0]) (by simp[results,Tryz.results81,go_sem,p0,p1]) rfl ⟨_,_,rfl,Ee gy,lI⟩
end Go.Proofs.YtdaadlblknpipaaGreatDoor
