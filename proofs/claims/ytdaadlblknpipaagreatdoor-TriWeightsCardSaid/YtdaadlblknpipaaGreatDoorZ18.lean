/- Packages ogeeref07,ogeeref08: May;put. -/
import Derived.Test.YtdaadlblknpipaaGreatDoorZ15
import Derived.Test.YtdaadlblknpipaaGreatDoorZ11
import Derived.Test.YtdaadlblknpipaaGreatDoorZ17
set_option linter.unusedVariables false
set_option linter.unusedSimpArgs false
set_option maxRecDepth 100000
set_option maxHeartbeats 16000000
namespace Go.Proofs.YtdaadlblknpipaaGreatDoor
open Go.RowKit
attribute [local go_sem ↓] Go.wp_at_zero Go.wp_at_succ
theorem alq (l:List UInt8)(v:Int)(w:World)(hl:l.length<=9223372036854775807):
 Calls Tryz.prog 121 #[.string (bs l),.int .i64 v] w λe w'=>e=.returned (.bool (gj l v))/\Bw w w':=by
 obtain⟨n,hn⟩:=aB l.length;have hsz:(bs l).size=n:=by rw[nS,hn]
 obtain⟨M,hM⟩:=aB (gj l v);rw[hM];obtain⟨HM,Hn⟩:=aM hM hn;rw[hn]at hl;clear hM hn;go_enter Tryz.func121,Tryz.ntmps121;have Hb:Hid (Bw w w):=Below.refl _ _;go_wp2_with fail;go_loopw[5] (λx wr=>∃k:Nat,k<=n/\x=.int .i64 (k:Int)/\((l.take k).all λc=>decide (c.toNat<=127))=true/\Bw w wr) (λx _=>n-(intOf x).toNat);case atStart=>exact⟨0,Nat.zero_le _,rfl,rfl,Hb.out⟩
 case round=>
  clear Hb;obtain⟨k,hk,rfl,hall,pb⟩:=hrel;obtain⟨wG,Hb⟩:=aM hall pb;clear hall pb;by_cases hlt:k<n
  . have hk2:k<l.length:=by rw[Hn.out];exact hlt
    have ix:=yf l (k:Int) k hk2 rfl;obtain⟨c,hc⟩:∃c:Nat,(l[k]).toNat=c:=⟨_,rfl⟩;rw[hc]at ix;by_cases h1:128<=c
    . have h2:(128:Int)<=(c:Int):=by omega
      have xS:M=false:=by
       rw[<-HM.out];unfold gj;have:(l.all λc=>decide (c.toNat<=127))=false:=by rw[List.all_eq_false];exact⟨l[k],List.getElem_mem hk2,by simp;omega⟩
       rw[this];rfl
      subst xS;go_wp2;refine bodyPost_ret (v:=.bool false) (by simp[results,Tryz.results121,go_sem]) rfl ⟨rfl,?_⟩;(repeat first|exact Hb.out| (refine Below.setCell ?_ (by have:=Hb.out.size;first| (dsimp only;omega) | (show _<=_;omega) | (simp<;>omega)) _) | (refine Below.alloc ?_ zt _) |refine Below.drew ?_)
    . have h2:¬(128:Int)<=(c:Int):=by omega
      have cE:Hid (((l.take (k+1)).all λc=>decide (c.toNat<=127))=true):=by
       show _=_
       rw[List.take_succ_eq_append_getElem hk2,List.all_append,wG.out];simp;omega
      clear hc;go_wp2;go_roundw;case rel=>exact⟨k+1,by omega,by go_num,cE.out,Hb.out⟩
      case measure=>simp[intOf];omega
  . obtain rfl:k=n:=by omega
    have hme:M=decide ((k:Int)=v):=by rw[<-HM.out];have h:=wG.out;rw[List.take_of_length_le (by rw[Hn.out];exact Nat.le_refl _)]at h;unfold gj;rw[h,Hn.out,Bool.true_and]
    have Kj:=ah hme;clear hme;go_wp2;refine bodyPost_ret (results_tmp rfl _ _ _) rfl ⟨?_,Hb.out⟩;rw[Kj.out];by_cases h:(k:Int)=v<;>simp[h]
theorem adE (m:List UInt8)(l:List aL)(j:Nat)(h:j<iu m l)(hj:j<l.length):Op.bytesLess l[j].1 m=true:=by
 induction l generalizing j with
 |nil=>simp at hj
 | cons x l ih=>
   unfold iu at h;split at h
   . rename_i hx
     cases j with
     |zero=>exact hx
     |succ j=>exact ih j zo (by simpa using hj)
   . omega
theorem adF (m:List UInt8)(l:List aL)(h:iu m l<l.length):Op.bytesLess l[iu m l].1 m=false:=by
 induction l with
 |nil=>simp at h
 | cons x l ih=>
   by_cases hx:Op.bytesLess x.1 m=true
   . have e:iu m (x::l)=iu m l+1:=by show(if _ then _ else _)=_;rw[if_pos hx]
     simp only[e]at h⊢;exact ih (by simpa using h)
   . have e:iu m (x::l)=0:=by show(if _ then _ else _)=_;rw[if_neg hx]
     simp only[e];simpa using hx
theorem akW (l:List aL)(x:aL)(k:Nat)(hk:iu x.1 l=k)(h:k<l.length)(e:l[k].1=x.1):gJ l x=l.take k++[(x.1,canon (aC l[k].2+aC x.2))]++l.drop (k+1):=by
 have e1:(l.drop k).head?=some l[k]:=by rw[List.drop_eq_getElem_cons h];rfl
 have e2:(l.drop k).headD default=l[k]:=by rw[List.drop_eq_getElem_cons h];rfl
 rw[YA,hk,e1,e2,if_pos (by rw[Option.map_some,e]),List.append_assoc,List.singleton_append]
theorem OU (l:List aL)(x:aL)(k:Nat)(hk:iu x.1 l=k)(h:∀h:k<l.length,l[k].1≠x.1):gJ l x=l.take k++[(x.1,canon (aC x.2))]++l.drop k:=by
 rw[YA,hk,if_neg,List.append_assoc,List.singleton_append];intro e;by_cases hl:k<l.length
 . rw[List.drop_eq_getElem_cons hl,List.head?_cons,Option.map_some]at e;exact h hl (Option.some.inj e)
 . rw[List.drop_of_length_le zo]at e;cases e
theorem At.aq3 {w:World}{a:Option Addr}{ts:List aL}(h:At w a (ts.flatMap aO))(k:Nat):At w a ((ts.take k).flatMap aO):=by
 have e:(ts.take k).flatMap aO++(ts.drop k).flatMap aO=ts.flatMap aO:=by rw[<-List.flatMap_append,List.take_append_drop]
 rcases h with h|⟨b,o,rfl,hc⟩
 . rw[h]at e;exact .inl (List.append_eq_nil_iff.1 e).1
 . by_cases h0:(ts.take k).flatMap aO=[]
   . exact .inl h0
   . refine .inr ⟨b,o,rfl,λj hj=>?_⟩;rw[hc j (by rw[<-e,List.length_append];omega),<-e,List.getElem?_append_left hj]
theorem At.aqZ {w:World}{a:Option Addr}{ts:List aL}(h:At w a (ts.flatMap aO)){n cap:Nat}(k:Nat)(hn:ts.length=n)(hk:k<=n)(hc:n<=cap):At w (if cap=k then a else a.map (·.add (k*4))) ((ts.drop k).flatMap aO):=by
 have h1:=At.cut (size:=4) (n:=n) (k:=k) (cap:=cap) h (by rw[kX,hn]) hk hc;have e:(ts.drop k).flatMap aO=(ts.flatMap aO).drop (k*4):=by
  have e0:ts.flatMap aO=(ts.take k).flatMap aO++(ts.drop k).flatMap aO:=by rw[<-List.flatMap_append,List.take_append_drop]
  rw[e0,List.drop_append_of_le_length (by rw[kX,List.length_take];omega)];have e1:((ts.take k).flatMap aO).length=k*4:=by rw[kX,List.length_take,Nat.min_eq_left zo]
  rw[<-e1,List.drop_length,List.nil_append]
 rw[e];exact h1
theorem alC (a:Option Addr)(n cap:Nat)(ts:List aL)(l:List UInt8)(s:Bool)(m:List UInt8)(e:Int)(w:World)(hn:ts.length=n)(hl:n<=65536)(hs:Sl a n cap)(ha:At w a (ts.flatMap aO))(hf:∀t∈ts,eZ t.2)(hx:eZ (s,m,e)):
 Calls Tryz.prog 120 #[.slice a n cap,.agg #[.string (bs l),.bool s,.string (bs m),.int .i64 e]] w λex w'=>∃v',ex=.returned v'/\w'.ownsRow w.heap.size 107 4 v' (gJ ts (l,s,m,e)).length ((gJ ts (l,s,m,e)).flatMap aO)/\Bw w w':=by
 obtain⟨i0,hi,hz0,hz1,hz2⟩:=info_parts Tryz.aqW;obtain⟨A,hA⟩:=aB (iu l ts);have hAn:A<=n:=by rw[<-hA,<-hn];exact adD _ _
 have hgo:∀j (h:j<ts.length),j<A->Op.bytesLess ts[j].1 l=true:=λj h hj=>adE l ts j zo h;have hst:∀(h:A<ts.length),Op.bytesLess ts[A].1 l=false:=λh=>by subst hA;exact adF l ts h
 have Ih:=hs.1;obtain⟨Hi,cN,cO,cH,EQ,Hgo,cE,Hs,Ha,Hf,iT,Hn⟩:=gh hi hz0 hz1 hz2 hA hgo hst hs ha hf hx hn;clear hi hz0 hz1 hz2 hA hgo hst hs ha hf hx hn;obtain⟨W,dw,Hb,Hx⟩:=iP w 107 [.string (bs l),.bool s,.string (bs m),.int .i64 e];obtain⟨x0,x1,x2,x3⟩:=Hx.out.c4;go_enter Tryz.func120,Tryz.ntmps120;go_wp2_with fail;go_loopw[5] (λx wr=>∃k:Nat,k<=A/\x=.int .i64 (k:Int)/\ak wr w.heap.size 107 [.string (bs l),.bool s,.string (bs m),.int .i64 e]/\Bw w wr) (λx _=>n-(intOf x).toNat);case atStart=>exact⟨0,Nat.zero_le _,rfl,Hx.out,Hb.out⟩
 case round=>
  clear x0 x1 x2 x3 Hx Hb;obtain⟨k,hk,rfl,px,pb⟩:=hrel;obtain⟨Hx,Hb⟩:=aM px pb;clear px pb;by_cases hlt:k<A
  . have hkn:k<n:=by omega
    have hk2:k<ts.length:=by rw[Hn.out];exact hkn
    obtain⟨l',s',m',e',hx'⟩:∃l s m e,ts[k]=(l,s,m,e):=⟨_,_,_,_,rfl⟩;obtain⟨b,o,rfl,cQ⟩:=(Ha.out.below Hb.out).term k hk2 hx';have bE:=jO n cap k (k:Int) (rfl:(some ⟨b,o,none⟩:Option Addr)=_) hkn rfl;have rV:Op.bytesLess (bs l').toList (bs l).toList=true:=by rw[fY,fY];have:=Hgo.out k hk2 hlt;rw[hx']at this;exact this
    have Ht:Hid (bB wr b (o+k*4) [.string (bs l'),.bool s',.string (bs m'),.int .i64 e']):=cQ;clear cQ hx';obtain⟨x0,x1,x2,x3⟩:=Hx.out.c4;obtain⟨t0,t1,t2,t3⟩:=Ht.out.w4;have lH:decide ((k:Int)<(n:Int))=true:=by simp;omega
    go_wp2_with fail;refine bM (λw'=>w'.cell? ⟨w.heap.size,0,none⟩=some (.string (bs l))/\w'.cell? ⟨b,o+k*4,none⟩=some (.string (bs l'))) (λi=>Nat.blt i 100000) [(0,true),(1,true),(2,true),(3,true),(4,true),(5,true),(6,true),(7,true),(8,true),(9,true),(10,true),(11,true),(12,true),(13,true)] zk zk rfl zk zc ⟨x0,t0⟩ ?_;iterate 14 (refine pT rfl rfl ?_ (by intro w' ⟨q0,q1⟩;go_simp;try with_reducible rfl);try simp only[UU])
    simp only[aZ];go_wp2;go_roundw;case rel=>exact⟨k+1,by omega,by go_num,Hx.out,Hb.out.drew⟩
    case measure=>simp[intOf];omega
  . obtain rfl:k=A:=by omega
    have hkc:k<=cap:=by omega
    by_cases hkn:k<n
    . have hk2:k<ts.length:=by rw[Hn.out];exact hkn
      obtain⟨l',s',m',e',hx'⟩:∃l s m e,ts[k]=(l,s,m,e):=⟨_,_,_,_,rfl⟩;obtain⟨b,o,rfl,cQ⟩:=(Ha.out.below Hb.out).term k hk2 hx';have bE:=jO n cap k (k:Int) (rfl:(some ⟨b,o,none⟩:Option Addr)=_) hkn rfl;have rV:Op.bytesLess (bs l').toList (bs l).toList=false:=by rw[fY,fY];have:=cE.out hk2;rw[hx']at this;exact this
      have lbt:b<w.heap.size:=by obtain⟨b3,o3,h3,hw3⟩:=Ha.out.term k hk2 hx';simp only[Option.some.injEq,Addr.mk.injEq,and_true]at h3;obtain⟨rfl,rfl⟩:=h3;exact World.block_lt_of_cell? w _ (hw3.cell 0 zm)
      have Ht:Hid (bB wr b (o+k*4) [.string (bs l'),.bool s',.string (bs m'),.int .i64 e']):=cQ;clear cQ;obtain⟨x0,x1,x2,x3⟩:=Hx.out.c4;obtain⟨t0,t1,t2,t3⟩:=Ht.out.w4;have lH:decide ((k:Int)<(n:Int))=true:=by simp;omega
      go_wp2_with fail;refine bM (λw'=>w'.cell? ⟨w.heap.size,0,none⟩=some (.string (bs l))/\w'.cell? ⟨b,o+k*4,none⟩=some (.string (bs l'))) (λi=>Nat.blt i 100000) [(0,true),(1,true),(2,true),(3,true),(4,true),(5,true),(6,true),(7,true),(8,true),(9,true),(10,true),(11,true),(12,true),(13,true)] zk zk rfl zk zc ⟨x0,t0⟩ ?_;iterate 14 (refine pT rfl rfl ?_ (by intro w' ⟨q0,q1⟩;go_simp;try with_reducible rfl);try simp only[UU])
      simp only[aZ];generalize qU:wr.drew=wd;have vH:ak wd w.heap.size 107 [.string (bs l),.bool s,.string (bs m),.int .i64 e]:=by rw[<-qU];exact Hx.out
      have kJ:Bw w wd:=by rw[<-qU];exact Hb.out.drew
      have hpre:((ts.take k).flatMap aO).length=k*4:=by rw[kX,List.length_take,Nat.min_eq_left zo]
      have uX:=Ha.out.below kJ;have uW:=uX.aq3 k;obtain⟨uL,jT,Bz,BW⟩:=dS vH kJ uW hpre;have Zw:=kJ.size;have XK:=uL.out.lt;clear vH kJ uW hpre uX qU x0 x1 x2 x3 t0 t1 t2 t3 Hx Ht Hb;go_wp2_with (at_builtin;refine oN rfl _ _ 55 rfl wd.heap.size 107 i0 _ 4 48 Tryz.underlying55 Hi.out cN.out cO.out cH.out rfl zd _ 0 [] rfl (World.ownsRow_made wd #[] 0 (Nat.le_refl _) (Nat.zero_le _) zm) (some ⟨b,o,none⟩) k cap ((ts.take k).flatMap aO) rfl (Sl.some _ _ _ hkc) BW.out (Bz.out.below ((Below.refl _ wd).alloc (Nat.le_refl _) _)) (rF _) zx zo zm ?_;intro v1 w1 dv hg1 tN);have hb1:=((Below.refl _ wd).alloc (Nat.le_refl _) _).grown hg1 zm (λk hk=>by have h9:wd.heap.size=k:=Option.some.inj hk;omega);rw[Nat.zero_add,List.nil_append]at dv;obtain⟨av,cv,rfl,_,_⟩:=dG dv;obtain⟨Hx,Hb⟩:=aM (uL.out.below hb1) (aK jT.out hb1);obtain⟨b2,o2,fg,cQ⟩:=(Ha.out.below Hb.out).term k hk2 hx';simp only[Option.some.injEq,Addr.mk.injEq,and_true]at fg;obtain⟨rfl,rfl⟩:=fg;have Ht:Hid (bB w1 b (o+k*4) [.string (bs l'),.bool s',.string (bs m'),.int .i64 e']):=cQ;obtain⟨mz,bU⟩:=aM dv hb1;have hsz1:=hb1.size;have jZ:eZ (s',m',e'):=by have:=Hf.out _ (List.getElem_mem hk2);rw[hx']at this;exact this
      have hel:ts[k]=(l',s',m',e'):=hx';clear dv hb1 hg1 tN cQ hx' rV;obtain⟨x0,x1,x2,x3⟩:=Hx.out.c4;obtain⟨t0,t1,t2,t3⟩:=Ht.out.w4;go_wp2_with fail;have Gr:((bs l').toList==(bs l).toList)=decide (l'=l):=by rw[fY,fY];by_cases h:l'=l<;>simp[h]
      by_cases he:l'=l
      case neg=>
       rw[decide_eq_false he]at Gr;refine bM (λw'=>w'.cell? ⟨w.heap.size,0,none⟩=some (.string (bs l))/\w'.cell? ⟨b,o+k*4,none⟩=some (.string (bs l'))) (λi=>Nat.blt i 100000) [(0,true),(1,true),(2,true),(3,true),(4,true),(5,true),(6,true),(7,true),(8,true),(9,true),(10,true),(11,true),(12,true),(13,true)] zk zk rfl zk zc ⟨x0,t0⟩ ?_;iterate 14 (refine pT rfl rfl ?_ (by intro w' ⟨q0,q1⟩;go_simp;try with_reducible rfl);try simp only[UU])
       simp only[aZ];have jc:=bU.out.drew;generalize ie:w1.drew=w2;have hx2:ak w2 w.heap.size 107 [.string (bs l),.bool s,.string (bs m),.int .i64 e]:=by rw[<-ie];exact Hx.out
       have hv2:w2.ownsRow wd.heap.size 107 4 (.slice av k cv) k ((ts.take k).flatMap aO):=by rw[<-ie];exact mz.out
       have cM:=ah hv2;replace Hx:=ah hx2;replace Hb:Hid (Bw w2 w2):=Below.refl _ _;have wI:Hid (Bw wd w2):=by rw[<-ie];exact jc
       have qW:=Ha.out.below jT.out;have hz2:wd.heap.size<=w2.heap.size:=by rw[<-ie];exact hsz1
       obtain⟨S,hS⟩:=aB (aC (s,m,e));have hps:=OU ts (l,s,m,e) k EQ.out (λ_=>by rw[hel];exact he);rw[show aC ((l,s,m,e):aL).2=S from hS]at hps;have qY:((ts.drop k).flatMap aO).length=(n-k) *4:=by rw[kX,List.length_drop,Hn.out]
       have hdr:=qW.aqZ (n:=n) (cap:=cap) k Hn.out zo Ih;have hsc:=Hs.out.cut (k:=k) (size:=4) zo;have af1:(⟨b,o,none⟩:Addr).add (k*4)=⟨b,o+k*4,none⟩:=by unfold Addr.add;split<;>simp_all
       rw[if_neg zo,Option.map_some,af1]at hdr hsc;obtain⟨mA,HS,wN,sP,gM⟩:=fC hps hS qY hdr hsc;have hk1:k<=n:=by omega
       have GX:k<=cap:=by omega
       clear hps hS hx2 hv2 qW qY hdr hsc ie jc hel jZ x0 x1 x2 x3 t0 t1 t2 t3 Gr he bE;obtain⟨x0,x1,x2,x3⟩:=Hx.out.c4;go_wp2_with fail;refine bM (λw'=>w'.cell? ⟨w.heap.size,0,none⟩=some (.string (bs l))/\w'.cell? ⟨w.heap.size,1,none⟩=some (.bool s)/\w'.cell? ⟨w.heap.size,2,none⟩=some (.string (bs m))/\w'.cell? ⟨w.heap.size,3,none⟩=some (.int .i64 e)) (λi=>Nat.blt i 100000) [(0,true),(1,true),(2,true),(3,true),(4,true),(5,false),(6,true),(7,false),(8,false),(9,true)] zk zk rfl zk zc ⟨x0,x1,x2,x3⟩ ?_;iterate 5 (refine pT rfl rfl ?_ (by intro w' ⟨q0,q1,q2,q3⟩;go_simp;try with_reducible rfl);try simp only[UU])
       refine aI rfl rfl (λK hK=>?_);go_simp;with_reducible refine(yG s m e S HS.out _ iT.out).mono ?_
       rintro e w4 ⟨rfl,hq⟩;have ae:Bw w2 w4:=by first|exact hq|exact aV hq
       clear x0 x1 x2 x3;replace Hx:=kB Hx ae;obtain⟨x0,x1,x2,x3⟩:=Hx.out.c4;replace Hb:=az Hb ae;clear ae;refine hK _ _ (λ_=>⟨x0,x1,x2,x3⟩) ?_;clear hK K;try simp only[UU]
       refine pT rfl rfl ?_;try simp only[UU]
       refine aI rfl rfl (λK hK=>?_);go_simp;refine hK _ _ (λ_=>⟨aJ x0,aJ x1,aJ x2,aJ x3⟩) ?_;clear hK K;try simp only[UU]
       refine bO (λW5=>ak W5 (w4.heap.size) 107 [.string (bs l),.bool (ar (dN S)),.string (bs (nt (dN S).natAbs)),.int .i64 (dE S)]/\Bw w4 W5) (by first|exact dU|exact dV) ?_;rintro W5 ⟨qc,ae⟩;clear x0 x1 x2 x3;have Aw:=Hx.out.lt;replace Hx:=kB Hx ae;have Hc:=ah qc;clear qc;obtain⟨x0,x1,x2,x3⟩:=Hx.out.c4;obtain⟨c0,c1,c2,c3⟩:=Hc.out.c4;replace Hb:=az Hb ae;clear ae;refine aI rfl rfl (λK hK=>?_);have eD:=ownsRow_below cM.out Hb.out;have hs3:=Hb.out.size;refine wp_append_own _ _ _ 55 rfl wd.heap.size 107 i0 _ 4 48 Tryz.underlying55 Hi.out cN.out cO.out cH.out rfl zd (.slice av k cv) k ((ts.take k).flatMap aO) rfl eD ⟨w4.heap.size,0,none⟩ 1 1 [.string (bs l),.bool (ar (dN S)),.string (bs (nt (dN S).natAbs)),.int .i64 (dE S)] rfl rfl (fX Hc.out) zy zx zo zo ?_;intro v8 w8 dW bz _;have nb:∀b,b<wd.heap.size->some b≠(Value.slice av k cv).ownBlock:=λb hb e=>by have:=cZ eD b e.symm;omega
       refine hK _ _ (λ_=>⟨bY bz x0 (nb _ zo),bY bz x1 (nb _ zo),bY bz x2 (nb _ zo),bY bz x3 (nb _ zo)⟩) ?_;clear hK K;try simp only[UU]
       have fR:=(aK wI.out Hb.out).grown bz zo (λj e=>cZ eD j e);obtain⟨ia,iE⟩:=aM fR dW;have Ip:=bz.size;refine pT rfl rfl ?_;try simp only[UU]
       simp only[aZ];clear nb eD dW bz fR x0 x1 x2 x3 c0 c1 c2 c3;go_wp2_with (at_builtin;refine oN rfl _ _ 55 rfl wd.heap.size 107 i0 _ 4 48 Tryz.underlying55 Hi.out cN.out cO.out cH.out rfl zd v8 (k+1) _ rfl iE.out _ (n-k) (cap-k) ((ts.drop k).flatMap aO) rfl gM.out wN.out (sP.out.below ia.out) (rF _) zx zo zo ?_;intro v9 w9 gT pJ Ij);all_goals
        go_ret
        refine⟨v9,rfl,?_,(aK jT.out ia.out).grown pJ zo (λj e=>by have:=cZ iE.out j e;omega)⟩
        rw[mA.out]
        have e9:((ts.take k++[(l,canon S)]++ts.drop k).flatMap aO)=(ts.take k).flatMap aO++[.string (bs l),.bool (ar (dN S)),.string (bs (nt (dN S).natAbs)),.int .i64 (dE S)]++(ts.drop k).flatMap aO:=by rw[List.flatMap_append,List.flatMap_append];rfl
        have l9:(ts.take k++[(l,canon S)]++ts.drop k).length=k+1+(n-k):=by simp[Hn.out];omega
        rw[e9,l9]
        exact pY gT zo
      rw[decide_eq_true he]at Gr;refine bM (λw'=>w'.cell? ⟨w.heap.size,0,none⟩=some (.string (bs l))/\w'.cell? ⟨b,o+k*4,none⟩=some (.string (bs l'))) (λi=>Nat.blt i 100000) [(0,true),(1,true),(2,true),(3,true),(4,true),(5,true),(6,true),(7,true),(8,true),(9,true),(10,true),(11,true),(12,true),(13,true)] zk zk rfl zk zc ⟨x0,t0⟩ ?_;iterate 14 (refine pT rfl rfl ?_ (by intro w' ⟨q0,q1⟩;go_simp;try with_reducible rfl);try simp only[UU])
      simp only[aZ];have jc:=bU.out.drew;generalize ie:w1.drew=w2;have hx2:ak w2 w.heap.size 107 [.string (bs l),.bool s,.string (bs m),.int .i64 e]:=by rw[<-ie];exact Hx.out
      have ht2:bB w2 b (o+k*4) [.string (bs l'),.bool s',.string (bs m'),.int .i64 e']:=by rw[<-ie];exact Ht.out
      have hb2:Bw w w2:=by rw[<-ie];exact Hb.out.drew
      have hv2:w2.ownsRow wd.heap.size 107 4 (.slice av k cv) k ((ts.take k).flatMap aO):=by rw[<-ie];exact mz.out
      have cM:=ah hv2;replace Hx:=ah hx2;replace Ht:=ah ht2;replace Hb:Hid (Bw w2 w2):=Below.refl _ _;have wI:Hid (Bw wd w2):=by rw[<-ie];exact jc
      have qW:=Ha.out.below jT.out;have hz2:wd.heap.size<=w2.heap.size:=by rw[<-ie];exact hsz1
      obtain⟨S,hS⟩:=aB (aC (s',m',e')+aC (s,m,e));have hps:=akW ts (l,s,m,e) k EQ.out hk2 (by rw[hel];exact he);rw[show aC ts[k].2=aC (s',m',e')by rw[hel],show aC (s',m',e')+aC ((l,s,m,e):aL).2=S from hS]at hps;have qY:((ts.drop (k+1)).flatMap aO).length=(n-(k+1)) *4:=by rw[kX,List.length_drop,Hn.out]
      have hdr:=qW.aqZ (n:=n) (cap:=cap) (k+1) Hn.out zo Ih;have hsc:=Hs.out.cut (k:=k+1) (size:=4) zo;obtain⟨mA,HS,mn,wN,sP,gM⟩:=gF hps hS jZ qY hdr hsc;have hk1:k+1<=n:=by omega
      have GX:k+1<=cap:=by omega
      clear hps hS hel jZ hx2 ht2 hb2 hv2 qW qY hdr hsc x0 x1 x2 x3 t0 t1 t2 t3 ie jc Gr he bE;obtain⟨x0,x1,x2,x3⟩:=Hx.out.c4;obtain⟨t0,t1,t2,t3⟩:=Ht.out.w4;have bE:=jO n cap k (k:Int) (rfl:(some ⟨b,o,none⟩:Option Addr)=_) hkn rfl;go_wp2_with fail;have NW:=Hx.out.lt;refine bM (λw'=>w'.cell? ⟨w.heap.size,0,none⟩=some (.string (bs l))/\w'.cell? ⟨w.heap.size,1,none⟩=some (.bool s)/\w'.cell? ⟨w.heap.size,2,none⟩=some (.string (bs m))/\w'.cell? ⟨w.heap.size,3,none⟩=some (.int .i64 e)/\w'.cell? ⟨b,o+k*4,none⟩=some (.string (bs l'))/\w'.cell? ⟨b,o+k*4+1,none⟩=some (.bool s')/\w'.cell? ⟨b,o+k*4+2,none⟩=some (.string (bs m'))/\w'.cell? ⟨b,o+k*4+3,none⟩=some (.int .i64 e')) (λi=>Nat.blt i 100000) [(0,true),(1,true),(2,true),(3,true),(4,true),(5,true),(6,true),(7,true),(8,true),(9,true),(10,false),(11,true),(12,false),(13,false),(14,true)] zk zk rfl zk zc ⟨x0,x1,x2,x3,t0,t1,t2,t3⟩ ?_;iterate 10 (refine pT rfl rfl ?_ (by intro w' ⟨q0,q1,q2,q3,q4,q5,q6,q7⟩;go_simp;try with_reducible rfl);try simp only[UU])
      refine aI rfl rfl (λK hK=>?_);go_simp;with_reducible refine(Ph s' m' e' s m e S HS.out _ mn.out iT.out).mono ?_
      rintro e w4 ⟨rfl,hq⟩;have ae:Bw w2 w4:=by first|exact hq|exact aV hq
      clear x0 x1 x2 x3 t0 t1 t2 t3;replace Hx:=kB Hx ae;replace Ht:=kW Ht ae;obtain⟨x0,x1,x2,x3⟩:=Hx.out.c4;obtain⟨t0,t1,t2,t3⟩:=Ht.out.w4;replace Hb:=az Hb ae;clear ae;refine hK _ _ (λ_=>⟨x0,x1,x2,x3,t0,t1,t2,t3⟩) ?_;clear hK K;try simp only[UU]
      refine pT rfl rfl ?_;try simp only[UU]
      refine aI rfl rfl (λK hK=>?_);go_simp;refine hK _ _ (λ_=>⟨aJ x0,aJ x1,aJ x2,aJ x3,aJ t0,aJ t1,aJ t2,aJ t3⟩) ?_;clear hK K;try simp only[UU]
      refine bO (λW5=>ak W5 (w4.heap.size) 107 [.string (bs l),.bool (ar (dN S)),.string (bs (nt (dN S).natAbs)),.int .i64 (dE S)]/\Bw w4 W5) (by first|exact dU|exact dV) ?_;rintro W5 ⟨qc,ae⟩;clear x0 x1 x2 x3 t0 t1 t2 t3;have Aw:=Hx.out.lt;replace Hx:=kB Hx ae;replace Ht:=kW Ht ae;have Hc:=ah qc;clear qc;obtain⟨x0,x1,x2,x3⟩:=Hx.out.c4;obtain⟨t0,t1,t2,t3⟩:=Ht.out.w4;obtain⟨c0,c1,c2,c3⟩:=Hc.out.c4;replace Hb:=az Hb ae;clear ae;refine aI rfl rfl (λK hK=>?_);have eD:=ownsRow_below cM.out Hb.out;have hs3:=Hb.out.size;refine wp_append_own _ _ _ 55 rfl wd.heap.size 107 i0 _ 4 48 Tryz.underlying55 Hi.out cN.out cO.out cH.out rfl zd (.slice av k cv) k ((ts.take k).flatMap aO) rfl eD ⟨w4.heap.size,0,none⟩ 1 1 [.string (bs l),.bool (ar (dN S)),.string (bs (nt (dN S).natAbs)),.int .i64 (dE S)] rfl rfl (fX Hc.out) zy zx zo zo ?_;intro v8 w8 dW bz _;have nb:∀b,b<wd.heap.size->some b≠(Value.slice av k cv).ownBlock:=λb hb e=>by have:=cZ eD b e.symm;omega
      refine hK _ _ (λ_=>⟨bY bz x0 (nb _ zo),bY bz x1 (nb _ zo),bY bz x2 (nb _ zo),bY bz x3 (nb _ zo),bY bz t0 (nb _ zp),bY bz t1 (nb _ zp),bY bz t2 (nb _ zp),bY bz t3 (nb _ zp)⟩) ?_;clear hK K;try simp only[UU]
      have fR:=(aK wI.out Hb.out).grown bz zo (λj e=>cZ eD j e);obtain⟨ia,iE⟩:=aM fR dW;have Ip:=bz.size;refine pT rfl rfl ?_;try simp only[UU]
      simp only[aZ];clear nb eD dW bz fR x0 x1 x2 x3 t0 t1 t2 t3 c0 c1 c2 c3;go_wp2_with (at_builtin;refine oN rfl _ _ 55 rfl wd.heap.size 107 i0 _ 4 48 Tryz.underlying55 Hi.out cN.out cO.out cH.out rfl zd v8 (k+1) _ rfl iE.out _ (n-(k+1)) (cap-(k+1)) ((ts.drop (k+1)).flatMap aO) rfl gM.out wN.out (sP.out.below ia.out) (rF _) zx zo zo ?_;intro v9 w9 gT pJ Ij);all_goals
       go_ret
       refine⟨v9,rfl,?_,(aK jT.out ia.out).grown pJ zo (λj e=>by have:=cZ iE.out j e;omega)⟩
       rw[mA.out]
       have e9:((ts.take k++[(l,canon S)]++ts.drop (k+1)).flatMap aO)=(ts.take k).flatMap aO++[.string (bs l),.bool (ar (dN S)),.string (bs (nt (dN S).natAbs)),.int .i64 (dE S)]++(ts.drop (k+1)).flatMap aO:=by rw[List.flatMap_append,List.flatMap_append];rfl
       have l9:(ts.take k++[(l,canon S)]++ts.drop (k+1)).length=k+1+(n-(k+1)):=by simp[Hn.out];omega
       rw[e9,l9]
       exact pY gT zo
    . obtain rfl:n=k:=by omega
      cases a with
      | none=>
        have hc0:=Hs.out.2 rfl;obtain rfl:n=0:=by omega
        subst hc0;obtain⟨x0,x1,x2,x3⟩:=Hx.out.c4;have lH:decide (((0:Nat):Int)<((0:Nat):Int))=false:=by simp
        go_wp2_with fail;refine bM (λw'=>w'.cell? ⟨w.heap.size,0,none⟩=some (.string (bs l))) (λi=>Nat.blt i 100000) [(0,true),(1,true),(2,true),(3,true),(4,true),(5,true),(6,true),(7,true),(8,true),(9,true),(10,true),(11,true),(12,true),(13,true)] zk zk rfl zk zc x0 ?_;iterate 5 (refine pT rfl rfl ?_;try simp only[UU])
        refine bu rfl rfl ?_;try simp only[UU]
        refine bu rfl rfl ?_;try simp only[UU]
        refine bu rfl rfl ?_;try simp only[UU]
        refine bu rfl rfl ?_;try simp only[UU]
        refine bu rfl rfl ?_;try simp only[UU]
        refine bu rfl rfl ?_;try simp only[UU]
        refine bu rfl rfl ?_;try simp only[UU]
        refine bu rfl rfl ?_;try simp only[UU]
        refine pT rfl rfl ?_;try simp only[UU]
        simp only[aZ];generalize qU:wr.drew=wd;have vH:ak wd w.heap.size 107 [.string (bs l),.bool s,.string (bs m),.int .i64 e]:=by rw[<-qU];exact Hx.out
        have kJ:Bw w wd:=by rw[<-qU];exact Hb.out.drew
        have hpre:((ts.take 0).flatMap aO).length=0*4:=by rw[kX,List.length_take,Nat.min_eq_left (by have:=Hn.out;omega)]
        have uX:=Ha.out.below kJ;have uW:=uX.aq3 0;have hsk:Sl none 0 0:=Hs.out;obtain⟨uL,jT,Bz,BW⟩:=dS vH kJ uW hpre;have Zw:=kJ.size;have XK:=uL.out.lt;clear vH kJ uW hpre uX qU x0 x1 x2 x3 Hx Hb;go_wp2_with (at_builtin;refine oN rfl _ _ 55 rfl wd.heap.size 107 i0 _ 4 48 Tryz.underlying55 Hi.out cN.out cO.out cH.out rfl zd _ 0 [] rfl (World.ownsRow_made wd #[] 0 (Nat.le_refl _) (Nat.zero_le _) zm) none 0 0 ((ts.take 0).flatMap aO) rfl hsk BW.out (Bz.out.below ((Below.refl _ wd).alloc (Nat.le_refl _) _)) (rF _) (by simp[maxLen]) zo zm ?_;intro v1 w1 dv hg1 tN);have hb1:=((Below.refl _ wd).alloc (Nat.le_refl _) _).grown hg1 zm (λk hk=>by have h9:wd.heap.size=k:=Option.some.inj hk;omega);rw[Nat.zero_add,List.nil_append]at dv;obtain⟨av,cv,rfl,_,_⟩:=dG dv;obtain⟨Hx,Hb,mz,bU⟩:=dS (uL.out.below hb1) (aK jT.out hb1) dv hb1;have hsz1:=hb1.size;clear dv hb1 hg1 tN;obtain⟨x0,x1,x2,x3⟩:=Hx.out.c4;go_wp2_with fail;refine bM (λw'=>w'.cell? ⟨w.heap.size,0,none⟩=some (.string (bs l))) (λi=>Nat.blt i 100000) [(0,true),(1,true),(2,true),(3,true),(4,true),(5,true),(6,true),(7,true),(8,true),(9,true),(10,true),(11,true),(12,true),(13,true)] zk zk rfl zk zc x0 ?_;iterate 5 (refine pT rfl rfl ?_;try simp only[UU])
        refine bu rfl rfl ?_;try simp only[UU]
        refine bu rfl rfl ?_;try simp only[UU]
        refine bu rfl rfl ?_;try simp only[UU]
        refine bu rfl rfl ?_;try simp only[UU]
        refine bu rfl rfl ?_;try simp only[UU]
        refine bu rfl rfl ?_;try simp only[UU]
        refine bu rfl rfl ?_;try simp only[UU]
        refine bu rfl rfl ?_;try simp only[UU]
        refine pT rfl rfl ?_;try simp only[UU]
        simp only[aZ];have jc:=bU.out.drew;generalize ie:w1.drew=w2;have hx2:ak w2 w.heap.size 107 [.string (bs l),.bool s,.string (bs m),.int .i64 e]:=by rw[<-ie];exact Hx.out
        have hv2:w2.ownsRow wd.heap.size 107 4 (.slice av 0 cv) 0 ((ts.take 0).flatMap aO):=by rw[<-ie];exact mz.out
        have cM:=ah hv2;replace Hx:=ah hx2;replace Hb:Hid (Bw w2 w2):=Below.refl _ _;have wI:Hid (Bw wd w2):=by rw[<-ie];exact jc
        have qW:=Ha.out.below jT.out;have hz2:wd.heap.size<=w2.heap.size:=by rw[<-ie];exact hsz1
        obtain⟨S,hS⟩:=aB (aC (s,m,e));have hps:=OU ts (l,s,m,e) 0 EQ.out (λh=>absurd h (by have:=Hn.out;omega));rw[show aC ((l,s,m,e):aL).2=S from hS]at hps;have qY:((ts.drop 0).flatMap aO).length=(0-0) *4:=by rw[kX,List.length_drop,Hn.out]
        have hdr:=qW.aqZ (n:=0) (cap:=0) 0 Hn.out zo Ih;have hsc:=Hs.out.cut (k:=0) (size:=4) zo;obtain⟨mA,HS,wN,sP,gM⟩:=fC hps hS qY hdr hsc;have hk1:0<=0:=by omega
        have GX:0<=0:=by omega
        clear hps hS hx2 hv2 qW qY hdr hsc ie jc x0 x1 x2 x3;obtain⟨x0,x1,x2,x3⟩:=Hx.out.c4;go_wp2_with fail;refine bM (λw'=>w'.cell? ⟨w.heap.size,0,none⟩=some (.string (bs l))/\w'.cell? ⟨w.heap.size,1,none⟩=some (.bool s)/\w'.cell? ⟨w.heap.size,2,none⟩=some (.string (bs m))/\w'.cell? ⟨w.heap.size,3,none⟩=some (.int .i64 e)) (λi=>Nat.blt i 100000) [(0,true),(1,true),(2,true),(3,true),(4,true),(5,false),(6,true),(7,false),(8,false),(9,true)] zk zk rfl zk zc ⟨x0,x1,x2,x3⟩ ?_;iterate 5 (refine pT rfl rfl ?_ (by intro w' ⟨q0,q1,q2,q3⟩;go_simp;try with_reducible rfl);try simp only[UU])
        refine aI rfl rfl (λK hK=>?_);go_simp;with_reducible refine(yG s m e S HS.out _ iT.out).mono ?_
        rintro e w4 ⟨rfl,hq⟩;have ae:Bw w2 w4:=by first|exact hq|exact aV hq
        clear x0 x1 x2 x3;replace Hx:=kB Hx ae;obtain⟨x0,x1,x2,x3⟩:=Hx.out.c4;replace Hb:=az Hb ae;clear ae;refine hK _ _ (λ_=>⟨x0,x1,x2,x3⟩) ?_;clear hK K;try simp only[UU]
        refine pT rfl rfl ?_;try simp only[UU]
        refine aI rfl rfl (λK hK=>?_);go_simp;refine hK _ _ (λ_=>⟨aJ x0,aJ x1,aJ x2,aJ x3⟩) ?_;clear hK K;try simp only[UU]
        refine bO (λW5=>ak W5 (w4.heap.size) 107 [.string (bs l),.bool (ar (dN S)),.string (bs (nt (dN S).natAbs)),.int .i64 (dE S)]/\Bw w4 W5) (by first|exact dU|exact dV) ?_;rintro W5 ⟨qc,ae⟩;clear x0 x1 x2 x3;have Aw:=Hx.out.lt;replace Hx:=kB Hx ae;have Hc:=ah qc;clear qc;obtain⟨x0,x1,x2,x3⟩:=Hx.out.c4;obtain⟨c0,c1,c2,c3⟩:=Hc.out.c4;replace Hb:=az Hb ae;clear ae;refine aI rfl rfl (λK hK=>?_);have eD:=ownsRow_below cM.out Hb.out;have hs3:=Hb.out.size;refine wp_append_own _ _ _ 55 rfl wd.heap.size 107 i0 _ 4 48 Tryz.underlying55 Hi.out cN.out cO.out cH.out rfl zd (.slice av 0 cv) 0 ((ts.take 0).flatMap aO) rfl eD ⟨w4.heap.size,0,none⟩ 1 1 [.string (bs l),.bool (ar (dN S)),.string (bs (nt (dN S).natAbs)),.int .i64 (dE S)] rfl rfl (fX Hc.out) zy (by simp[maxLen]) zo zo ?_;intro v8 w8 dW bz _;have nb:∀b,b<wd.heap.size->some b≠(Value.slice av 0 cv).ownBlock:=λb hb e=>by have:=cZ eD b e.symm;omega
        refine hK _ _ (λ_=>⟨bY bz x0 (nb _ zo),bY bz x1 (nb _ zo),bY bz x2 (nb _ zo),bY bz x3 (nb _ zo)⟩) ?_;clear hK K;try simp only[UU]
        have fR:=(aK wI.out Hb.out).grown bz zo (λj e=>cZ eD j e);obtain⟨ia,iE⟩:=aM fR dW;have Ip:=bz.size;refine pT rfl rfl ?_;try simp only[UU]
        simp only[aZ];clear nb eD dW bz fR x0 x1 x2 x3 c0 c1 c2 c3;go_wp2_with (at_builtin;refine oN rfl _ _ 55 rfl wd.heap.size 107 i0 _ 4 48 Tryz.underlying55 Hi.out cN.out cO.out cH.out rfl zd v8 (0+1) _ rfl iE.out none 0 0 ((ts.drop 0).flatMap aO) rfl gM.out wN.out (sP.out.below ia.out) (rF _) (by simp[maxLen]) zo zo ?_;intro v9 w9 gT pJ Ij);all_goals
         go_ret
         refine⟨v9,rfl,?_,(aK jT.out ia.out).grown pJ zo (λj e=>by have:=cZ iE.out j e;omega)⟩
         rw[mA.out]
         have e9:((ts.take 0++[(l,canon S)]++ts.drop 0).flatMap aO)=(ts.take 0).flatMap aO++[.string (bs l),.bool (ar (dN S)),.string (bs (nt (dN S).natAbs)),.int .i64 (dE S)]++(ts.drop 0).flatMap aO:=by rw[List.flatMap_append,List.flatMap_append];rfl
         have l9:(ts.take 0++[(l,canon S)]++ts.drop 0).length=0+1+0:=by simp[Hn.out]
         rw[e9,l9]
         exact pY gT zo
      | some ad=>
        obtain⟨x0,x1,x2,x3⟩:=Hx.out.c4;have lH:decide ((n:Int)<(n:Int))=false:=by simp
        go_wp2_with fail;refine bM (λw'=>w'.cell? ⟨w.heap.size,0,none⟩=some (.string (bs l))) (λi=>Nat.blt i 100000) [(0,true),(1,true),(2,true),(3,true),(4,true),(5,true),(6,true),(7,true),(8,true),(9,true),(10,true),(11,true),(12,true),(13,true)] zk zk rfl zk zc x0 ?_;iterate 5 (refine pT rfl rfl ?_;try simp only[UU])
        refine bu rfl rfl ?_;try simp only[UU]
        refine bu rfl rfl ?_;try simp only[UU]
        refine bu rfl rfl ?_;try simp only[UU]
        refine bu rfl rfl ?_;try simp only[UU]
        refine bu rfl rfl ?_;try simp only[UU]
        refine bu rfl rfl ?_;try simp only[UU]
        refine bu rfl rfl ?_;try simp only[UU]
        refine bu rfl rfl ?_;try simp only[UU]
        refine pT rfl rfl ?_;try simp only[UU]
        simp only[aZ];generalize qU:wr.drew=wd;have vH:ak wd w.heap.size 107 [.string (bs l),.bool s,.string (bs m),.int .i64 e]:=by rw[<-qU];exact Hx.out
        have kJ:Bw w wd:=by rw[<-qU];exact Hb.out.drew
        have hpre:((ts.take n).flatMap aO).length=n*4:=by rw[kX,List.length_take,Nat.min_eq_left (by have:=Hn.out;omega)]
        have uX:=Ha.out.below kJ;have uW:=uX.aq3 n;have hsk:Sl (some ad) n cap:=Hs.out;obtain⟨uL,jT,Bz,BW⟩:=dS vH kJ uW hpre;have Zw:=kJ.size;have XK:=uL.out.lt;clear vH kJ uW hpre uX qU x0 x1 x2 x3 Hx Hb;go_wp2_with (at_builtin;refine oN rfl _ _ 55 rfl wd.heap.size 107 i0 _ 4 48 Tryz.underlying55 Hi.out cN.out cO.out cH.out rfl zd _ 0 [] rfl (World.ownsRow_made wd #[] 0 (Nat.le_refl _) (Nat.zero_le _) zm) (some ad) n cap ((ts.take n).flatMap aO) rfl hsk BW.out (Bz.out.below ((Below.refl _ wd).alloc (Nat.le_refl _) _)) (rF _) zx zo zm ?_;intro v1 w1 dv hg1 tN);have hb1:=((Below.refl _ wd).alloc (Nat.le_refl _) _).grown hg1 zm (λk hk=>by have h9:wd.heap.size=k:=Option.some.inj hk;omega);rw[Nat.zero_add,List.nil_append]at dv;obtain⟨av,cv,rfl,_,_⟩:=dG dv;obtain⟨Hx,Hb,mz,bU⟩:=dS (uL.out.below hb1) (aK jT.out hb1) dv hb1;have hsz1:=hb1.size;clear dv hb1 hg1 tN;obtain⟨x0,x1,x2,x3⟩:=Hx.out.c4;go_wp2_with fail;refine bM (λw'=>w'.cell? ⟨w.heap.size,0,none⟩=some (.string (bs l))) (λi=>Nat.blt i 100000) [(0,true),(1,true),(2,true),(3,true),(4,true),(5,true),(6,true),(7,true),(8,true),(9,true),(10,true),(11,true),(12,true),(13,true)] zk zk rfl zk zc x0 ?_;iterate 5 (refine pT rfl rfl ?_;try simp only[UU])
        refine bu rfl rfl ?_;try simp only[UU]
        refine bu rfl rfl ?_;try simp only[UU]
        refine bu rfl rfl ?_;try simp only[UU]
        refine bu rfl rfl ?_;try simp only[UU]
        refine bu rfl rfl ?_;try simp only[UU]
        refine bu rfl rfl ?_;try simp only[UU]
        refine bu rfl rfl ?_;try simp only[UU]
        refine bu rfl rfl ?_;try simp only[UU]
        refine pT rfl rfl ?_;try simp only[UU]
        simp only[aZ];have jc:=bU.out.drew;generalize ie:w1.drew=w2;have hx2:ak w2 w.heap.size 107 [.string (bs l),.bool s,.string (bs m),.int .i64 e]:=by rw[<-ie];exact Hx.out
        have hv2:w2.ownsRow wd.heap.size 107 4 (.slice av n cv) n ((ts.take n).flatMap aO):=by rw[<-ie];exact mz.out
        have cM:=ah hv2;replace Hx:=ah hx2;replace Hb:Hid (Bw w2 w2):=Below.refl _ _;have wI:Hid (Bw wd w2):=by rw[<-ie];exact jc
        have qW:=Ha.out.below jT.out;have hz2:wd.heap.size<=w2.heap.size:=by rw[<-ie];exact hsz1
        obtain⟨S,hS⟩:=aB (aC (s,m,e));have hps:=OU ts (l,s,m,e) n EQ.out (λh=>absurd h (by have:=Hn.out;omega));rw[show aC ((l,s,m,e):aL).2=S from hS]at hps;have qY:((ts.drop n).flatMap aO).length=0*4:=by rw[kX,List.length_drop,Hn.out,Nat.sub_self]
        have hdr:=qW.aqZ (n:=n) (cap:=cap) n Hn.out zo Ih;have hsc:=Hs.out.cut (k:=n) (size:=4) zo;rw[Nat.sub_self]at hsc;obtain⟨mA,HS,wN,sP,gM⟩:=fC hps hS qY hdr hsc;have hk1:n<=n:=by omega
        have GX:n<=cap:=by omega
        clear hps hS hx2 hv2 qW qY hdr hsc ie jc x0 x1 x2 x3;obtain⟨x0,x1,x2,x3⟩:=Hx.out.c4;go_wp2_with fail;refine bM (λw'=>w'.cell? ⟨w.heap.size,0,none⟩=some (.string (bs l))/\w'.cell? ⟨w.heap.size,1,none⟩=some (.bool s)/\w'.cell? ⟨w.heap.size,2,none⟩=some (.string (bs m))/\w'.cell? ⟨w.heap.size,3,none⟩=some (.int .i64 e)) (λi=>Nat.blt i 100000) [(0,true),(1,true),(2,true),(3,true),(4,true),(5,false),(6,true),(7,false),(8,false),(9,true)] zk zk rfl zk zc ⟨x0,x1,x2,x3⟩ ?_;iterate 5 (refine pT rfl rfl ?_ (by intro w' ⟨q0,q1,q2,q3⟩;go_simp;try with_reducible rfl);try simp only[UU])
        refine aI rfl rfl (λK hK=>?_);go_simp;with_reducible refine(yG s m e S HS.out _ iT.out).mono ?_
        rintro e w4 ⟨rfl,hq⟩;have ae:Bw w2 w4:=by first|exact hq|exact aV hq
        clear x0 x1 x2 x3;replace Hx:=kB Hx ae;obtain⟨x0,x1,x2,x3⟩:=Hx.out.c4;replace Hb:=az Hb ae;clear ae;refine hK _ _ (λ_=>⟨x0,x1,x2,x3⟩) ?_;clear hK K;try simp only[UU]
        refine pT rfl rfl ?_;try simp only[UU]
        refine aI rfl rfl (λK hK=>?_);go_simp;refine hK _ _ (λ_=>⟨aJ x0,aJ x1,aJ x2,aJ x3⟩) ?_;clear hK K;try simp only[UU]
        refine bO (λW5=>ak W5 (w4.heap.size) 107 [.string (bs l),.bool (ar (dN S)),.string (bs (nt (dN S).natAbs)),.int .i64 (dE S)]/\Bw w4 W5) (by first|exact dU|exact dV) ?_;rintro W5 ⟨qc,ae⟩;clear x0 x1 x2 x3;have Aw:=Hx.out.lt;replace Hx:=kB Hx ae;have Hc:=ah qc;clear qc;obtain⟨x0,x1,x2,x3⟩:=Hx.out.c4;obtain⟨c0,c1,c2,c3⟩:=Hc.out.c4;replace Hb:=az Hb ae;clear ae;refine aI rfl rfl (λK hK=>?_);have eD:=ownsRow_below cM.out Hb.out;have hs3:=Hb.out.size;refine wp_append_own _ _ _ 55 rfl wd.heap.size 107 i0 _ 4 48 Tryz.underlying55 Hi.out cN.out cO.out cH.out rfl zd (.slice av n cv) n ((ts.take n).flatMap aO) rfl eD ⟨w4.heap.size,0,none⟩ 1 1 [.string (bs l),.bool (ar (dN S)),.string (bs (nt (dN S).natAbs)),.int .i64 (dE S)] rfl rfl (fX Hc.out) zy zx zo zo ?_;intro v8 w8 dW bz _;have nb:∀b,b<wd.heap.size->some b≠(Value.slice av n cv).ownBlock:=λb hb e=>by have:=cZ eD b e.symm;omega
        refine hK _ _ (λ_=>⟨bY bz x0 (nb _ zo),bY bz x1 (nb _ zo),bY bz x2 (nb _ zo),bY bz x3 (nb _ zo)⟩) ?_;clear hK K;try simp only[UU]
        have fR:=(aK wI.out Hb.out).grown bz zo (λj e=>cZ eD j e);obtain⟨ia,iE⟩:=aM fR dW;have Ip:=bz.size;refine pT rfl rfl ?_;try simp only[UU]
        simp only[aZ];clear nb eD dW bz fR x0 x1 x2 x3 c0 c1 c2 c3;go_wp2_with (at_builtin;refine oN rfl _ _ 55 rfl wd.heap.size 107 i0 _ 4 48 Tryz.underlying55 Hi.out cN.out cO.out cH.out rfl zd v8 (n+1) _ rfl iE.out _ 0 (cap-n) ((ts.drop n).flatMap aO) rfl gM.out wN.out (sP.out.below ia.out) (rF _) zx zo zo ?_;intro v9 w9 gT pJ Ij);all_goals
         go_ret
         refine⟨v9,rfl,?_,(aK jT.out ia.out).grown pJ zo (λj e=>by have:=cZ iE.out j e;omega)⟩
         rw[mA.out]
         have e9:((ts.take n++[(l,canon S)]++ts.drop n).flatMap aO)=(ts.take n).flatMap aO++[.string (bs l),.bool (ar (dN S)),.string (bs (nt (dN S).natAbs)),.int .i64 (dE S)]++(ts.drop n).flatMap aO:=by rw[List.flatMap_append,List.flatMap_append];rfl
         have l9:(ts.take n++[(l,canon S)]++ts.drop n).length=n+1+0:=by simp[Hn.out]
         rw[e9,l9]
         exact pY gT zo
theorem akX {C:Nat}(l:List aL)(x:aL)(h:∀t∈l,Sm C (aC t.2))(hx:Sm C (aC x.2)):∀t∈gJ l x,Sm (C+1) (aC t.2):=by
 have hc:∀X:Dyadic,Sm (C+1) X->Sm (C+1) (aC (canon X)):=λX h=>by rw[bP];exact h
 induction l with
 |nil=>intro t ht;simp only[gJ,List.mem_singleton]at ht;rw[ht];exact hc _ (hx.mono zo)
 | cons y l ih=>
   intro t ht;unfold gJ at ht;split at ht
   . rcases List.mem_cons.1 ht with rfl|ht
     . exact(h _ zm).mono zo
     . exact ih (λt ht=>h t (by simp[ht])) t ht
   . split at ht
     . rcases List.mem_cons.1 ht with rfl|ht
       . exact hc _ ((h y zm).add hx)
       . exact(h t (by simp[ht])).mono zo
     . rcases List.mem_cons.1 ht with rfl|ht
       . exact hc _ (hx.mono zo)
       . exact(h t ht).mono zo
theorem ak1 {B:Nat}(l:List aL)(h:∀t∈l,Sm B (aC t.2)):∀t∈ik l,Sm (B+l.length) (aC t.2):=by refine ED (Q:=λl=>(∀t∈l,Sm B (aC t.2))->∀t∈ik l,Sm (B+l.length) (aC t.2)) (λ_ t ht=>by cases ht) (λl x ih h=>?_) l h;rw[AP];have h1:=ih (λt ht=>h t (by simp[ht]));have:=akX (C:=B+l.length) (ik l) x h1 ((h x zm).mono zo);intro t ht;have h9:=this t ht;rw[List.length_append];exact h9
theorem akZ {B:Nat}(l:List aL)(h:∀t∈l,Sm B (aC t.2))(hB:B+l.length<=16384):∀t∈ik l,eZ t.2:=λt ht=>by have h1:=ak1 l h t ht;rw[YB l t ht];exact h1.aqT hB
theorem agf (L:List aL)(k:Nat)(hk:k<L.length):(L.take (k+1)).filter gV=(L.take k).filter gV++if gV L[k]then[L[k]]else[]:=by rw[List.take_succ_eq_append_getElem hk,List.filter_append];congr 1;by_cases h:gV L[k]=true<;>simp[h]
theorem IW (V:Nat)(a:Option Addr)(n cap:Nat)(ts:List aL)(B:Nat)(w:World)(hn:ts.length=n)(hl:n<=4096)(ha:At w a (ts.flatMap aO))(hf:∀t∈ts,eZ t.2)(hs:∀t∈ts,Sm B (aC t.2))(hB:B+n<=16384):
 Calls Tryz.prog 81 #[.int .i64 (V:Int),.slice a n cap] w λex w'=>∃a' c',ex=.returned (.tuple #[.agg #[.int .i64 (V:Int),.slice a' (bF ts).length c'],.int .i64 0])/\bR w' a' c' (bF ts)/\Bw w w':=by
 obtain⟨i0,hi,hz0,hz1,hz2⟩:=info_parts Tryz.aqW;have iN:=λk=>akZ (ts.take k) (λt ht=>hs t (List.mem_of_mem_take ht)) (by rw[List.length_take];omega);have hpl:=λk=>ak0 (ts.take k);have ou:=agD ts;obtain⟨C,hC⟩:=aB (bF ts);have hcl:=xk ts;rw[hC]at ou hcl⊢;obtain⟨Hi,cN,cO,cH,oX,ll,Hgc,Ha,Hf,Hn⟩:=yj hi hz0 hz1 hz2 iN hpl ou ha hf hn;have hC4:C.length<=4096:=by omega
 clear hi hz0 hz1 hz2 iN hpl ou ha hf hs hC hn hcl;obtain⟨W,dw,Hb,Hr⟩:=iP w 57 [.int .i64 0,.slice none 0 0];obtain⟨r0,ai,r1,aj⟩:=Hr.out.g2;go_enter Tryz.func81,Tryz.ntmps81;go_wp2_with fail;have hrl:=Hr.out.lt;go_loopw[6,7] (λs6 x wr=>∃(k:Nat) (v:Value),k<=n/\x=.int .i64 (k:Int)/\v=s6/\wr.ownsRow W.heap.size 107 4 v (ik (ts.take k)).length ((ik (ts.take k)).flatMap aO)/\Bw W wr) (λ_ x _=>n-(intOf x).toNat);case atStart=>exact⟨0,_,Nat.zero_le _,rfl,rfl,World.ownsRow_nil _ _ _ _,Below.refl _ _⟩
 case round=>
  clear r0 ai r1 aj;obtain⟨k,v,hk,rfl,rfl,ho,pb⟩:=hrel;by_cases hlt:k<n
  . have hk2:k<ts.length:=by rw[Hn.out];exact hlt
    obtain⟨l,s,m,e,hx⟩:∃l s m e,ts[k]=(l,s,m,e):=⟨_,_,_,_,rfl⟩;obtain⟨b,o,rfl,cQ⟩:=(Ha.out.below (aK Hb.out pb)).term k hk2 hx;have bE:=jO n cap k (k:Int) (rfl:(some ⟨b,o,none⟩:Option Addr)=_) hlt rfl;obtain⟨av,cv,rfl,uY,_⟩:=dG ho;have DK:=sD ho;have hnx:ik (ts.take (k+1))=gJ (ik (ts.take k)) (l,s,m,e):=by rw[List.take_succ_eq_append_getElem hk2,AP,hx]
    have hp1:(ik (ts.take k)).length<=65536:=by have:=ll.out k;rw[List.length_take]at this;omega
    have dL:eZ (s,m,e):=by have:=Hf.out _ (List.getElem_mem hk2);rw[hx]at this;exact this
    have hput:=λ(W':World) (hW:Bw wr W')=>alC av _ cv (ik (ts.take k)) l s m e W' rfl hp1 DK (uY.below hW) (oX.out k) dL;rw[<-hnx]at hput;obtain⟨np,Nn⟩:=aB ((ik (ts.take k)).length);rw[Nn]at hput;rw[Nn];obtain⟨acu,aQ⟩:=aM hput pb;have Ht:Hid (bB wr b (o+k*4) [.string (bs l),.bool s,.string (bs m),.int .i64 e]):=cQ;have gm:=pb.size;clear hput pb Nn hnx hp1 dL DK uY ho cQ hx;have bQ:Hid (Bw wr wr):=Below.refl _ _;obtain⟨t0,t1,t2,t3⟩:=Ht.out.w4;go_wp2_with fail;refine(acu.out _ (Below.refl _ _)).mono ?_;rintro ex w2 ⟨v2,rfl,dP,hb2⟩;obtain⟨sY,gu⟩:=aM (pY dP gm) (aK aQ.out hb2);clear dP hb2;go_wp2;go_roundw;case rel=>exact⟨k+1,v2,by omega,by go_num,rfl,sY.out,gu.out⟩
    case measure=>simp[intOf];omega
  . obtain rfl:k=n:=by omega
    have htk:ts.take k=ts:=List.take_of_length_le (by rw[Hn.out];exact Nat.le_refl _);have iN:=oX.out k;have hpl:=ll.out k;rw[htk]at ho iN hpl;obtain⟨L,hL⟩:=aB (ik ts);have ou:=Hgc.out;rw[hL]at ho iN hpl ou;have hLn:L.length<=4096:=by rw[Hn.out]at hpl;omega
    obtain⟨N,hN⟩:=aB L.length;rw[hN]at ho hLn;obtain⟨av,cv,rfl,uY,_⟩:=dG ho;obtain⟨wg,WV⟩:∃wg,wg=wr:=⟨_,rfl⟩;subst WV;obtain⟨Hav,aQ,aco,HN,abC⟩:=fC uY pb iN hN ou;have szg:=pb.size;clear uY ho pb iN hpl ou hN hL htk;go_wp2_with fail;go_loopw[8,9] (λs8 x wr=>∃(j:Nat) (v:Value),j<=N/\x=.int .i64 (j:Int)/\v=s8/\wr.ownsRow wg.heap.size 107 4 v ((L.take j).filter gV).length (((L.take j).filter gV).flatMap aO)/\Bw wg wr) (λ_ x _=>N-(intOf x).toNat);case atStart=>exact⟨0,_,Nat.zero_le _,rfl,rfl,World.ownsRow_nil _ _ _ _,Below.refl _ _⟩
    case round=>
     obtain⟨j,v,hj,rfl,rfl,ho,qb⟩:=hrel;by_cases bj:j<N
     . have kK:j<L.length:=by rw[HN.out];exact bj
       obtain⟨l,s,m,e,hx⟩:∃l s m e,L[j]=(l,s,m,e):=⟨_,_,_,_,rfl⟩;obtain⟨b,o,rfl,cQ⟩:=(Hav.out.below qb).term j kK hx;have bE:=jO N cv j (j:Int) (rfl:(some ⟨b,o,none⟩:Option Addr)=_) bj rfl;have hft:=agf L j kK;obtain⟨g,hg⟩:=aB (bZ (aC (s,m,e)));have dL:eZ (s,m,e):=by have:=aco.out _ (List.getElem_mem kK);rw[hx]at this;exact this
       have fH:=λW=>yH s m e g hg W (by have:=dL.1;simp only at this;omega);have hnz:gV L[j]= !(g==0):=by rw[hx];unfold gV;rw[show aC ((l,s,m,e):aL).2=aC (s,m,e)from rfl,hg]
       rw[hnz,hx]at hft;have hfl:((L.take j).filter gV).length<=N:=by have:=List.length_filter_le gV (L.take j);rw[List.length_take]at this;omega
       have Ht:Hid (bB wr b (o+j*4) [.string (bs l),.bool s,.string (bs m),.int .i64 e]):=cQ;obtain⟨iV,jm,cM⟩:=cX fH qb ho;have gm:=qb.size;obtain⟨F,hF⟩:=aB ((L.take j).filter gV);rw[hF]at cM hft hfl;have Fp:=ah hft;clear fH qb ho cQ hx hg dL hnz hft hF;have Hb:Hid (Bw wr wr):=Below.refl _ _;obtain⟨t0,t1,t2,t3⟩:=Ht.out.w4;go_wp2_with fail;refine(iV.out _).mono ?_;rintro e w3 ⟨rfl,ae⟩;clear t0 t1 t2 t3;replace Ht:=kW Ht ae;obtain⟨t0,t1,t2,t3⟩:=Ht.out.w4;replace Hb:=az Hb ae;clear ae;by_cases hg0:g=0
       . subst hg0;have hz:(((0:Int)) !=0)=false:=by decide
         have hft:=Fp.out;simp only[beq_self_eq_true,Bool.not_true,Bool.false_eq_true,if_false,List.append_nil]at hft;have JX:=ah hft;clear hft Fp;obtain⟨Hq3,Ho3⟩:=aM (aK jm.out Hb.out) (ownsRow_below cM.out Hb.out);go_wp2;go_roundw;case rel=>exact⟨j+1,v,by omega,by go_num,rfl,by rw[JX.out];exact Ho3.out,Hq3.out⟩
         case measure=>simp[intOf];omega
       . have hz:(g !=0)=true:=by simpa using hg0
         have hz2:(g==0)=false:=by simpa using hg0
         have hft:=Fp.out;rw[hz2]at hft;simp only[Bool.not_false,if_true]at hft;have JX:=ah hft;clear hft Fp;go_upto_region 11 with fail
         have P0:=t0;have P1:=t1;have P2:=t2;have P3:=t3;obtain⟨W5,xH,ae,Hc⟩:=cS w3 107 [.string (bs l),.bool s,.string (bs m),.int .i64 e];clear t0 t1 t2 t3;replace Ht:=kW Ht ae;obtain⟨t0,t1,t2,t3⟩:=Ht.out.w4;obtain⟨c0,c1,c2,c3⟩:=Hc.out.c4;replace Hb:=az Hb ae;clear ae;have yb:=ownsRow_below cM.out Hb.out;have hs5:=Hb.out.size;go_wp2_with (at_builtin;refine wpList_append_own_at _ rfl _ _ 55 rfl wg.heap.size 107 i0 _ 4 48 Tryz.underlying55 Hi.out cN.out cO.out cH.out rfl zd v F.length (F.flatMap aO) rfl yb ⟨w3.heap.size,0,none⟩ 1 1 [.string (bs l),.bool s,.string (bs m),.int .i64 e] rfl rfl (fX Hc.out) zy zx zo zo ?_;intro v' w7 dQ eT _ fq);have jy:=(aK jm.out Hb.out).grown eT zo (λj e=>cZ yb j e);have e7:F.flatMap aO++[.string (bs l),.bool s,.string (bs m),.int .i64 e]=(F++[(l,s,m,e)]).flatMap aO:=by rw[List.flatMap_append];rfl
         rw[e7]at dQ;obtain⟨BR,oP⟩:=aM dQ jy;clear dQ jy e7 fq eT yb P0 P1 P2 P3 t0 t1 t2 t3 c0 c1 c2 c3;go_wp2;go_roundw;case rel=>exact⟨j+1,v',by omega,by go_num,rfl,by rw[JX.out,List.length_append];exact BR.out,oP.out⟩
         case measure=>simp[intOf];omega
     . obtain rfl:j=N:=by omega
       have htk:L.take j=L:=List.take_of_length_le (by rw[HN.out];exact Nat.le_refl _);rw[htk,abC.out]at ho;obtain⟨a2,c2,rfl,_,_⟩:=dG ho;obtain⟨Ho,acl⟩:=aM ho (aK (aK Hb.out aQ.out) qb);have jL:=aQ.out.size;have wU:=ah (Hr.out.below (aK aQ.out qb));have h4:¬(4096:Int)<(C.length:Int):=by omega
       have h4d:decide ((4096:Int)<(C.length:Int))=false:=by simp;omega
       clear ho htk qb;have Hr:=wU;obtain⟨r0,ai,r1,aj⟩:=Hr.out.g2;go_wp2;refine zG (wU.out) Ho.out acl.out zo ?_;intro w9 oz gT jX;obtain⟨p0,p1⟩:=oz.c2;exact bodyPost_ret (v:=.tuple #[.agg #[.int .i64 (V:Int),.slice a2 C.length c2],.int .i64 0]) (by simp[results,Tryz.results81,go_sem,p0,p1]) rfl ⟨_,_,rfl,Ej gT,jX⟩
end Go.Proofs.YtdaadlblknpipaaGreatDoor
