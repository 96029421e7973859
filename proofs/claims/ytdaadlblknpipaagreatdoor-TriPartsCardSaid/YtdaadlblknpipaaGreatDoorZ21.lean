/- Packages ogeeref07,ogeeref08: May;put. -/
import Derived.Test.YtdaadlblknpipaaGreatDoorZ19
import Derived.Test.YtdaadlblknpipaaGreatDoorZ12
import Derived.Test.YtdaadlblknpipaaGreatDoorZ15
set_option linter.unusedVariables false
set_option linter.unusedSimpArgs false
set_option maxRecDepth 100000
set_option maxHeartbeats 16000000
namespace Go.Proofs.YtdaadlblknpipaaGreatDoor
open Go.RowKit
attribute [local go_sem ↓] Go.wp_at_zero Go.wp_at_succ
theorem aiY (l:List UInt8)(v:Int)(w:World)(hl:l.length<=9223372036854775807):
 Calls Tryz.prog 121 #[.string (bs l),.int .i64 v] w λe w'=>e=.returned (.bool (fK l v))/\Bw w w':=by
 obtain⟨n,hn⟩:=aC l.length;have hsz:(bs l).size=n:=by rw[mK,hn]
 obtain⟨M,hM⟩:=aC (fK l v);rw[hM];obtain⟨HM,Hn⟩:=aM hM hn;rw[hn]at hl;clear hM hn;go_enter Tryz.func121,Tryz.ntmps121;have Hb:Hid (Bw w w):=Below.refl _ _;go_wp2_with fail;go_loopw[5] (λx wr=>∃k:Nat,k<=n/\x=.int .i64 (k:Int)/\((l.take k).all λc=>decide (c.toNat<=127))=true/\Bw w wr) (λx _=>n-(intOf x).toNat);case atStart=>exact⟨0,Nat.zero_le _,rfl,rfl,Hb.out⟩
 case round=>
  clear Hb;obtain⟨k,hk,rfl,hall,pb⟩:=hrel;obtain⟨uY,Hb⟩:=aM hall pb;clear hall pb;by_cases hlt:k<n
  . have hk2:k<l.length:=by rw[Hn.out];exact hlt
    have ix:=wP l (k:Int) k hk2 rfl;obtain⟨c,hc⟩:∃c:Nat,(l[k]).toNat=c:=⟨_,rfl⟩;rw[hc]at ix;by_cases h1:128<=c
    . have h2:(128:Int)<=(c:Int):=by omega
      have qG:M=false:=by
       rw[<-HM.out];unfold fK;have:(l.all λc=>decide (c.toNat<=127))=false:=by rw[List.all_eq_false];exact⟨l[k],List.getElem_mem hk2,by simp;omega⟩
       rw[this];rfl
      subst qG;go_wp2;refine bodyPost_ret (v:=.bool false) (by simp[results,Tryz.results121,go_sem]) rfl ⟨rfl,?_⟩;(repeat first|exact Hb.out| (refine Below.setCell ?_ (by have:=Hb.out.size;first| (dsimp only;omega) | (show _<=_;omega) | (simp<;>omega)) _) | (refine Below.alloc ?_ zt _) |refine Below.drew ?_)
    . have h2:¬(128:Int)<=(c:Int):=by omega
      have bS:Hid (((l.take (k+1)).all λc=>decide (c.toNat<=127))=true):=by
       show _=_
       rw[List.take_succ_eq_append_getElem hk2,List.all_append,uY.out];simp;omega
      clear hc;go_wp2;go_roundw;case rel=>exact⟨k+1,by omega,by go_num,bS.out,Hb.out⟩
      case measure=>simp[intOf];omega
  . obtain rfl:k=n:=by omega
    have hme:M=decide ((k:Int)=v):=by rw[<-HM.out];have h:=uY.out;rw[List.take_of_length_le (by rw[Hn.out];exact Nat.le_refl _)]at h;unfold fK;rw[h,Hn.out,Bool.true_and]
    have Jf:=ah hme;clear hme;go_wp2;refine bodyPost_ret (results_tmp rfl _ _ _) rfl ⟨?_,Hb.out⟩;rw[Jf.out];by_cases h:(k:Int)=v<;>simp[h]
theorem abc (m:List UInt8)(l:List aL)(j:Nat)(h:j<gD m l)(hj:j<l.length):Op.bytesLess l[j].1 m=true:=by
 induction l generalizing j with
 |nil=>simp at hj
 | cons x l ih=>
   unfold gD at h;split at h
   . rename_i hx
     cases j with
     |zero=>exact hx
     |succ j=>exact ih j zo (by simpa using hj)
   . omega
theorem abd (m:List UInt8)(l:List aL)(h:gD m l<l.length):Op.bytesLess l[gD m l].1 m=false:=by
 induction l with
 |nil=>simp at h
 | cons x l ih=>
   by_cases hx:Op.bytesLess x.1 m=true
   . have e:gD m (x::l)=gD m l+1:=by show(if _ then _ else _)=_;rw[if_pos hx]
     simp only[e]at h⊢;exact ih (by simpa using h)
   . have e:gD m (x::l)=0:=by show(if _ then _ else _)=_;rw[if_neg hx]
     simp only[e];simpa using hx
theorem aix (l:List aL)(x:aL)(k:Nat)(hk:gD x.1 l=k)(h:k<l.length)(e:l[k].1=x.1):fV l x=l.take k++[(x.1,canon (aB l[k].2+aB x.2))]++l.drop (k+1):=by
 have e1:(l.drop k).head?=some l[k]:=by rw[List.drop_eq_getElem_cons h];rfl
 have e2:(l.drop k).headD default=l[k]:=by rw[List.drop_eq_getElem_cons h];rfl
 rw[WA,hk,e1,e2,if_pos (by rw[Option.map_some,e]),List.append_assoc,List.singleton_append]
theorem Nr (l:List aL)(x:aL)(k:Nat)(hk:gD x.1 l=k)(h:∀h:k<l.length,l[k].1≠x.1):fV l x=l.take k++[(x.1,canon (aB x.2))]++l.drop k:=by
 rw[WA,hk,if_neg,List.append_assoc,List.singleton_append];intro e;by_cases hl:k<l.length
 . rw[List.drop_eq_getElem_cons hl,List.head?_cons,Option.map_some]at e;exact h hl (Option.some.inj e)
 . rw[List.drop_of_length_le zo]at e;cases e
theorem At.aoh {w:World}{a:Option Addr}{ts:List aL}(h:At w a (ts.flatMap aN))(k:Nat):At w a ((ts.take k).flatMap aN):=by
 have e:(ts.take k).flatMap aN++(ts.drop k).flatMap aN=ts.flatMap aN:=by rw[<-List.flatMap_append,List.take_append_drop]
 rcases h with h|⟨b,o,rfl,hc⟩
 . rw[h]at e;exact .inl (List.append_eq_nil_iff.1 e).1
 . by_cases h0:(ts.take k).flatMap aN=[]
   . exact .inl h0
   . refine .inr ⟨b,o,rfl,λj hj=>?_⟩;rw[hc j (by rw[<-e,List.length_append];omega),<-e,List.getElem?_append_left hj]
theorem At.aoc {w:World}{a:Option Addr}{ts:List aL}(h:At w a (ts.flatMap aN)){n cap:Nat}(k:Nat)(hn:ts.length=n)(hk:k<=n)(hc:n<=cap):At w (if cap=k then a else a.map (·.add (k*4))) ((ts.drop k).flatMap aN):=by
 have h1:=At.cut (size:=4) (n:=n) (k:=k) (cap:=cap) h (by rw[kM,hn]) hk hc;have e:(ts.drop k).flatMap aN=(ts.flatMap aN).drop (k*4):=by
  have e0:ts.flatMap aN=(ts.take k).flatMap aN++(ts.drop k).flatMap aN:=by rw[<-List.flatMap_append,List.take_append_drop]
  rw[e0,List.drop_append_of_le_length (by rw[kM,List.length_take];omega)];have e1:((ts.take k).flatMap aN).length=k*4:=by rw[kM,List.length_take,Nat.min_eq_left zo]
  rw[<-e1,List.drop_length,List.nil_append]
 rw[e];exact h1
theorem ajb (a:Option Addr)(n cap:Nat)(ts:List aL)(l:List UInt8)(s:Bool)(m:List UInt8)(e:Int)(w:World)(hn:ts.length=n)(hl:n<=65536)(hs:Sl a n cap)(ha:At w a (ts.flatMap aN))(hf:∀t∈ts,dw t.2)(hx:dw (s,m,e)):
 Calls Tryz.prog 120 #[.slice a n cap,.agg #[.string (bs l),.bool s,.string (bs m),.int .i64 e]] w λex w'=>∃v',ex=.returned v'/\w'.ownsRow w.heap.size 107 4 v' (fV ts (l,s,m,e)).length ((fV ts (l,s,m,e)).flatMap aN)/\Bw w w':=by
 obtain⟨i0,hi,hz0,hz1,hz2⟩:=info_parts Tryz.aob;obtain⟨A,hA⟩:=aC (gD l ts);have hAn:A<=n:=by rw[<-hA,<-hn];exact abb _ _
 have hgo:∀j (h:j<ts.length),j<A->Op.bytesLess ts[j].1 l=true:=λj h hj=>abc l ts j zo h;have hst:∀(h:A<ts.length),Op.bytesLess ts[A].1 l=false:=λh=>by subst hA;exact abd l ts h
 have FP:=hs.1;obtain⟨Hi,cM,cN,cJ,Dz,Ze,bS,Hs,Ha,Hf,gZ,Hn⟩:=gW hi hz0 hz1 hz2 hA hgo hst hs ha hf hx hn;clear hi hz0 hz1 hz2 hA hgo hst hs ha hf hx hn;obtain⟨W,cO,Hb,Hx⟩:=iF w 107 [.string (bs l),.bool s,.string (bs m),.int .i64 e];obtain⟨x0,x1,x2,x3⟩:=Hx.out.c4;go_enter Tryz.func120,Tryz.ntmps120;go_wp2_with fail;go_loopw[5] (λx wr=>∃k:Nat,k<=A/\x=.int .i64 (k:Int)/\ai wr w.heap.size 107 [.string (bs l),.bool s,.string (bs m),.int .i64 e]/\Bw w wr) (λx _=>n-(intOf x).toNat);case atStart=>exact⟨0,Nat.zero_le _,rfl,Hx.out,Hb.out⟩
 case round=>
  clear x0 x1 x2 x3 Hx Hb;obtain⟨k,hk,rfl,px,pb⟩:=hrel;obtain⟨Hx,Hb⟩:=aM px pb;clear px pb;by_cases hlt:k<A
  . have hkn:k<n:=by omega
    have hk2:k<ts.length:=by rw[Hn.out];exact hkn
    obtain⟨l',s',m',e',hx'⟩:∃l s m e,ts[k]=(l,s,m,e):=⟨_,_,_,_,rfl⟩;obtain⟨b,o,rfl,cw⟩:=(Ha.out.below Hb.out).term k hk2 hx';have bA:=jl n cap k (k:Int) (rfl:(some ⟨b,o,none⟩:Option Addr)=_) hkn rfl;have qE:Op.bytesLess (bs l').toList (bs l).toList=true:=by rw[fH,fH];have:=Ze.out k hk2 hlt;rw[hx']at this;exact this
    have Ht:Hid (aZ wr b (o+k*4) [.string (bs l'),.bool s',.string (bs m'),.int .i64 e']):=cw;clear cw hx';obtain⟨x0,x1,x2,x3⟩:=Hx.out.c4;obtain⟨t0,t1,t2,t3⟩:=Ht.out.w4;have qF:decide ((k:Int)<(n:Int))=true:=by simp;omega
    go_wp2_with fail;refine bD (λw'=>w'.cell? ⟨w.heap.size,0,none⟩=some (.string (bs l))/\w'.cell? ⟨b,o+k*4,none⟩=some (.string (bs l'))) (λi=>Nat.blt i 100000) [(0,true),(1,true),(2,true),(3,true),(4,true),(5,true),(6,true),(7,true),(8,true),(9,true),(10,true),(11,true),(12,true),(13,true)] zk zk rfl zk zc ⟨x0,t0⟩ ?_;iterate 14 (refine pT rfl rfl ?_ (by intro w' ⟨q0,q1⟩;go_simp;try with_reducible rfl);try simp only[UU])
    simp only[aU];go_wp2;go_roundw;case rel=>exact⟨k+1,by omega,by go_num,Hx.out,Hb.out.drew⟩
    case measure=>simp[intOf];omega
  . obtain rfl:k=A:=by omega
    have hkc:k<=cap:=by omega
    by_cases hkn:k<n
    . have hk2:k<ts.length:=by rw[Hn.out];exact hkn
      obtain⟨l',s',m',e',hx'⟩:∃l s m e,ts[k]=(l,s,m,e):=⟨_,_,_,_,rfl⟩;obtain⟨b,o,rfl,cw⟩:=(Ha.out.below Hb.out).term k hk2 hx';have bA:=jl n cap k (k:Int) (rfl:(some ⟨b,o,none⟩:Option Addr)=_) hkn rfl;have qE:Op.bytesLess (bs l').toList (bs l).toList=false:=by rw[fH,fH];have:=bS.out hk2;rw[hx']at this;exact this
      have lbt:b<w.heap.size:=by obtain⟨b3,o3,h3,hw3⟩:=Ha.out.term k hk2 hx';simp only[Option.some.injEq,Addr.mk.injEq,and_true]at h3;obtain⟨rfl,rfl⟩:=h3;exact World.block_lt_of_cell? w _ (hw3.cell 0 zm)
      have Ht:Hid (aZ wr b (o+k*4) [.string (bs l'),.bool s',.string (bs m'),.int .i64 e']):=cw;clear cw;obtain⟨x0,x1,x2,x3⟩:=Hx.out.c4;obtain⟨t0,t1,t2,t3⟩:=Ht.out.w4;have qF:decide ((k:Int)<(n:Int))=true:=by simp;omega
      go_wp2_with fail;refine bD (λw'=>w'.cell? ⟨w.heap.size,0,none⟩=some (.string (bs l))/\w'.cell? ⟨b,o+k*4,none⟩=some (.string (bs l'))) (λi=>Nat.blt i 100000) [(0,true),(1,true),(2,true),(3,true),(4,true),(5,true),(6,true),(7,true),(8,true),(9,true),(10,true),(11,true),(12,true),(13,true)] zk zk rfl zk zc ⟨x0,t0⟩ ?_;iterate 14 (refine pT rfl rfl ?_ (by intro w' ⟨q0,q1⟩;go_simp;try with_reducible rfl);try simp only[UU])
      simp only[aU];generalize pz:wr.drew=wd;have uo:ai wd w.heap.size 107 [.string (bs l),.bool s,.string (bs m),.int .i64 e]:=by rw[<-pz];exact Hx.out
      have jS:Bw w wd:=by rw[<-pz];exact Hb.out.drew
      have hpre:((ts.take k).flatMap aN).length=k*4:=by rw[kM,List.length_take,Nat.min_eq_left zo]
      have tW:=Ha.out.below jS;have tV:=tW.aoh k;obtain⟨tH,ju,Aa,AC⟩:=dO uo jS tV hpre;have Xo:=jS.size;have VF:=tH.out.lt;clear uo jS tV hpre tW pz x0 x1 x2 x3 t0 t1 t2 t3 Hx Ht Hb;go_wp2_with (at_builtin;refine ry rfl _ _ 55 rfl wd.heap.size 107 i0 _ 4 48 Tryz.underlying55 Hi.out cM.out cN.out cJ.out rfl zd _ 0 [] rfl (World.ownsRow_made wd #[] 0 (Nat.le_refl _) (Nat.zero_le _) zm) (some ⟨b,o,none⟩) k cap ((ts.take k).flatMap aN) rfl (Sl.some _ _ _ hkc) AC.out (Aa.out.below ((Below.refl _ wd).alloc (Nat.le_refl _) _)) (rp _) zx zo zm ?_;intro v1 w1 cP hg1 wz);have hb1:=((Below.refl _ wd).alloc (Nat.le_refl _) _).grown hg1 zm (λk hk=>by have h9:wd.heap.size=k:=Option.some.inj hk;omega);rw[Nat.zero_add,List.nil_append]at cP;obtain⟨av,cv,rfl,_,_⟩:=dK cP;obtain⟨Hx,Hb⟩:=aM (tH.out.below hb1) (aK ju.out hb1);obtain⟨b2,o2,eQ,cw⟩:=(Ha.out.below Hb.out).term k hk2 hx';simp only[Option.some.injEq,Addr.mk.injEq,and_true]at eQ;obtain⟨rfl,rfl⟩:=eQ;have Ht:Hid (aZ w1 b (o+k*4) [.string (bs l'),.bool s',.string (bs m'),.int .i64 e']):=cw;obtain⟨nH,bL⟩:=aM cP hb1;have hsz1:=hb1.size;have jz:dw (s',m',e'):=by have:=Hf.out _ (List.getElem_mem hk2);rw[hx']at this;exact this
      have hel:ts[k]=(l',s',m',e'):=hx';clear cP hb1 hg1 wz cw hx' qE;obtain⟨x0,x1,x2,x3⟩:=Hx.out.c4;obtain⟨t0,t1,t2,t3⟩:=Ht.out.w4;go_wp2_with fail;have EW:((bs l').toList==(bs l).toList)=decide (l'=l):=by rw[fH,fH];by_cases h:l'=l<;>simp[h]
      by_cases he:l'=l
      case neg=>
       rw[decide_eq_false he]at EW;refine bD (λw'=>w'.cell? ⟨w.heap.size,0,none⟩=some (.string (bs l))/\w'.cell? ⟨b,o+k*4,none⟩=some (.string (bs l'))) (λi=>Nat.blt i 100000) [(0,true),(1,true),(2,true),(3,true),(4,true),(5,true),(6,true),(7,true),(8,true),(9,true),(10,true),(11,true),(12,true),(13,true)] zk zk rfl zk zc ⟨x0,t0⟩ ?_;iterate 14 (refine pT rfl rfl ?_ (by intro w' ⟨q0,q1⟩;go_simp;try with_reducible rfl);try simp only[UU])
       simp only[aU];have jK:=bL.out.drew;generalize gv:w1.drew=w2;have hx2:ai w2 w.heap.size 107 [.string (bs l),.bool s,.string (bs m),.int .i64 e]:=by rw[<-gv];exact Hx.out
       have hv2:w2.ownsRow wd.heap.size 107 4 (.slice av k cv) k ((ts.take k).flatMap aN):=by rw[<-gv];exact nH.out
       have cp:=ah hv2;replace Hx:=ah hx2;replace Hb:Hid (Bw w2 w2):=Below.refl _ _;have vd:Hid (Bw wd w2):=by rw[<-gv];exact jK
       have pE:=Ha.out.below ju.out;have hz2:wd.heap.size<=w2.heap.size:=by rw[<-gv];exact hsz1
       obtain⟨S,hS⟩:=aC (aB (s,m,e));have hps:=Nr ts (l,s,m,e) k Dz.out (λ_=>by rw[hel];exact he);rw[show aB ((l,s,m,e):aL).2=S from hS]at hps;have pF:((ts.drop k).flatMap aN).length=(n-k) *4:=by rw[kM,List.length_drop,Hn.out]
       have hdr:=pE.aoc (n:=n) (cap:=cap) k Hn.out zo FP;have hsc:=Hs.out.cut (k:=k) (size:=4) zo;have adG:(⟨b,o,none⟩:Addr).add (k*4)=⟨b,o+k*4,none⟩:=by unfold Addr.add;split<;>simp_all
       rw[if_neg zo,Option.map_some,adG]at hdr hsc;obtain⟨nK,HS,vk,rE,jc⟩:=fp hps hS pF hdr hsc;have hk1:k<=n:=by omega
       have LK:k<=cap:=by omega
       clear hps hS hx2 hv2 pE pF hdr hsc gv jK hel jz x0 x1 x2 x3 t0 t1 t2 t3 EW he bA;obtain⟨x0,x1,x2,x3⟩:=Hx.out.c4;go_wp2_with fail;refine bD (λw'=>w'.cell? ⟨w.heap.size,0,none⟩=some (.string (bs l))/\w'.cell? ⟨w.heap.size,1,none⟩=some (.bool s)/\w'.cell? ⟨w.heap.size,2,none⟩=some (.string (bs m))/\w'.cell? ⟨w.heap.size,3,none⟩=some (.int .i64 e)) (λi=>Nat.blt i 100000) [(0,true),(1,true),(2,true),(3,true),(4,true),(5,false),(6,true),(7,false),(8,false),(9,true)] zk zk rfl zk zc ⟨x0,x1,x2,x3⟩ ?_;iterate 5 (refine pT rfl rfl ?_ (by intro w' ⟨q0,q1,q2,q3⟩;go_simp;try with_reducible rfl);try simp only[UU])
       refine aJ rfl rfl (λK hK=>?_);go_simp;with_reducible refine(xq s m e S HS.out _ gZ.out).mono ?_
       rintro e w4 ⟨rfl,hq⟩;have ae:Bw w2 w4:=by first|exact hq|exact aO hq
       clear x0 x1 x2 x3;replace Hx:=kB Hx ae;obtain⟨x0,x1,x2,x3⟩:=Hx.out.c4;replace Hb:=az Hb ae;clear ae;refine hK _ _ (λ_=>⟨x0,x1,x2,x3⟩) ?_;clear hK K;try simp only[UU]
       refine pT rfl rfl ?_;try simp only[UU]
       refine aJ rfl rfl (λK hK=>?_);go_simp;refine hK _ _ (λ_=>⟨aI x0,aI x1,aI x2,aI x3⟩) ?_;clear hK K;try simp only[UU]
       refine bE (λW5=>ai W5 (w4.heap.size) 107 [.string (bs l),.bool (au (dN S)),.string (bs (nt (dN S).natAbs)),.int .i64 (dE S)]/\Bw w4 W5) (by first|exact dW|exact dX) ?_;rintro W5 ⟨qc,ae⟩;clear x0 x1 x2 x3;have yR:=Hx.out.lt;replace Hx:=kB Hx ae;have Hc:=ah qc;clear qc;obtain⟨x0,x1,x2,x3⟩:=Hx.out.c4;obtain⟨c0,c1,c2,c3⟩:=Hc.out.c4;replace Hb:=az Hb ae;clear ae;refine aJ rfl rfl (λK hK=>?_);have dR:=ownsRow_below cp.out Hb.out;have hs3:=Hb.out.size;refine wp_append_own _ _ _ 55 rfl wd.heap.size 107 i0 _ 4 48 Tryz.underlying55 Hi.out cM.out cN.out cJ.out rfl zd (.slice av k cv) k ((ts.take k).flatMap aN) rfl dR ⟨w4.heap.size,0,none⟩ 1 1 [.string (bs l),.bool (au (dN S)),.string (bs (nt (dN S).natAbs)),.int .i64 (dE S)] rfl rfl (fZ Hc.out) zy zx zo zo ?_;intro v8 w8 dF bj _;have nb:∀b,b<wd.heap.size->some b≠(Value.slice av k cv).ownBlock:=λb hb e=>by have:=cL dR b e.symm;omega
       refine hK _ _ (λ_=>⟨bO bj x0 (nb _ zo),bO bj x1 (nb _ zo),bO bj x2 (nb _ zo),bO bj x3 (nb _ zo)⟩) ?_;clear hK K;try simp only[UU]
       have gg:=(aK vd.out Hb.out).grown bj zo (λj e=>cL dR j e);obtain⟨fY,gP⟩:=aM gg dF;have FT:=bj.size;refine pT rfl rfl ?_;try simp only[UU]
       simp only[aU];clear nb dR dF bj gg x0 x1 x2 x3 c0 c1 c2 c3;go_wp2_with (at_builtin;refine ry rfl _ _ 55 rfl wd.heap.size 107 i0 _ 4 48 Tryz.underlying55 Hi.out cM.out cN.out cJ.out rfl zd v8 (k+1) _ rfl gP.out _ (n-k) (cap-k) ((ts.drop k).flatMap aN) rfl jc.out vk.out (rE.out.below fY.out) (rp _) zx zo zo ?_;intro v9 w9 gF qC Me);all_goals
        go_ret
        refine⟨v9,rfl,?_,(aK ju.out fY.out).grown qC zo (λj e=>by have:=cL gP.out j e;omega)⟩
        rw[nK.out]
        have e9:((ts.take k++[(l,canon S)]++ts.drop k).flatMap aN)=(ts.take k).flatMap aN++[.string (bs l),.bool (au (dN S)),.string (bs (nt (dN S).natAbs)),.int .i64 (dE S)]++(ts.drop k).flatMap aN:=by rw[List.flatMap_append,List.flatMap_append];rfl
        have l9:(ts.take k++[(l,canon S)]++ts.drop k).length=k+1+(n-k):=by simp[Hn.out];omega
        rw[e9,l9]
        exact oF gF zo
      rw[decide_eq_true he]at EW;refine bD (λw'=>w'.cell? ⟨w.heap.size,0,none⟩=some (.string (bs l))/\w'.cell? ⟨b,o+k*4,none⟩=some (.string (bs l'))) (λi=>Nat.blt i 100000) [(0,true),(1,true),(2,true),(3,true),(4,true),(5,true),(6,true),(7,true),(8,true),(9,true),(10,true),(11,true),(12,true),(13,true)] zk zk rfl zk zc ⟨x0,t0⟩ ?_;iterate 14 (refine pT rfl rfl ?_ (by intro w' ⟨q0,q1⟩;go_simp;try with_reducible rfl);try simp only[UU])
      simp only[aU];have jK:=bL.out.drew;generalize gv:w1.drew=w2;have hx2:ai w2 w.heap.size 107 [.string (bs l),.bool s,.string (bs m),.int .i64 e]:=by rw[<-gv];exact Hx.out
      have ht2:aZ w2 b (o+k*4) [.string (bs l'),.bool s',.string (bs m'),.int .i64 e']:=by rw[<-gv];exact Ht.out
      have hb2:Bw w w2:=by rw[<-gv];exact Hb.out.drew
      have hv2:w2.ownsRow wd.heap.size 107 4 (.slice av k cv) k ((ts.take k).flatMap aN):=by rw[<-gv];exact nH.out
      have cp:=ah hv2;replace Hx:=ah hx2;replace Ht:=ah ht2;replace Hb:Hid (Bw w2 w2):=Below.refl _ _;have vd:Hid (Bw wd w2):=by rw[<-gv];exact jK
      have pE:=Ha.out.below ju.out;have hz2:wd.heap.size<=w2.heap.size:=by rw[<-gv];exact hsz1
      obtain⟨S,hS⟩:=aC (aB (s',m',e')+aB (s,m,e));have hps:=aix ts (l,s,m,e) k Dz.out hk2 (by rw[hel];exact he);rw[show aB ts[k].2=aB (s',m',e')by rw[hel],show aB (s',m',e')+aB ((l,s,m,e):aL).2=S from hS]at hps;have pF:((ts.drop (k+1)).flatMap aN).length=(n-(k+1)) *4:=by rw[kM,List.length_drop,Hn.out]
      have hdr:=pE.aoc (n:=n) (cap:=cap) (k+1) Hn.out zo FP;have hsc:=Hs.out.cut (k:=k+1) (size:=4) zo;obtain⟨nK,HS,kR,vk,rE,jc⟩:=gJ hps hS jz pF hdr hsc;have hk1:k+1<=n:=by omega
      have LK:k+1<=cap:=by omega
      clear hps hS hel jz hx2 ht2 hb2 hv2 pE pF hdr hsc x0 x1 x2 x3 t0 t1 t2 t3 gv jK EW he bA;obtain⟨x0,x1,x2,x3⟩:=Hx.out.c4;obtain⟨t0,t1,t2,t3⟩:=Ht.out.w4;have bA:=jl n cap k (k:Int) (rfl:(some ⟨b,o,none⟩:Option Addr)=_) hkn rfl;go_wp2_with fail;have MB:=Hx.out.lt;refine bD (λw'=>w'.cell? ⟨w.heap.size,0,none⟩=some (.string (bs l))/\w'.cell? ⟨w.heap.size,1,none⟩=some (.bool s)/\w'.cell? ⟨w.heap.size,2,none⟩=some (.string (bs m))/\w'.cell? ⟨w.heap.size,3,none⟩=some (.int .i64 e)/\w'.cell? ⟨b,o+k*4,none⟩=some (.string (bs l'))/\w'.cell? ⟨b,o+k*4+1,none⟩=some (.bool s')/\w'.cell? ⟨b,o+k*4+2,none⟩=some (.string (bs m'))/\w'.cell? ⟨b,o+k*4+3,none⟩=some (.int .i64 e')) (λi=>Nat.blt i 100000) [(0,true),(1,true),(2,true),(3,true),(4,true),(5,true),(6,true),(7,true),(8,true),(9,true),(10,false),(11,true),(12,false),(13,false),(14,true)] zk zk rfl zk zc ⟨x0,x1,x2,x3,t0,t1,t2,t3⟩ ?_;iterate 10 (refine pT rfl rfl ?_ (by intro w' ⟨q0,q1,q2,q3,q4,q5,q6,q7⟩;go_simp;try with_reducible rfl);try simp only[UU])
      refine aJ rfl rfl (λK hK=>?_);go_simp;with_reducible refine(Gx s' m' e' s m e S HS.out _ kR.out gZ.out).mono ?_
      rintro e w4 ⟨rfl,hq⟩;have ae:Bw w2 w4:=by first|exact hq|exact aO hq
      clear x0 x1 x2 x3 t0 t1 t2 t3;replace Hx:=kB Hx ae;replace Ht:=kW Ht ae;obtain⟨x0,x1,x2,x3⟩:=Hx.out.c4;obtain⟨t0,t1,t2,t3⟩:=Ht.out.w4;replace Hb:=az Hb ae;clear ae;refine hK _ _ (λ_=>⟨x0,x1,x2,x3,t0,t1,t2,t3⟩) ?_;clear hK K;try simp only[UU]
      refine pT rfl rfl ?_;try simp only[UU]
      refine aJ rfl rfl (λK hK=>?_);go_simp;refine hK _ _ (λ_=>⟨aI x0,aI x1,aI x2,aI x3,aI t0,aI t1,aI t2,aI t3⟩) ?_;clear hK K;try simp only[UU]
      refine bE (λW5=>ai W5 (w4.heap.size) 107 [.string (bs l),.bool (au (dN S)),.string (bs (nt (dN S).natAbs)),.int .i64 (dE S)]/\Bw w4 W5) (by first|exact dW|exact dX) ?_;rintro W5 ⟨qc,ae⟩;clear x0 x1 x2 x3 t0 t1 t2 t3;have yR:=Hx.out.lt;replace Hx:=kB Hx ae;replace Ht:=kW Ht ae;have Hc:=ah qc;clear qc;obtain⟨x0,x1,x2,x3⟩:=Hx.out.c4;obtain⟨t0,t1,t2,t3⟩:=Ht.out.w4;obtain⟨c0,c1,c2,c3⟩:=Hc.out.c4;replace Hb:=az Hb ae;clear ae;refine aJ rfl rfl (λK hK=>?_);have dR:=ownsRow_below cp.out Hb.out;have hs3:=Hb.out.size;refine wp_append_own _ _ _ 55 rfl wd.heap.size 107 i0 _ 4 48 Tryz.underlying55 Hi.out cM.out cN.out cJ.out rfl zd (.slice av k cv) k ((ts.take k).flatMap aN) rfl dR ⟨w4.heap.size,0,none⟩ 1 1 [.string (bs l),.bool (au (dN S)),.string (bs (nt (dN S).natAbs)),.int .i64 (dE S)] rfl rfl (fZ Hc.out) zy zx zo zo ?_;intro v8 w8 dF bj _;have nb:∀b,b<wd.heap.size->some b≠(Value.slice av k cv).ownBlock:=λb hb e=>by have:=cL dR b e.symm;omega
      refine hK _ _ (λ_=>⟨bO bj x0 (nb _ zo),bO bj x1 (nb _ zo),bO bj x2 (nb _ zo),bO bj x3 (nb _ zo),bO bj t0 (nb _ zp),bO bj t1 (nb _ zp),bO bj t2 (nb _ zp),bO bj t3 (nb _ zp)⟩) ?_;clear hK K;try simp only[UU]
      have gg:=(aK vd.out Hb.out).grown bj zo (λj e=>cL dR j e);obtain⟨fY,gP⟩:=aM gg dF;have FT:=bj.size;refine pT rfl rfl ?_;try simp only[UU]
      simp only[aU];clear nb dR dF bj gg x0 x1 x2 x3 t0 t1 t2 t3 c0 c1 c2 c3;go_wp2_with (at_builtin;refine ry rfl _ _ 55 rfl wd.heap.size 107 i0 _ 4 48 Tryz.underlying55 Hi.out cM.out cN.out cJ.out rfl zd v8 (k+1) _ rfl gP.out _ (n-(k+1)) (cap-(k+1)) ((ts.drop (k+1)).flatMap aN) rfl jc.out vk.out (rE.out.below fY.out) (rp _) zx zo zo ?_;intro v9 w9 gF qC Me);all_goals
       go_ret
       refine⟨v9,rfl,?_,(aK ju.out fY.out).grown qC zo (λj e=>by have:=cL gP.out j e;omega)⟩
       rw[nK.out]
       have e9:((ts.take k++[(l,canon S)]++ts.drop (k+1)).flatMap aN)=(ts.take k).flatMap aN++[.string (bs l),.bool (au (dN S)),.string (bs (nt (dN S).natAbs)),.int .i64 (dE S)]++(ts.drop (k+1)).flatMap aN:=by rw[List.flatMap_append,List.flatMap_append];rfl
       have l9:(ts.take k++[(l,canon S)]++ts.drop (k+1)).length=k+1+(n-(k+1)):=by simp[Hn.out];omega
       rw[e9,l9]
       exact oF gF zo
    . obtain rfl:n=k:=by omega
      cases a with
      | none=>
        have hc0:=Hs.out.2 rfl;obtain rfl:n=0:=by omega
        subst hc0;obtain⟨x0,x1,x2,x3⟩:=Hx.out.c4;have qF:decide (((0:Nat):Int)<((0:Nat):Int))=false:=by simp
        go_wp2_with fail;refine bD (λw'=>w'.cell? ⟨w.heap.size,0,none⟩=some (.string (bs l))) (λi=>Nat.blt i 100000) [(0,true),(1,true),(2,true),(3,true),(4,true),(5,true),(6,true),(7,true),(8,true),(9,true),(10,true),(11,true),(12,true),(13,true)] zk zk rfl zk zc x0 ?_;iterate 5 (refine pT rfl rfl ?_;try simp only[UU])
        refine bi rfl rfl ?_;try simp only[UU]
        refine bi rfl rfl ?_;try simp only[UU]
        refine bi rfl rfl ?_;try simp only[UU]
        refine bi rfl rfl ?_;try simp only[UU]
        refine bi rfl rfl ?_;try simp only[UU]
        refine bi rfl rfl ?_;try simp only[UU]
        refine bi rfl rfl ?_;try simp only[UU]
        refine bi rfl rfl ?_;try simp only[UU]
        refine pT rfl rfl ?_;try simp only[UU]
        simp only[aU];generalize pz:wr.drew=wd;have uo:ai wd w.heap.size 107 [.string (bs l),.bool s,.string (bs m),.int .i64 e]:=by rw[<-pz];exact Hx.out
        have jS:Bw w wd:=by rw[<-pz];exact Hb.out.drew
        have hpre:((ts.take 0).flatMap aN).length=0*4:=by rw[kM,List.length_take,Nat.min_eq_left (by have:=Hn.out;omega)]
        have tW:=Ha.out.below jS;have tV:=tW.aoh 0;have hsk:Sl none 0 0:=Hs.out;obtain⟨tH,ju,Aa,AC⟩:=dO uo jS tV hpre;have Xo:=jS.size;have VF:=tH.out.lt;clear uo jS tV hpre tW pz x0 x1 x2 x3 Hx Hb;go_wp2_with (at_builtin;refine ry rfl _ _ 55 rfl wd.heap.size 107 i0 _ 4 48 Tryz.underlying55 Hi.out cM.out cN.out cJ.out rfl zd _ 0 [] rfl (World.ownsRow_made wd #[] 0 (Nat.le_refl _) (Nat.zero_le _) zm) none 0 0 ((ts.take 0).flatMap aN) rfl hsk AC.out (Aa.out.below ((Below.refl _ wd).alloc (Nat.le_refl _) _)) (rp _) (by simp[maxLen]) zo zm ?_;intro v1 w1 cP hg1 wz);have hb1:=((Below.refl _ wd).alloc (Nat.le_refl _) _).grown hg1 zm (λk hk=>by have h9:wd.heap.size=k:=Option.some.inj hk;omega);rw[Nat.zero_add,List.nil_append]at cP;obtain⟨av,cv,rfl,_,_⟩:=dK cP;obtain⟨Hx,Hb,nH,bL⟩:=dO (tH.out.below hb1) (aK ju.out hb1) cP hb1;have hsz1:=hb1.size;clear cP hb1 hg1 wz;obtain⟨x0,x1,x2,x3⟩:=Hx.out.c4;go_wp2_with fail;refine bD (λw'=>w'.cell? ⟨w.heap.size,0,none⟩=some (.string (bs l))) (λi=>Nat.blt i 100000) [(0,true),(1,true),(2,true),(3,true),(4,true),(5,true),(6,true),(7,true),(8,true),(9,true),(10,true),(11,true),(12,true),(13,true)] zk zk rfl zk zc x0 ?_;iterate 5 (refine pT rfl rfl ?_;try simp only[UU])
        refine bi rfl rfl ?_;try simp only[UU]
        refine bi rfl rfl ?_;try simp only[UU]
        refine bi rfl rfl ?_;try simp only[UU]
        refine bi rfl rfl ?_;try simp only[UU]
        refine bi rfl rfl ?_;try simp only[UU]
        refine bi rfl rfl ?_;try simp only[UU]
        refine bi rfl rfl ?_;try simp only[UU]
        refine bi rfl rfl ?_;try simp only[UU]
        refine pT rfl rfl ?_;try simp only[UU]
        simp only[aU];have jK:=bL.out.drew;generalize gv:w1.drew=w2;have hx2:ai w2 w.heap.size 107 [.string (bs l),.bool s,.string (bs m),.int .i64 e]:=by rw[<-gv];exact Hx.out
        have hv2:w2.ownsRow wd.heap.size 107 4 (.slice av 0 cv) 0 ((ts.take 0).flatMap aN):=by rw[<-gv];exact nH.out
        have cp:=ah hv2;replace Hx:=ah hx2;replace Hb:Hid (Bw w2 w2):=Below.refl _ _;have vd:Hid (Bw wd w2):=by rw[<-gv];exact jK
        have pE:=Ha.out.below ju.out;have hz2:wd.heap.size<=w2.heap.size:=by rw[<-gv];exact hsz1
        obtain⟨S,hS⟩:=aC (aB (s,m,e));have hps:=Nr ts (l,s,m,e) 0 Dz.out (λh=>absurd h (by have:=Hn.out;omega));rw[show aB ((l,s,m,e):aL).2=S from hS]at hps;have pF:((ts.drop 0).flatMap aN).length=(0-0) *4:=by rw[kM,List.length_drop,Hn.out]
        have hdr:=pE.aoc (n:=0) (cap:=0) 0 Hn.out zo FP;have hsc:=Hs.out.cut (k:=0) (size:=4) zo;obtain⟨nK,HS,vk,rE,jc⟩:=fp hps hS pF hdr hsc;have hk1:0<=0:=by omega
        have LK:0<=0:=by omega
        clear hps hS hx2 hv2 pE pF hdr hsc gv jK x0 x1 x2 x3;obtain⟨x0,x1,x2,x3⟩:=Hx.out.c4;go_wp2_with fail;refine bD (λw'=>w'.cell? ⟨w.heap.size,0,none⟩=some (.string (bs l))/\w'.cell? ⟨w.heap.size,1,none⟩=some (.bool s)/\w'.cell? ⟨w.heap.size,2,none⟩=some (.string (bs m))/\w'.cell? ⟨w.heap.size,3,none⟩=some (.int .i64 e)) (λi=>Nat.blt i 100000) [(0,true),(1,true),(2,true),(3,true),(4,true),(5,false),(6,true),(7,false),(8,false),(9,true)] zk zk rfl zk zc ⟨x0,x1,x2,x3⟩ ?_;iterate 5 (refine pT rfl rfl ?_ (by intro w' ⟨q0,q1,q2,q3⟩;go_simp;try with_reducible rfl);try simp only[UU])
        refine aJ rfl rfl (λK hK=>?_);go_simp;with_reducible refine(xq s m e S HS.out _ gZ.out).mono ?_
        rintro e w4 ⟨rfl,hq⟩;have ae:Bw w2 w4:=by first|exact hq|exact aO hq
        clear x0 x1 x2 x3;replace Hx:=kB Hx ae;obtain⟨x0,x1,x2,x3⟩:=Hx.out.c4;replace Hb:=az Hb ae;clear ae;refine hK _ _ (λ_=>⟨x0,x1,x2,x3⟩) ?_;clear hK K;try simp only[UU]
        refine pT rfl rfl ?_;try simp only[UU]
        refine aJ rfl rfl (λK hK=>?_);go_simp;refine hK _ _ (λ_=>⟨aI x0,aI x1,aI x2,aI x3⟩) ?_;clear hK K;try simp only[UU]
        refine bE (λW5=>ai W5 (w4.heap.size) 107 [.string (bs l),.bool (au (dN S)),.string (bs (nt (dN S).natAbs)),.int .i64 (dE S)]/\Bw w4 W5) (by first|exact dW|exact dX) ?_;rintro W5 ⟨qc,ae⟩;clear x0 x1 x2 x3;have yR:=Hx.out.lt;replace Hx:=kB Hx ae;have Hc:=ah qc;clear qc;obtain⟨x0,x1,x2,x3⟩:=Hx.out.c4;obtain⟨c0,c1,c2,c3⟩:=Hc.out.c4;replace Hb:=az Hb ae;clear ae;refine aJ rfl rfl (λK hK=>?_);have dR:=ownsRow_below cp.out Hb.out;have hs3:=Hb.out.size;refine wp_append_own _ _ _ 55 rfl wd.heap.size 107 i0 _ 4 48 Tryz.underlying55 Hi.out cM.out cN.out cJ.out rfl zd (.slice av 0 cv) 0 ((ts.take 0).flatMap aN) rfl dR ⟨w4.heap.size,0,none⟩ 1 1 [.string (bs l),.bool (au (dN S)),.string (bs (nt (dN S).natAbs)),.int .i64 (dE S)] rfl rfl (fZ Hc.out) zy (by simp[maxLen]) zo zo ?_;intro v8 w8 dF bj _;have nb:∀b,b<wd.heap.size->some b≠(Value.slice av 0 cv).ownBlock:=λb hb e=>by have:=cL dR b e.symm;omega
        refine hK _ _ (λ_=>⟨bO bj x0 (nb _ zo),bO bj x1 (nb _ zo),bO bj x2 (nb _ zo),bO bj x3 (nb _ zo)⟩) ?_;clear hK K;try simp only[UU]
        have gg:=(aK vd.out Hb.out).grown bj zo (λj e=>cL dR j e);obtain⟨fY,gP⟩:=aM gg dF;have FT:=bj.size;refine pT rfl rfl ?_;try simp only[UU]
        simp only[aU];clear nb dR dF bj gg x0 x1 x2 x3 c0 c1 c2 c3;go_wp2_with (at_builtin;refine ry rfl _ _ 55 rfl wd.heap.size 107 i0 _ 4 48 Tryz.underlying55 Hi.out cM.out cN.out cJ.out rfl zd v8 (0+1) _ rfl gP.out none 0 0 ((ts.drop 0).flatMap aN) rfl jc.out vk.out (rE.out.below fY.out) (rp _) (by simp[maxLen]) zo zo ?_;intro v9 w9 gF qC Me);all_goals
         go_ret
         refine⟨v9,rfl,?_,(aK ju.out fY.out).grown qC zo (λj e=>by have:=cL gP.out j e;omega)⟩
         rw[nK.out]
         have e9:((ts.take 0++[(l,canon S)]++ts.drop 0).flatMap aN)=(ts.take 0).flatMap aN++[.string (bs l),.bool (au (dN S)),.string (bs (nt (dN S).natAbs)),.int .i64 (dE S)]++(ts.drop 0).flatMap aN:=by rw[List.flatMap_append,List.flatMap_append];rfl
         have l9:(ts.take 0++[(l,canon S)]++ts.drop 0).length=0+1+0:=by simp[Hn.out]
         rw[e9,l9]
         exact oF gF zo
      | some ad=>
        obtain⟨x0,x1,x2,x3⟩:=Hx.out.c4;have qF:decide ((n:Int)<(n:Int))=false:=by simp
        go_wp2_with fail;refine bD (λw'=>w'.cell? ⟨w.heap.size,0,none⟩=some (.string (bs l))) (λi=>Nat.blt i 100000) [(0,true),(1,true),(2,true),(3,true),(4,true),(5,true),(6,true),(7,true),(8,true),(9,true),(10,true),(11,true),(12,true),(13,true)] zk zk rfl zk zc x0 ?_;iterate 5 (refine pT rfl rfl ?_;try simp only[UU])
        refine bi rfl rfl ?_;try simp only[UU]
        refine bi rfl rfl ?_;try simp only[UU]
        refine bi rfl rfl ?_;try simp only[UU]
        refine bi rfl rfl ?_;try simp only[UU]
        refine bi rfl rfl ?_;try simp only[UU]
        refine bi rfl rfl ?_;try simp only[UU]
        refine bi rfl rfl ?_;try simp only[UU]
        refine bi rfl rfl ?_;try simp only[UU]
        refine pT rfl rfl ?_;try simp only[UU]
        simp only[aU];generalize pz:wr.drew=wd;have uo:ai wd w.heap.size 107 [.string (bs l),.bool s,.string (bs m),.int .i64 e]:=by rw[<-pz];exact Hx.out
        have jS:Bw w wd:=by rw[<-pz];exact Hb.out.drew
        have hpre:((ts.take n).flatMap aN).length=n*4:=by rw[kM,List.length_take,Nat.min_eq_left (by have:=Hn.out;omega)]
        have tW:=Ha.out.below jS;have tV:=tW.aoh n;have hsk:Sl (some ad) n cap:=Hs.out;obtain⟨tH,ju,Aa,AC⟩:=dO uo jS tV hpre;have Xo:=jS.size;have VF:=tH.out.lt;clear uo jS tV hpre tW pz x0 x1 x2 x3 Hx Hb;go_wp2_with (at_builtin;refine ry rfl _ _ 55 rfl wd.heap.size 107 i0 _ 4 48 Tryz.underlying55 Hi.out cM.out cN.out cJ.out rfl zd _ 0 [] rfl (World.ownsRow_made wd #[] 0 (Nat.le_refl _) (Nat.zero_le _) zm) (some ad) n cap ((ts.take n).flatMap aN) rfl hsk AC.out (Aa.out.below ((Below.refl _ wd).alloc (Nat.le_refl _) _)) (rp _) zx zo zm ?_;intro v1 w1 cP hg1 wz);have hb1:=((Below.refl _ wd).alloc (Nat.le_refl _) _).grown hg1 zm (λk hk=>by have h9:wd.heap.size=k:=Option.some.inj hk;omega);rw[Nat.zero_add,List.nil_append]at cP;obtain⟨av,cv,rfl,_,_⟩:=dK cP;obtain⟨Hx,Hb,nH,bL⟩:=dO (tH.out.below hb1) (aK ju.out hb1) cP hb1;have hsz1:=hb1.size;clear cP hb1 hg1 wz;obtain⟨x0,x1,x2,x3⟩:=Hx.out.c4;go_wp2_with fail;refine bD (λw'=>w'.cell? ⟨w.heap.size,0,none⟩=some (.string (bs l))) (λi=>Nat.blt i 100000) [(0,true),(1,true),(2,true),(3,true),(4,true),(5,true),(6,true),(7,true),(8,true),(9,true),(10,true),(11,true),(12,true),(13,true)] zk zk rfl zk zc x0 ?_;iterate 5 (refine pT rfl rfl ?_;try simp only[UU])
        refine bi rfl rfl ?_;try simp only[UU]
        refine bi rfl rfl ?_;try simp only[UU]
        refine bi rfl rfl ?_;try simp only[UU]
        refine bi rfl rfl ?_;try simp only[UU]
        refine bi rfl rfl ?_;try simp only[UU]
        refine bi rfl rfl ?_;try simp only[UU]
        refine bi rfl rfl ?_;try simp only[UU]
        refine bi rfl rfl ?_;try simp only[UU]
        refine pT rfl rfl ?_;try simp only[UU]
        simp only[aU];have jK:=bL.out.drew;generalize gv:w1.drew=w2;have hx2:ai w2 w.heap.size 107 [.string (bs l),.bool s,.string (bs m),.int .i64 e]:=by rw[<-gv];exact Hx.out
        have hv2:w2.ownsRow wd.heap.size 107 4 (.slice av n cv) n ((ts.take n).flatMap aN):=by rw[<-gv];exact nH.out
        have cp:=ah hv2;replace Hx:=ah hx2;replace Hb:Hid (Bw w2 w2):=Below.refl _ _;have vd:Hid (Bw wd w2):=by rw[<-gv];exact jK
        have pE:=Ha.out.below ju.out;have hz2:wd.heap.size<=w2.heap.size:=by rw[<-gv];exact hsz1
        obtain⟨S,hS⟩:=aC (aB (s,m,e));have hps:=Nr ts (l,s,m,e) n Dz.out (λh=>absurd h (by have:=Hn.out;omega));rw[show aB ((l,s,m,e):aL).2=S from hS]at hps;have pF:((ts.drop n).flatMap aN).length=0*4:=by rw[kM,List.length_drop,Hn.out,Nat.sub_self]
        have hdr:=pE.aoc (n:=n) (cap:=cap) n Hn.out zo FP;have hsc:=Hs.out.cut (k:=n) (size:=4) zo;rw[Nat.sub_self]at hsc;obtain⟨nK,HS,vk,rE,jc⟩:=fp hps hS pF hdr hsc;have hk1:n<=n:=by omega
        have LK:n<=cap:=by omega
        clear hps hS hx2 hv2 pE pF hdr hsc gv jK x0 x1 x2 x3;obtain⟨x0,x1,x2,x3⟩:=Hx.out.c4;go_wp2_with fail;refine bD (λw'=>w'.cell? ⟨w.heap.size,0,none⟩=some (.string (bs l))/\w'.cell? ⟨w.heap.size,1,none⟩=some (.bool s)/\w'.cell? ⟨w.heap.size,2,none⟩=some (.string (bs m))/\w'.cell? ⟨w.heap.size,3,none⟩=some (.int .i64 e)) (λi=>Nat.blt i 100000) [(0,true),(1,true),(2,true),(3,true),(4,true),(5,false),(6,true),(7,false),(8,false),(9,true)] zk zk rfl zk zc ⟨x0,x1,x2,x3⟩ ?_;iterate 5 (refine pT rfl rfl ?_ (by intro w' ⟨q0,q1,q2,q3⟩;go_simp;try with_reducible rfl);try simp only[UU])
        refine aJ rfl rfl (λK hK=>?_);go_simp;with_reducible refine(xq s m e S HS.out _ gZ.out).mono ?_
        rintro e w4 ⟨rfl,hq⟩;have ae:Bw w2 w4:=by first|exact hq|exact aO hq
        clear x0 x1 x2 x3;replace Hx:=kB Hx ae;obtain⟨x0,x1,x2,x3⟩:=Hx.out.c4;replace Hb:=az Hb ae;clear ae;refine hK _ _ (λ_=>⟨x0,x1,x2,x3⟩) ?_;clear hK K;try simp only[UU]
        refine pT rfl rfl ?_;try simp only[UU]
        refine aJ rfl rfl (λK hK=>?_);go_simp;refine hK _ _ (λ_=>⟨aI x0,aI x1,aI x2,aI x3⟩) ?_;clear hK K;try simp only[UU]
        refine bE (λW5=>ai W5 (w4.heap.size) 107 [.string (bs l),.bool (au (dN S)),.string (bs (nt (dN S).natAbs)),.int .i64 (dE S)]/\Bw w4 W5) (by first|exact dW|exact dX) ?_;rintro W5 ⟨qc,ae⟩;clear x0 x1 x2 x3;have yR:=Hx.out.lt;replace Hx:=kB Hx ae;have Hc:=ah qc;clear qc;obtain⟨x0,x1,x2,x3⟩:=Hx.out.c4;obtain⟨c0,c1,c2,c3⟩:=Hc.out.c4;replace Hb:=az Hb ae;clear ae;refine aJ rfl rfl (λK hK=>?_);have dR:=ownsRow_below cp.out Hb.out;have hs3:=Hb.out.size;refine wp_append_own _ _ _ 55 rfl wd.heap.size 107 i0 _ 4 48 Tryz.underlying55 Hi.out cM.out cN.out cJ.out rfl zd (.slice av n cv) n ((ts.take n).flatMap aN) rfl dR ⟨w4.heap.size,0,none⟩ 1 1 [.string (bs l),.bool (au (dN S)),.string (bs (nt (dN S).natAbs)),.int .i64 (dE S)] rfl rfl (fZ Hc.out) zy zx zo zo ?_;intro v8 w8 dF bj _;have nb:∀b,b<wd.heap.size->some b≠(Value.slice av n cv).ownBlock:=λb hb e=>by have:=cL dR b e.symm;omega
        refine hK _ _ (λ_=>⟨bO bj x0 (nb _ zo),bO bj x1 (nb _ zo),bO bj x2 (nb _ zo),bO bj x3 (nb _ zo)⟩) ?_;clear hK K;try simp only[UU]
        have gg:=(aK vd.out Hb.out).grown bj zo (λj e=>cL dR j e);obtain⟨fY,gP⟩:=aM gg dF;have FT:=bj.size;refine pT rfl rfl ?_;try simp only[UU]
        simp only[aU];clear nb dR dF bj gg x0 x1 x2 x3 c0 c1 c2 c3;go_wp2_with (at_builtin;refine ry rfl _ _ 55 rfl wd.heap.size 107 i0 _ 4 48 Tryz.underlying55 Hi.out cM.out cN.out cJ.out rfl zd v8 (n+1) _ rfl gP.out _ 0 (cap-n) ((ts.drop n).flatMap aN) rfl jc.out vk.out (rE.out.below fY.out) (rp _) zx zo zo ?_;intro v9 w9 gF qC Me);all_goals
         go_ret
         refine⟨v9,rfl,?_,(aK ju.out fY.out).grown qC zo (λj e=>by have:=cL gP.out j e;omega)⟩
         rw[nK.out]
         have e9:((ts.take n++[(l,canon S)]++ts.drop n).flatMap aN)=(ts.take n).flatMap aN++[.string (bs l),.bool (au (dN S)),.string (bs (nt (dN S).natAbs)),.int .i64 (dE S)]++(ts.drop n).flatMap aN:=by rw[List.flatMap_append,List.flatMap_append];rfl
         have l9:(ts.take n++[(l,canon S)]++ts.drop n).length=n+1+0:=by simp[Hn.out]
         rw[e9,l9]
         exact oF gF zo
theorem aiy {C:Nat}(l:List aL)(x:aL)(h:∀t∈l,Sm C (aB t.2))(hx:Sm C (aB x.2)):∀t∈fV l x,Sm (C+1) (aB t.2):=by
 have hc:∀X:Dyadic,Sm (C+1) X->Sm (C+1) (aB (canon X)):=λX h=>by rw[bP];exact h
 induction l with
 |nil=>intro t ht;simp only[fV,List.mem_singleton]at ht;rw[ht];exact hc _ (hx.mono zo)
 | cons y l ih=>
   intro t ht;unfold fV at ht;split at ht
   . rcases List.mem_cons.1 ht with rfl|ht
     . exact(h _ zm).mono zo
     . exact ih (λt ht=>h t (by simp[ht])) t ht
   . split at ht
     . rcases List.mem_cons.1 ht with rfl|ht
       . exact hc _ ((h y zm).add hx)
       . exact(h t (by simp[ht])).mono zo
     . rcases List.mem_cons.1 ht with rfl|ht
       . exact hc _ (hx.mono zo)
       . exact(h t ht).mono zo
theorem aiC {B:Nat}(l:List aL)(h:∀t∈l,Sm B (aB t.2)):∀t∈gB l,Sm (B+l.length) (aB t.2):=by refine Dl (Q:=λl=>(∀t∈l,Sm B (aB t.2))->∀t∈gB l,Sm (B+l.length) (aB t.2)) (λ_ t ht=>by cases ht) (λl x ih h=>?_) l h;rw[zq];have h1:=ih (λt ht=>h t (by simp[ht]));have:=aiy (C:=B+l.length) (gB l) x h1 ((h x zm).mono zo);intro t ht;have h9:=this t ht;rw[List.length_append];exact h9
theorem aiA {B:Nat}(l:List aL)(h:∀t∈l,Sm B (aB t.2))(hB:B+l.length<=16384):∀t∈gB l,dw t.2:=λt ht=>by have h1:=aiC l h t ht;rw[WB l t ht];exact h1.an7 hB
theorem adU (L:List aL)(k:Nat)(hk:k<L.length):(L.take (k+1)).filter gp=(L.take k).filter gp++if gp L[k]then[L[k]]else[]:=by rw[List.take_succ_eq_append_getElem hk,List.filter_append];congr 1;by_cases h:gp L[k]=true<;>simp[h]
theorem WM (V:Nat)(a:Option Addr)(n cap:Nat)(ts:List aL)(B:Nat)(w:World)(hn:ts.length=n)(hl:n<=4096)(ha:At w a (ts.flatMap aN))(hf:∀t∈ts,dw t.2)(hs:∀t∈ts,Sm B (aB t.2))(hB:B+n<=16384):
 Calls Tryz.prog 81 #[.int .i64 (V:Int),.slice a n cap] w λex w'=>∃a' c',ex=.returned (.tuple #[.agg #[.int .i64 (V:Int),.slice a' (bH ts).length c'],.int .i64 0])/\cu w' a' c' (bH ts)/\Bw w w':=by
 obtain⟨i0,hi,hz0,hz1,hz2⟩:=info_parts Tryz.aob;have gG:=λk=>aiA (ts.take k) (λt ht=>hs t (List.mem_of_mem_take ht)) (by rw[List.length_take];omega);have hpl:=λk=>aiB (ts.take k);have mQ:=aeh ts;obtain⟨C,hC⟩:=aC (bH ts);have hcl:=yg ts;rw[hC]at mQ hcl⊢;obtain⟨Hi,cM,cN,cJ,nJ,oM,Zc,Ha,Hf,Hn⟩:=wT hi hz0 hz1 hz2 gG hpl mQ ha hf hn;have hC4:C.length<=4096:=by omega
 clear hi hz0 hz1 hz2 gG hpl mQ ha hf hs hC hn hcl;obtain⟨W,cO,Hb,Hr⟩:=iF w 57 [.int .i64 0,.slice none 0 0];obtain⟨r0,aj,r1,ar⟩:=Hr.out.g2;go_enter Tryz.func81,Tryz.ntmps81;go_wp2_with fail;have hrl:=Hr.out.lt;go_loopw[6,7] (λs6 x wr=>∃(k:Nat) (v:Value),k<=n/\x=.int .i64 (k:Int)/\v=s6/\wr.ownsRow W.heap.size 107 4 v (gB (ts.take k)).length ((gB (ts.take k)).flatMap aN)/\Bw W wr) (λ_ x _=>n-(intOf x).toNat);case atStart=>exact⟨0,_,Nat.zero_le _,rfl,rfl,World.ownsRow_nil _ _ _ _,Below.refl _ _⟩
 case round=>
  clear r0 aj r1 ar;obtain⟨k,v,hk,rfl,rfl,ho,pb⟩:=hrel;by_cases hlt:k<n
  . have hk2:k<ts.length:=by rw[Hn.out];exact hlt
    obtain⟨l,s,m,e,hx⟩:∃l s m e,ts[k]=(l,s,m,e):=⟨_,_,_,_,rfl⟩;obtain⟨b,o,rfl,cw⟩:=(Ha.out.below (aK Hb.out pb)).term k hk2 hx;have bA:=jl n cap k (k:Int) (rfl:(some ⟨b,o,none⟩:Option Addr)=_) hlt rfl;obtain⟨av,cv,rfl,tX,_⟩:=dK ho;have Cy:=uI ho;have hnx:gB (ts.take (k+1))=fV (gB (ts.take k)) (l,s,m,e):=by rw[List.take_succ_eq_append_getElem hk2,zq,hx]
    have hp1:(gB (ts.take k)).length<=65536:=by have:=oM.out k;rw[List.length_take]at this;omega
    have eF:dw (s,m,e):=by have:=Hf.out _ (List.getElem_mem hk2);rw[hx]at this;exact this
    have hput:=λ(W':World) (hW:Bw wr W')=>ajb av _ cv (gB (ts.take k)) l s m e W' rfl hp1 Cy (tX.below hW) (nJ.out k) eF;rw[<-hnx]at hput;obtain⟨np,Mb⟩:=aC ((gB (ts.take k)).length);rw[Mb]at hput;rw[Mb];obtain⟨aad,aR⟩:=aM hput pb;have Ht:Hid (aZ wr b (o+k*4) [.string (bs l),.bool s,.string (bs m),.int .i64 e]):=cw;have iu:=pb.size;clear hput pb Mb hnx hp1 eF Cy tX ho cw hx;have bV:Hid (Bw wr wr):=Below.refl _ _;obtain⟨t0,t1,t2,t3⟩:=Ht.out.w4;go_wp2_with fail;refine(aad.out _ (Below.refl _ _)).mono ?_;rintro ex w2 ⟨v2,rfl,eo,hb2⟩;obtain⟨rM,fe⟩:=aM (oF eo iu) (aK aR.out hb2);clear eo hb2;go_wp2;go_roundw;case rel=>exact⟨k+1,v2,by omega,by go_num,rfl,rM.out,fe.out⟩
    case measure=>simp[intOf];omega
  . obtain rfl:k=n:=by omega
    have htk:ts.take k=ts:=List.take_of_length_le (by rw[Hn.out];exact Nat.le_refl _);have gG:=nJ.out k;have hpl:=oM.out k;rw[htk]at ho gG hpl;obtain⟨L,hL⟩:=aC (gB ts);have mQ:=Zc.out;rw[hL]at ho gG hpl mQ;have hLn:L.length<=4096:=by rw[Hn.out]at hpl;omega
    obtain⟨N,hN⟩:=aC L.length;rw[hN]at ho hLn;obtain⟨av,cv,rfl,tX,_⟩:=dK ho;obtain⟨wg,UR⟩:∃wg,wg=wr:=⟨_,rfl⟩;subst UR;obtain⟨YA,aR,aab,HN,Zd⟩:=fp tX pb gG hN mQ;have szg:=pb.size;clear tX ho pb gG hpl mQ hN hL htk;go_wp2_with fail;go_loopw[8,9] (λs8 x wr=>∃(j:Nat) (v:Value),j<=N/\x=.int .i64 (j:Int)/\v=s8/\wr.ownsRow wg.heap.size 107 4 v ((L.take j).filter gp).length (((L.take j).filter gp).flatMap aN)/\Bw wg wr) (λ_ x _=>N-(intOf x).toNat);case atStart=>exact⟨0,_,Nat.zero_le _,rfl,rfl,World.ownsRow_nil _ _ _ _,Below.refl _ _⟩
    case round=>
     obtain⟨j,v,hj,rfl,rfl,ho,qb⟩:=hrel;by_cases bo:j<N
     . have jT:j<L.length:=by rw[HN.out];exact bo
       obtain⟨l,s,m,e,hx⟩:∃l s m e,L[j]=(l,s,m,e):=⟨_,_,_,_,rfl⟩;obtain⟨b,o,rfl,cw⟩:=(YA.out.below qb).term j jT hx;have bA:=jl N cv j (j:Int) (rfl:(some ⟨b,o,none⟩:Option Addr)=_) bo rfl;have hft:=adU L j jT;obtain⟨g,hg⟩:=aC (bW (aB (s,m,e)));have eF:dw (s,m,e):=by have:=aab.out _ (List.getElem_mem jT);rw[hx]at this;exact this
       have ie:=λW=>Dj s m e g hg W (by have:=eF.1;simp only at this;omega);have hnz:gp L[j]= !(g==0):=by rw[hx];unfold gp;rw[show aB ((l,s,m,e):aL).2=aB (s,m,e)from rfl,hg]
       rw[hnz,hx]at hft;have hfl:((L.take j).filter gp).length<=N:=by have:=List.length_filter_le gp (L.take j);rw[List.length_take]at this;omega
       have Ht:Hid (aZ wr b (o+j*4) [.string (bs l),.bool s,.string (bs m),.int .i64 e]):=cw;obtain⟨kr,iK,cp⟩:=cH ie qb ho;have iu:=qb.size;obtain⟨F,hF⟩:=aC ((L.take j).filter gp);rw[hF]at cp hft hfl;have DV:=ah hft;clear ie qb ho cw hx hg eF hnz hft hF;have Hb:Hid (Bw wr wr):=Below.refl _ _;obtain⟨t0,t1,t2,t3⟩:=Ht.out.w4;go_wp2_with fail;refine(kr.out _).mono ?_;rintro e w3 ⟨rfl,ae⟩;clear t0 t1 t2 t3;replace Ht:=kW Ht ae;obtain⟨t0,t1,t2,t3⟩:=Ht.out.w4;replace Hb:=az Hb ae;clear ae;by_cases hg0:g=0
       . subst hg0;have hz:(((0:Int)) !=0)=false:=by decide
         have hft:=DV.out;simp only[beq_self_eq_true,Bool.not_true,Bool.false_eq_true,if_false,List.append_nil]at hft;have IV:=ah hft;clear hft DV;obtain⟨Hq3,ZM⟩:=aM (aK iK.out Hb.out) (ownsRow_below cp.out Hb.out);go_wp2;go_roundw;case rel=>exact⟨j+1,v,by omega,by go_num,rfl,by rw[IV.out];exact ZM.out,Hq3.out⟩
         case measure=>simp[intOf];omega
       . have hz:(g !=0)=true:=by simpa using hg0
         have hz2:(g==0)=false:=by simpa using hg0
         have hft:=DV.out;rw[hz2]at hft;simp only[Bool.not_false,if_true]at hft;have IV:=ah hft;clear hft DV;go_upto_region 11 with fail
         have P0:=t0;have P1:=t1;have P2:=t2;have P3:=t3;obtain⟨W5,BP,ae,Hc⟩:=cQ w3 107 [.string (bs l),.bool s,.string (bs m),.int .i64 e];clear t0 t1 t2 t3;replace Ht:=kW Ht ae;obtain⟨t0,t1,t2,t3⟩:=Ht.out.w4;obtain⟨c0,c1,c2,c3⟩:=Hc.out.c4;replace Hb:=az Hb ae;clear ae;have wK:=ownsRow_below cp.out Hb.out;have hs5:=Hb.out.size;go_wp2_with (at_builtin;refine wpList_append_own_at _ rfl _ _ 55 rfl wg.heap.size 107 i0 _ 4 48 Tryz.underlying55 Hi.out cM.out cN.out cJ.out rfl zd v F.length (F.flatMap aN) rfl wK ⟨w3.heap.size,0,none⟩ 1 1 [.string (bs l),.bool s,.string (bs m),.int .i64 e] rfl rfl (fZ Hc.out) zy zx zo zo ?_;intro v' w7 dD eU _ fJ);have iU:=(aK iK.out Hb.out).grown eU zo (λj e=>cL wK j e);have e7:F.flatMap aN++[.string (bs l),.bool s,.string (bs m),.int .i64 e]=(F++[(l,s,m,e)]).flatMap aN:=by rw[List.flatMap_append];rfl
         rw[e7]at dD;obtain⟨Az,Ab⟩:=aM dD iU;clear dD iU e7 fJ eU wK P0 P1 P2 P3 t0 t1 t2 t3 c0 c1 c2 c3;go_wp2;go_roundw;case rel=>exact⟨j+1,v',by omega,by go_num,rfl,by rw[IV.out,List.length_append];exact Az.out,Ab.out⟩
         case measure=>simp[intOf];omega
     . obtain rfl:j=N:=by omega
       have htk:L.take j=L:=List.take_of_length_le (by rw[HN.out];exact Nat.le_refl _);rw[htk,Zd.out]at ho;obtain⟨a2,c2,rfl,_,_⟩:=dK ho;obtain⟨Ho,ZY⟩:=aM ho (aK (aK Hb.out aR.out) qb);have ji:=aR.out.size;have PZ:=ah (Hr.out.below (aK aR.out qb));have h4:¬(4096:Int)<(C.length:Int):=by omega
       have h4d:decide ((4096:Int)<(C.length:Int))=false:=by simp;omega
       clear ho htk qb;have Hr:=PZ;obtain⟨r0,aj,r1,ar⟩:=Hr.out.g2;go_wp2;refine yb (PZ.out) Ho.out ZY.out zo ?_;intro w9 mV gF ky;obtain⟨p0,p1⟩:=mV.c2;exact bodyPost_ret (v:=.tuple #[.agg #[.int .i64 (V:Int),.slice a2 C.length c2],.int .i64 0]) (by simp[results,Tryz.results81,go_sem,p0,p1]) rfl ⟨_,_,rfl,CQ gF,ky⟩
end Go.Proofs.YtdaadlblknpipaaGreatDoor
