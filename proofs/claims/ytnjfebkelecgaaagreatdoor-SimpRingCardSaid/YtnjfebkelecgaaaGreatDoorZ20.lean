/- Packages ogeeref07,ogeeref08: May;put. -/
import Derived.Test.YtnjfebkelecgaaaGreatDoorZ17
import Derived.Test.YtnjfebkelecgaaaGreatDoorZ12
import Derived.Test.YtnjfebkelecgaaaGreatDoorZ13
set_option linter.unusedVariables false
set_option linter.unusedSimpArgs false
set_option maxRecDepth 100000
set_option maxHeartbeats 16000000
namespace Go.Proofs.YtnjfebkelecgaaaGreatDoor
open Go.RowKit
attribute [local go_sem ↓] Go.wp_at_zero Go.wp_at_succ
theorem Vu (l:List UInt8)(v:Int)(w:World)(hl:l.length<=9223372036854775807):
 Calls Tryz.prog 88 #[ai l,ah v] w λe w'=>e=.returned (ar (eU l v))/\Bw w w':=by
 obtain⟨n,hn⟩:=aK l.length;have hsz:(bs l).size=n:=by rw[jd,hn]
 obtain⟨M,hM⟩:=aK (eU l v);rw[hM];obtain⟨HM,Hn⟩:=aZ hM hn;rw[hn]at hl;clear hM hn;go_enter Tryz.func88,Tryz.ntmps88;have Hb:Hid (Bw w w):=Below.refl _ _;go_wp2_with fail;go_loopw[5] (λx wr=>∃k:Nat,k<=n/\x=ah (k:Int)/\((l.take k).all λc=>decide (c.toNat<=127))=true/\Bw w wr) (λx _=>n-(intOf x).toNat);case atStart=>exact⟨0,Nat.zero_le _,rfl,rfl,Hb.out⟩
 case round=>
  clear Hb;obtain⟨k,hk,rfl,hall,pb⟩:=hrel;obtain⟨ov,Hb⟩:=aZ hall pb;clear hall pb;by_cases hlt:k<n
  . have hk2:k<l.length:=by rw[Hn.out];exact hlt
    have ix:=vD l (k:Int) k hk2 rfl;obtain⟨c,hc⟩:∃c:Nat,(l[k]).toNat=c:=⟨_,rfl⟩;rw[hc]at ix;by_cases h1:128<=c
    . have h2:(128:Int)<=(c:Int):=by omega
      have rC:M=false:=by
       rw[<-HM.out];unfold eU;have:(l.all λc=>decide (c.toNat<=127))=false:=by rw[List.all_eq_false];exact⟨l[k],List.getElem_mem hk2,by simp;omega⟩
       rw[this];rfl
      subst rC;go_wp2;exact bodyPost_ret (v:=ar false) (by simp[results,Tryz.results88,go_sem]) rfl ⟨rfl,di⟩
    . have h2:¬(128:Int)<=(c:Int):=by omega
      have cB:Hid (((l.take (k+1)).all λc=>decide (c.toNat<=127))=true):=by
       show _=_
       rw[List.take_succ_eq_append_getElem hk2,List.all_append,ov.out];simp;omega
      clear hc;go_wp2;go_roundw;case rel=>exact⟨k+1,by omega,by go_num,cB.out,Hb.out⟩
      case measure=>simp[intOf];omega
  . obtain rfl:k=n:=by omega
    have hme:M=decide ((k:Int)=v):=by rw[<-HM.out];have h:=ov.out;rw[List.take_of_length_le (by rw[Hn.out];exact Nat.le_refl _)]at h;unfold eU;rw[h,Hn.out,Bool.true_and]
    have PC:=aj hme;clear hme;go_wp2;refine bodyPost_ret (results_tmp rfl _ _ _) rfl ⟨?_,Hb.out⟩;rw[PC.out];by_cases h:(k:Int)=v<;>simp[h]
theorem alq (m:List UInt8)(l:List aR)(j:Nat)(h:j<jb m l)(hj:j<l.length):Op.bytesLess l[j].1 m=true:=by
 induction l generalizing j with
 |nil=>simp at hj
 | cons x l ih=>
   unfold jb at h;split at h
   . rename_i hx
     cases j with
     |zero=>exact hx
     |succ j=>exact ih j zo (by simpa using hj)
   . omega
theorem alr (m:List UInt8)(l:List aR)(h:jb m l<l.length):Op.bytesLess l[jb m l].1 m=false:=by
 induction l with
 |nil=>simp at h
 | cons x l ih=>
   by_cases hx:Op.bytesLess x.1 m=true
   . have e:jb m (x::l)=jb m l+1:=by show(if _ then _ else _)=_;rw[if_pos hx]
     simp only[e]at h⊢;exact ih (by simpa using h)
   . have e:jb m (x::l)=0:=by show(if _ then _ else _)=_;rw[if_neg hx]
     simp only[e];simpa using hx
theorem atF (l:List aR)(x:aR)(k:Nat)(hk:jb x.1 l=k)(h:k<l.length)(e:l[k].1=x.1):ir l x=l.take k++[(x.1,canon (aM l[k].2+aM x.2))]++l.drop (k+1):=by
 have e1:(l.drop k).head?=some l[k]:=by rw[List.drop_eq_getElem_cons h];rfl
 have e2:(l.drop k).headD default=l[k]:=by rw[List.drop_eq_getElem_cons h];rfl
 rw[afa,hk,e1,e2,if_pos (by rw[Option.map_some,e]),List.append_assoc,List.singleton_append]
theorem Vo (l:List aR)(x:aR)(k:Nat)(hk:jb x.1 l=k)(h:∀h:k<l.length,l[k].1≠x.1):ir l x=l.take k++[(x.1,canon (aM x.2))]++l.drop k:=by
 rw[afa,hk,if_neg,List.append_assoc,List.singleton_append];intro e;by_cases hl:k<l.length
 . rw[List.drop_eq_getElem_cons hl,List.head?_cons,Option.map_some]at e;exact h hl (Option.some.inj e)
 . rw[List.drop_of_length_le zo]at e;cases e
theorem At.aBt {w:World}{a:Option Addr}{ts:List aR}(h:At w a (ts.flatMap aY))(k:Nat):At w a ((ts.take k).flatMap aY):=by
 have e:(ts.take k).flatMap aY++(ts.drop k).flatMap aY=ts.flatMap aY:=by rw[<-List.flatMap_append,List.take_append_drop]
 rcases h with h|⟨b,o,rfl,hc⟩
 . rw[h]at e;exact .inl (List.append_eq_nil_iff.1 e).1
 . by_cases h0:(ts.take k).flatMap aY=[]
   . exact .inl h0
   . refine .inr ⟨b,o,rfl,λj hj=>?_⟩;rw[hc j (by rw[<-e,List.length_append];omega),<-e,List.getElem?_append_left hj]
theorem At.aBo {w:World}{a:Option Addr}{ts:List aR}(h:At w a (ts.flatMap aY)){n cap:Nat}(k:Nat)(hn:ts.length=n)(hk:k<=n)(hc:n<=cap):At w (if cap=k then a else a.map (·.add (k*4))) ((ts.drop k).flatMap aY):=by
 have h1:=At.cut (size:=4) (n:=n) (k:=k) (cap:=cap) h (by rw[nX,hn]) hk hc;have e:(ts.drop k).flatMap aY=(ts.flatMap aY).drop (k*4):=by
  have e0:ts.flatMap aY=(ts.take k).flatMap aY++(ts.drop k).flatMap aY:=by rw[<-List.flatMap_append,List.take_append_drop]
  rw[e0,List.drop_append_of_le_length (by rw[nX,List.length_take];omega)];have e1:((ts.take k).flatMap aY).length=k*4:=by rw[nX,List.length_take,Nat.min_eq_left zo]
  rw[<-e1,List.drop_length,List.nil_append]
 rw[e];exact h1
theorem auD (a:Option Addr)(n cap:Nat)(ts:List aR)(l:List UInt8)(s:Bool)(m:List UInt8)(e:Int)(w:World)(hn:ts.length=n)(hl:n<=65536)(hs:Sl a n cap)(ha:At w a (ts.flatMap aY))(hf:∀t∈ts,gB t.2)(hx:gB (s,m,e)):
 Calls Tryz.prog 120 #[.slice a n cap,.agg #[ai l,ar s,ai m,ah e]] w λex w'=>∃v',ex=.returned v'/\w'.ownsRow w.heap.size 67 4 v' (ir ts (l,s,m,e)).length ((ir ts (l,s,m,e)).flatMap aY)/\Bw w w':=by
 obtain⟨i0,hi,hz0,hz1,hz2⟩:=info_parts Tryz.aBl;obtain⟨A,hA⟩:=aK (jb l ts);have hAn:A<=n:=by rw[<-hA,<-hn];exact alp _ _
 have hgo:∀j (h:j<ts.length),j<A->Op.bytesLess ts[j].1 l=true:=λj h hj=>alq l ts j zo h;have hst:∀(h:A<ts.length),Op.bytesLess ts[A].1 l=false:=λh=>by subst hA;exact alr l ts h
 have MP:=hs.1;obtain⟨Hi,dz,dA,dh,JP,Hgo,cB,Hs,Ha,Hf,fx,Hn⟩:=gy hi hz0 hz1 hz2 hA hgo hst hs ha hf hx hn;clear hi hz0 hz1 hz2 hA hgo hst hs ha hf hx hn;obtain⟨W,dw,Hb,Hx⟩:=jT w 67 [ai l,ar s,ai m,ah e];obtain⟨x0,x1,x2,x3⟩:=Hx.out.c4;go_enter Tryz.func120,Tryz.ntmps120;go_wp2_with fail;go_loopw[5] (λx wr=>∃k:Nat,k<=A/\x=ah (k:Int)/\aC wr w.heap.size 67 [ai l,ar s,ai m,ah e]/\Bw w wr) (λx _=>n-(intOf x).toNat);case atStart=>exact⟨0,Nat.zero_le _,rfl,Hx.out,Hb.out⟩
 case round=>
  clear x0 x1 x2 x3 Hx Hb;obtain⟨k,hk,rfl,px,pb⟩:=hrel;obtain⟨Hx,Hb⟩:=aZ px pb;clear px pb;by_cases hlt:k<A
  . have hkn:k<n:=by omega
    have hk2:k<ts.length:=by rw[Hn.out];exact hkn
    obtain⟨l',s',m',e',hx'⟩:∃l s m e,ts[k]=(l,s,m,e):=⟨_,_,_,_,rfl⟩;obtain⟨b,o,rfl,cw⟩:=(Ha.out.below Hb.out).term k hk2 hx';have bK:=im n cap k (k:Int) (rfl:(some ⟨b,o,none⟩:Option Addr)=_) hkn rfl;have vB:Op.bytesLess (bs l').toList (bs l).toList=true:=by rw[gm,gm];have:=Hgo.out k hk2 hlt;rw[hx']at this;exact this
    have Ht:Hid (bY wr b (o+k*4) [ai l',ar s',ai m',ah e']):=cw;clear cw hx';obtain⟨x0,x1,x2,x3⟩:=Hx.out.c4;obtain⟨t0,t1,t2,t3⟩:=Ht.out.w4;have AW:decide ((k:Int)<(n:Int))=true:=by simp;omega
    go_wp2_with fail;refine cg (λw'=>aH w' (w.heap.size) 0 (ai l)/\aH w' b (o+k*4) (ai l')) (λi=>Nat.blt i 100000) [(0,true),(1,true),(2,true),(3,true),(4,true),(5,true),(6,true),(7,true),(8,true),(9,true),(10,true),(11,true),(12,true),(13,true)] zk zk rfl zk zc ⟨x0,t0⟩ ?_;iterate 14 (refine pT rfl rfl ?_ (by intro w' ⟨q0,q1⟩;go_simp;try with_reducible rfl);try simp only[UU])
    simp only[bD];go_wp2;go_roundw;case rel=>exact⟨k+1,by omega,by go_num,Hx.out,Hb.out.drew⟩
    case measure=>simp[intOf];omega
  . obtain rfl:k=A:=by omega
    have hkc:k<=cap:=by omega
    by_cases hkn:k<n
    . have hk2:k<ts.length:=by rw[Hn.out];exact hkn
      obtain⟨l',s',m',e',hx'⟩:∃l s m e,ts[k]=(l,s,m,e):=⟨_,_,_,_,rfl⟩;obtain⟨b,o,rfl,cw⟩:=(Ha.out.below Hb.out).term k hk2 hx';have bK:=im n cap k (k:Int) (rfl:(some ⟨b,o,none⟩:Option Addr)=_) hkn rfl;have vB:Op.bytesLess (bs l').toList (bs l).toList=false:=by rw[gm,gm];have:=cB.out hk2;rw[hx']at this;exact this
      have lbt:b<w.heap.size:=by obtain⟨b3,o3,h3,hw3⟩:=Ha.out.term k hk2 hx';simp only[Option.some.injEq,Addr.mk.injEq,and_true]at h3;obtain⟨rfl,rfl⟩:=h3;exact World.block_lt_of_cell? w _ (hw3.cell 0 zm)
      have Ht:Hid (bY wr b (o+k*4) [ai l',ar s',ai m',ah e']):=cw;clear cw;obtain⟨x0,x1,x2,x3⟩:=Hx.out.c4;obtain⟨t0,t1,t2,t3⟩:=Ht.out.w4;have AW:decide ((k:Int)<(n:Int))=true:=by simp;omega
      go_wp2_with fail;refine cg (λw'=>aH w' (w.heap.size) 0 (ai l)/\aH w' b (o+k*4) (ai l')) (λi=>Nat.blt i 100000) [(0,true),(1,true),(2,true),(3,true),(4,true),(5,true),(6,true),(7,true),(8,true),(9,true),(10,true),(11,true),(12,true),(13,true)] zk zk rfl zk zc ⟨x0,t0⟩ ?_;iterate 14 (refine pT rfl rfl ?_ (by intro w' ⟨q0,q1⟩;go_simp;try with_reducible rfl);try simp only[UU])
      simp only[bD];generalize tY:wr.drew=wd;have lF:aC wd w.heap.size 67 [ai l,ar s,ai m,ah e]:=by rw[<-tY];exact Hx.out
      have mA:Bw w wd:=by rw[<-tY];exact Hb.out.drew
      have hpre:((ts.take k).flatMap aY).length=k*4:=by rw[nX,List.length_take,Nat.min_eq_left zo]
      have yx:=Ha.out.below mA;have yw:=yx.aBt k;obtain⟨uL,lj,EI,Fg⟩:=eN lF mA yw hpre;have szd:=mA.size;have lxd:=uL.out.lt;clear lF mA yw hpre yx tY x0 x1 x2 x3 t0 t1 t2 t3 Hx Ht Hb;go_wp2_with (at_builtin;refine vN rfl _ _ 22 rfl wd.heap.size 67 i0 _ 4 48 Tryz.underlying22 Hi.out dz.out dA.out dh.out rfl zd _ 0 [] rfl (World.ownsRow_made wd #[] 0 (Nat.le_refl _) (Nat.zero_le _) zm) (some ⟨b,o,none⟩) k cap ((ts.take k).flatMap aY) rfl (Sl.some _ _ _ hkc) Fg.out (EI.out.below ((Below.refl _ wd).alloc (Nat.le_refl _) _)) (vL _) zx zo zm ?_;intro v1 w1 eI hg1 Ih);have hb1:=((Below.refl _ wd).alloc (Nat.le_refl _) _).grown hg1 zm (λk hk=>by have h9:wd.heap.size=k:=Option.some.inj hk;omega);rw[Nat.zero_add,List.nil_append]at eI;obtain⟨av,cv,rfl,_,_⟩:=dU eI;obtain⟨Hx,Hb⟩:=aZ (uL.out.below hb1) (aV lj.out hb1);obtain⟨b2,o2,jp,cw⟩:=(Ha.out.below Hb.out).term k hk2 hx';simp only[Option.some.injEq,Addr.mk.injEq,and_true]at jp;obtain⟨rfl,rfl⟩:=jp;have Ht:Hid (bY w1 b (o+k*4) [ai l',ar s',ai m',ah e']):=cw;obtain⟨rS,cE⟩:=aZ eI hb1;have hsz1:=hb1.size;have gJ:gB (s',m',e'):=by have:=Hf.out _ (List.getElem_mem hk2);rw[hx']at this;exact this
      have hel:ts[k]=(l',s',m',e'):=hx';clear eI hb1 hg1 Ih cw hx' vB;obtain⟨x0,x1,x2,x3⟩:=Hx.out.c4;obtain⟨t0,t1,t2,t3⟩:=Ht.out.w4;go_wp2_with fail;have LP:((bs l').toList==(bs l).toList)=decide (l'=l):=by rw[gm,gm];by_cases h:l'=l<;>simp[h]
      by_cases he:l'=l
      case neg=>
       rw[decide_eq_false he]at LP;refine cg (λw'=>aH w' (w.heap.size) 0 (ai l)/\aH w' b (o+k*4) (ai l')) (λi=>Nat.blt i 100000) [(0,true),(1,true),(2,true),(3,true),(4,true),(5,true),(6,true),(7,true),(8,true),(9,true),(10,true),(11,true),(12,true),(13,true)] zk zk rfl zk zc ⟨x0,t0⟩ ?_;iterate 14 (refine pT rfl rfl ?_ (by intro w' ⟨q0,q1⟩;go_simp;try with_reducible rfl);try simp only[UU])
       simp only[bD];have lR:=cE.out.drew;generalize iT:w1.drew=w2;have hx2:aC w2 w.heap.size 67 [ai l,ar s,ai m,ah e]:=by rw[<-iT];exact Hx.out
       have hv2:w2.ownsRow wd.heap.size 67 4 (.slice av k cv) k ((ts.take k).flatMap aY):=by rw[<-iT];exact rS.out
       have dH:=aj hv2;replace Hx:=aj hx2;replace Hb:Hid (Bw w2 w2):=Below.refl _ _;have zP:Hid (Bw wd w2):=by rw[<-iT];exact lR
       have mr:=Ha.out.below lj.out;have hz2:wd.heap.size<=w2.heap.size:=by rw[<-iT];exact hsz1
       obtain⟨S,hS⟩:=aK (aM (s,m,e));have hps:=Vo ts (l,s,m,e) k JP.out (λ_=>by rw[hel];exact he);rw[show aM ((l,s,m,e):aR).2=S from hS]at hps;have uf:((ts.drop k).flatMap aY).length=(n-k) *4:=by rw[nX,List.length_drop,Hn.out]
       have hdr:=mr.aBo (n:=n) (cap:=cap) k Hn.out zo MP;have hsc:=Hs.out.cut (k:=k) (size:=4) zo;have anK:(⟨b,o,none⟩:Addr).add (k*4)=⟨b,o+k*4,none⟩:=by unfold Addr.add;split<;>simp_all
       rw[if_neg zo,Option.map_some,anK]at hdr hsc;obtain⟨xX,HS,zW,vV,oz⟩:=fU hps hS uf hdr hsc;have hk1:k<=n:=by omega
       have Tj:k<=cap:=by omega
       clear hps hS hx2 hv2 mr uf hdr hsc iT lR hel gJ x0 x1 x2 x3 t0 t1 t2 t3 LP he bK;obtain⟨x0,x1,x2,x3⟩:=Hx.out.c4;go_wp2_with fail;refine cg (λw'=>aH w' (w.heap.size) 0 (ai l)/\aH w' (w.heap.size) 1 (ar s)/\aH w' (w.heap.size) 2 (ai m)/\aH w' (w.heap.size) 3 (ah e)) (λi=>Nat.blt i 100000) [(0,true),(1,true),(2,true),(3,true),(4,true),(5,false),(6,true),(7,false),(8,false),(9,true)] zk zk rfl zk zc ⟨x0,x1,x2,x3⟩ ?_;iterate 5 (refine pT rfl rfl ?_ (by intro w' ⟨q0,q1,q2,q3⟩;go_simp;try with_reducible rfl);try simp only[UU])
       refine aW rfl rfl (λK hK=>?_);go_simp;with_reducible refine(En s m e S HS.out _ fx.out).mono ?_
       rintro e w4 ⟨rfl,hq⟩;have ag:Bw w2 w4:=by first|exact hq|exact bo hq
       clear x0 x1 x2 x3;obtain⟨Hx,x0,x1,x2,x3⟩:=dK Hx ag;replace Hb:=aF Hb ag;clear ag;refine hK _ _ (λ_=>⟨x0,x1,x2,x3⟩) ?_;clear hK K;try simp only[UU]
       refine pT rfl rfl ?_;try simp only[UU]
       refine aW rfl rfl (λK hK=>?_);go_simp;refine hK _ _ (λ_=>⟨aX x0,aX x1,aX x2,aX x3⟩) ?_;clear hK K;try simp only[UU]
       refine cn (λW5=>aC W5 (w4.heap.size) 67 [ai l,ar (aI (dN S)),ai (nt (dN S).natAbs),ah (dE S)]/\Bw w4 W5) (by first|exact dZ|exact ej) ?_;rintro W5 ⟨qc,ag⟩;clear x0 x1 x2 x3;have yT:=Hx.out.lt;replace Hx:=kB Hx ag;have Hc:=aj qc;clear qc;obtain⟨x0,x1,x2,x3⟩:=Hx.out.c4;obtain⟨c0,c1,c2,c3⟩:=Hc.out.c4;replace Hb:=aF Hb ag;clear ag;refine aW rfl rfl (λK hK=>?_);have dQ:=ownsRow_below dH.out Hb.out;have hs3:=Hb.out.size;refine wp_append_own _ _ _ 22 rfl wd.heap.size 67 i0 _ 4 48 Tryz.underlying22 Hi.out dz.out dA.out dh.out rfl zd (.slice av k cv) k ((ts.take k).flatMap aY) rfl dQ ⟨w4.heap.size,0,none⟩ 1 1 [ai l,ar (aI (dN S)),ai (nt (dN S).natAbs),ah (dE S)] rfl rfl (iz Hc.out) zy zx zo zo ?_;intro v8 w8 eV bT _;have nb:∀b,b<wd.heap.size->some b≠(Value.slice av k cv).ownBlock:=λb hb e=>by have:=dL dQ b e.symm;omega
       refine hK _ _ (λ_=>⟨cV bT x0 (nb _ zo),cV bT x1 (nb _ zo),cV bT x2 (nb _ zo),cV bT x3 (nb _ zo)⟩) ?_;clear hK K;try simp only[UU]
       have fQ:=(aV zP.out Hb.out).grown bT zo (λj e=>dL dQ j e);obtain⟨ja,iP⟩:=aZ fQ eV;have MS:=bT.size;refine pT rfl rfl ?_;try simp only[UU]
       simp only[bD];clear nb dQ eV bT fQ x0 x1 x2 x3 c0 c1 c2 c3;go_wp2_with (at_builtin;refine vN rfl _ _ 22 rfl wd.heap.size 67 i0 _ 4 48 Tryz.underlying22 Hi.out dz.out dA.out dh.out rfl zd v8 (k+1) _ rfl iP.out _ (n-k) (cap-k) ((ts.drop k).flatMap aY) rfl oz.out zW.out (vV.out.below ja.out) (vL _) zx zo zo ?_;intro v9 w9 fS su TE);all_goals
        go_ret
        refine⟨v9,rfl,?_,(aV lj.out ja.out).grown su zo (λj e=>by have:=dL iP.out j e;omega)⟩
        rw[xX.out]
        have e9:((ts.take k++[(l,canon S)]++ts.drop k).flatMap aY)=(ts.take k).flatMap aY++[ai l,ar (aI (dN S)),ai (nt (dN S).natAbs),ah (dE S)]++(ts.drop k).flatMap aY:=by rw[List.flatMap_append,List.flatMap_append];rfl
        have l9:(ts.take k++[(l,canon S)]++ts.drop k).length=k+1+(n-k):=by simp[Hn.out];omega
        rw[e9,l9]
        exact sH fS zo
      rw[decide_eq_true he]at LP;refine cg (λw'=>aH w' (w.heap.size) 0 (ai l)/\aH w' b (o+k*4) (ai l')) (λi=>Nat.blt i 100000) [(0,true),(1,true),(2,true),(3,true),(4,true),(5,true),(6,true),(7,true),(8,true),(9,true),(10,true),(11,true),(12,true),(13,true)] zk zk rfl zk zc ⟨x0,t0⟩ ?_;iterate 14 (refine pT rfl rfl ?_ (by intro w' ⟨q0,q1⟩;go_simp;try with_reducible rfl);try simp only[UU])
      simp only[bD];have lR:=cE.out.drew;generalize iT:w1.drew=w2;have hx2:aC w2 w.heap.size 67 [ai l,ar s,ai m,ah e]:=by rw[<-iT];exact Hx.out
      have ht2:bY w2 b (o+k*4) [ai l',ar s',ai m',ah e']:=by rw[<-iT];exact Ht.out
      have hb2:Bw w w2:=by rw[<-iT];exact Hb.out.drew
      have hv2:w2.ownsRow wd.heap.size 67 4 (.slice av k cv) k ((ts.take k).flatMap aY):=by rw[<-iT];exact rS.out
      have dH:=aj hv2;replace Hx:=aj hx2;replace Ht:=aj ht2;replace Hb:Hid (Bw w2 w2):=Below.refl _ _;have zP:Hid (Bw wd w2):=by rw[<-iT];exact lR
      have mr:=Ha.out.below lj.out;have hz2:wd.heap.size<=w2.heap.size:=by rw[<-iT];exact hsz1
      obtain⟨S,hS⟩:=aK (aM (s',m',e')+aM (s,m,e));have hps:=atF ts (l,s,m,e) k JP.out hk2 (by rw[hel];exact he);rw[show aM ts[k].2=aM (s',m',e')by rw[hel],show aM (s',m',e')+aM ((l,s,m,e):aR).2=S from hS]at hps;have uf:((ts.drop (k+1)).flatMap aY).length=(n-(k+1)) *4:=by rw[nX,List.length_drop,Hn.out]
      have hdr:=mr.aBo (n:=n) (cap:=cap) (k+1) Hn.out zo MP;have hsc:=Hs.out.cut (k:=k+1) (size:=4) zo;obtain⟨xX,HS,lS,zW,vV,oz⟩:=gP hps hS gJ uf hdr hsc;have hk1:k+1<=n:=by omega
      have Tj:k+1<=cap:=by omega
      clear hps hS hel gJ hx2 ht2 hb2 hv2 mr uf hdr hsc x0 x1 x2 x3 t0 t1 t2 t3 iT lR LP he bK;obtain⟨x0,x1,x2,x3⟩:=Hx.out.c4;obtain⟨t0,t1,t2,t3⟩:=Ht.out.w4;have bK:=im n cap k (k:Int) (rfl:(some ⟨b,o,none⟩:Option Addr)=_) hkn rfl;go_wp2_with fail;have lbx:=Hx.out.lt;refine cg (λw'=>aH w' (w.heap.size) 0 (ai l)/\aH w' (w.heap.size) 1 (ar s)/\aH w' (w.heap.size) 2 (ai m)/\aH w' (w.heap.size) 3 (ah e)/\aH w' b (o+k*4) (ai l')/\aH w' b (o+k*4+1) (ar s')/\aH w' b (o+k*4+2) (ai m')/\aH w' b (o+k*4+3) (ah e')) (λi=>Nat.blt i 100000) [(0,true),(1,true),(2,true),(3,true),(4,true),(5,true),(6,true),(7,true),(8,true),(9,true),(10,false),(11,true),(12,false),(13,false),(14,true)] zk zk rfl zk zc ⟨x0,x1,x2,x3,t0,t1,t2,t3⟩ ?_;iterate 10 (refine pT rfl rfl ?_ (by intro w' ⟨q0,q1,q2,q3,q4,q5,q6,q7⟩;go_simp;try with_reducible rfl);try simp only[UU])
      refine aW rfl rfl (λK hK=>?_);go_simp;with_reducible refine(auy s' m' e' s m e S HS.out _ lS.out fx.out).mono ?_
      rintro e w4 ⟨rfl,hq⟩;have ag:Bw w2 w4:=by first|exact hq|exact bo hq
      clear x0 x1 x2 x3 t0 t1 t2 t3;obtain⟨Hx,x0,x1,x2,x3⟩:=dK Hx ag;replace Ht:=kW Ht ag;obtain⟨t0,t1,t2,t3⟩:=Ht.out.w4;replace Hb:=aF Hb ag;clear ag;refine hK _ _ (λ_=>⟨x0,x1,x2,x3,t0,t1,t2,t3⟩) ?_;clear hK K;try simp only[UU]
      refine pT rfl rfl ?_;try simp only[UU]
      refine aW rfl rfl (λK hK=>?_);go_simp;refine hK _ _ (λ_=>⟨aX x0,aX x1,aX x2,aX x3,aX t0,aX t1,aX t2,aX t3⟩) ?_;clear hK K;try simp only[UU]
      refine cn (λW5=>aC W5 (w4.heap.size) 67 [ai l,ar (aI (dN S)),ai (nt (dN S).natAbs),ah (dE S)]/\Bw w4 W5) (by first|exact dZ|exact ej) ?_;rintro W5 ⟨qc,ag⟩;clear x0 x1 x2 x3 t0 t1 t2 t3;have yT:=Hx.out.lt;replace Hx:=kB Hx ag;replace Ht:=kW Ht ag;have Hc:=aj qc;clear qc;obtain⟨x0,x1,x2,x3⟩:=Hx.out.c4;obtain⟨t0,t1,t2,t3⟩:=Ht.out.w4;obtain⟨c0,c1,c2,c3⟩:=Hc.out.c4;replace Hb:=aF Hb ag;clear ag;refine aW rfl rfl (λK hK=>?_);have dQ:=ownsRow_below dH.out Hb.out;have hs3:=Hb.out.size;refine wp_append_own _ _ _ 22 rfl wd.heap.size 67 i0 _ 4 48 Tryz.underlying22 Hi.out dz.out dA.out dh.out rfl zd (.slice av k cv) k ((ts.take k).flatMap aY) rfl dQ ⟨w4.heap.size,0,none⟩ 1 1 [ai l,ar (aI (dN S)),ai (nt (dN S).natAbs),ah (dE S)] rfl rfl (iz Hc.out) zy zx zo zo ?_;intro v8 w8 eV bT _;have nb:∀b,b<wd.heap.size->some b≠(Value.slice av k cv).ownBlock:=λb hb e=>by have:=dL dQ b e.symm;omega
      refine hK _ _ (λ_=>⟨cV bT x0 (nb _ zo),cV bT x1 (nb _ zo),cV bT x2 (nb _ zo),cV bT x3 (nb _ zo),cV bT t0 (nb _ zp),cV bT t1 (nb _ zp),cV bT t2 (nb _ zp),cV bT t3 (nb _ zp)⟩) ?_;clear hK K;try simp only[UU]
      have fQ:=(aV zP.out Hb.out).grown bT zo (λj e=>dL dQ j e);obtain⟨ja,iP⟩:=aZ fQ eV;have MS:=bT.size;refine pT rfl rfl ?_;try simp only[UU]
      simp only[bD];clear nb dQ eV bT fQ x0 x1 x2 x3 t0 t1 t2 t3 c0 c1 c2 c3;go_wp2_with (at_builtin;refine vN rfl _ _ 22 rfl wd.heap.size 67 i0 _ 4 48 Tryz.underlying22 Hi.out dz.out dA.out dh.out rfl zd v8 (k+1) _ rfl iP.out _ (n-(k+1)) (cap-(k+1)) ((ts.drop (k+1)).flatMap aY) rfl oz.out zW.out (vV.out.below ja.out) (vL _) zx zo zo ?_;intro v9 w9 fS su TE);all_goals
       go_ret
       refine⟨v9,rfl,?_,(aV lj.out ja.out).grown su zo (λj e=>by have:=dL iP.out j e;omega)⟩
       rw[xX.out]
       have e9:((ts.take k++[(l,canon S)]++ts.drop (k+1)).flatMap aY)=(ts.take k).flatMap aY++[ai l,ar (aI (dN S)),ai (nt (dN S).natAbs),ah (dE S)]++(ts.drop (k+1)).flatMap aY:=by rw[List.flatMap_append,List.flatMap_append];rfl
       have l9:(ts.take k++[(l,canon S)]++ts.drop (k+1)).length=k+1+(n-(k+1)):=by simp[Hn.out];omega
       rw[e9,l9]
       exact sH fS zo
    . obtain rfl:n=k:=by omega
      cases a with
      | none=>
        have hc0:=Hs.out.2 rfl;obtain rfl:n=0:=by omega
        subst hc0;obtain⟨x0,x1,x2,x3⟩:=Hx.out.c4;have AW:decide (((0:Nat):Int)<((0:Nat):Int))=false:=by simp
        go_wp2_with fail;refine cg (λw'=>aH w' (w.heap.size) 0 (ai l)) (λi=>Nat.blt i 100000) [(0,true),(1,true),(2,true),(3,true),(4,true),(5,true),(6,true),(7,true),(8,true),(9,true),(10,true),(11,true),(12,true),(13,true)] zk zk rfl zk zc x0 ?_;iterate 5 (refine pT rfl rfl ?_;try simp only[UU])
        refine bQ rfl rfl ?_;try simp only[UU]
        refine bQ rfl rfl ?_;try simp only[UU]
        refine bQ rfl rfl ?_;try simp only[UU]
        refine bQ rfl rfl ?_;try simp only[UU]
        refine bQ rfl rfl ?_;try simp only[UU]
        refine bQ rfl rfl ?_;try simp only[UU]
        refine bQ rfl rfl ?_;try simp only[UU]
        refine bQ rfl rfl ?_;try simp only[UU]
        refine pT rfl rfl ?_;try simp only[UU]
        simp only[bD];generalize tY:wr.drew=wd;have lF:aC wd w.heap.size 67 [ai l,ar s,ai m,ah e]:=by rw[<-tY];exact Hx.out
        have mA:Bw w wd:=by rw[<-tY];exact Hb.out.drew
        have hpre:((ts.take 0).flatMap aY).length=0*4:=by rw[nX,List.length_take,Nat.min_eq_left (by have:=Hn.out;omega)]
        have yx:=Ha.out.below mA;have yw:=yx.aBt 0;have hsk:Sl none 0 0:=Hs.out;obtain⟨uL,lj,EI,Fg⟩:=eN lF mA yw hpre;have szd:=mA.size;have lxd:=uL.out.lt;clear lF mA yw hpre yx tY x0 x1 x2 x3 Hx Hb;go_wp2_with (at_builtin;refine vN rfl _ _ 22 rfl wd.heap.size 67 i0 _ 4 48 Tryz.underlying22 Hi.out dz.out dA.out dh.out rfl zd _ 0 [] rfl (World.ownsRow_made wd #[] 0 (Nat.le_refl _) (Nat.zero_le _) zm) none 0 0 ((ts.take 0).flatMap aY) rfl hsk Fg.out (EI.out.below ((Below.refl _ wd).alloc (Nat.le_refl _) _)) (vL _) (by simp[maxLen]) zo zm ?_;intro v1 w1 eI hg1 Ih);have hb1:=((Below.refl _ wd).alloc (Nat.le_refl _) _).grown hg1 zm (λk hk=>by have h9:wd.heap.size=k:=Option.some.inj hk;omega);rw[Nat.zero_add,List.nil_append]at eI;obtain⟨av,cv,rfl,_,_⟩:=dU eI;obtain⟨Hx,Hb,rS,cE⟩:=eN (uL.out.below hb1) (aV lj.out hb1) eI hb1;have hsz1:=hb1.size;clear eI hb1 hg1 Ih;obtain⟨x0,x1,x2,x3⟩:=Hx.out.c4;go_wp2_with fail;refine cg (λw'=>aH w' (w.heap.size) 0 (ai l)) (λi=>Nat.blt i 100000) [(0,true),(1,true),(2,true),(3,true),(4,true),(5,true),(6,true),(7,true),(8,true),(9,true),(10,true),(11,true),(12,true),(13,true)] zk zk rfl zk zc x0 ?_;iterate 5 (refine pT rfl rfl ?_;try simp only[UU])
        refine bQ rfl rfl ?_;try simp only[UU]
        refine bQ rfl rfl ?_;try simp only[UU]
        refine bQ rfl rfl ?_;try simp only[UU]
        refine bQ rfl rfl ?_;try simp only[UU]
        refine bQ rfl rfl ?_;try simp only[UU]
        refine bQ rfl rfl ?_;try simp only[UU]
        refine bQ rfl rfl ?_;try simp only[UU]
        refine bQ rfl rfl ?_;try simp only[UU]
        refine pT rfl rfl ?_;try simp only[UU]
        simp only[bD];have lR:=cE.out.drew;generalize iT:w1.drew=w2;have hx2:aC w2 w.heap.size 67 [ai l,ar s,ai m,ah e]:=by rw[<-iT];exact Hx.out
        have hv2:w2.ownsRow wd.heap.size 67 4 (.slice av 0 cv) 0 ((ts.take 0).flatMap aY):=by rw[<-iT];exact rS.out
        have dH:=aj hv2;replace Hx:=aj hx2;replace Hb:Hid (Bw w2 w2):=Below.refl _ _;have zP:Hid (Bw wd w2):=by rw[<-iT];exact lR
        have mr:=Ha.out.below lj.out;have hz2:wd.heap.size<=w2.heap.size:=by rw[<-iT];exact hsz1
        obtain⟨S,hS⟩:=aK (aM (s,m,e));have hps:=Vo ts (l,s,m,e) 0 JP.out (λh=>absurd h (by have:=Hn.out;omega));rw[show aM ((l,s,m,e):aR).2=S from hS]at hps;have uf:((ts.drop 0).flatMap aY).length=(0-0) *4:=by rw[nX,List.length_drop,Hn.out]
        have hdr:=mr.aBo (n:=0) (cap:=0) 0 Hn.out zo MP;have hsc:=Hs.out.cut (k:=0) (size:=4) zo;obtain⟨xX,HS,zW,vV,oz⟩:=fU hps hS uf hdr hsc;have hk1:0<=0:=by omega
        have Tj:0<=0:=by omega
        clear hps hS hx2 hv2 mr uf hdr hsc iT lR x0 x1 x2 x3;obtain⟨x0,x1,x2,x3⟩:=Hx.out.c4;go_wp2_with fail;refine cg (λw'=>aH w' (w.heap.size) 0 (ai l)/\aH w' (w.heap.size) 1 (ar s)/\aH w' (w.heap.size) 2 (ai m)/\aH w' (w.heap.size) 3 (ah e)) (λi=>Nat.blt i 100000) [(0,true),(1,true),(2,true),(3,true),(4,true),(5,false),(6,true),(7,false),(8,false),(9,true)] zk zk rfl zk zc ⟨x0,x1,x2,x3⟩ ?_;iterate 5 (refine pT rfl rfl ?_ (by intro w' ⟨q0,q1,q2,q3⟩;go_simp;try with_reducible rfl);try simp only[UU])
        refine aW rfl rfl (λK hK=>?_);go_simp;with_reducible refine(En s m e S HS.out _ fx.out).mono ?_
        rintro e w4 ⟨rfl,hq⟩;have ag:Bw w2 w4:=by first|exact hq|exact bo hq
        clear x0 x1 x2 x3;obtain⟨Hx,x0,x1,x2,x3⟩:=dK Hx ag;replace Hb:=aF Hb ag;clear ag;refine hK _ _ (λ_=>⟨x0,x1,x2,x3⟩) ?_;clear hK K;try simp only[UU]
        refine pT rfl rfl ?_;try simp only[UU]
        refine aW rfl rfl (λK hK=>?_);go_simp;refine hK _ _ (λ_=>⟨aX x0,aX x1,aX x2,aX x3⟩) ?_;clear hK K;try simp only[UU]
        refine cn (λW5=>aC W5 (w4.heap.size) 67 [ai l,ar (aI (dN S)),ai (nt (dN S).natAbs),ah (dE S)]/\Bw w4 W5) (by first|exact dZ|exact ej) ?_;rintro W5 ⟨qc,ag⟩;clear x0 x1 x2 x3;have yT:=Hx.out.lt;replace Hx:=kB Hx ag;have Hc:=aj qc;clear qc;obtain⟨x0,x1,x2,x3⟩:=Hx.out.c4;obtain⟨c0,c1,c2,c3⟩:=Hc.out.c4;replace Hb:=aF Hb ag;clear ag;refine aW rfl rfl (λK hK=>?_);have dQ:=ownsRow_below dH.out Hb.out;have hs3:=Hb.out.size;refine wp_append_own _ _ _ 22 rfl wd.heap.size 67 i0 _ 4 48 Tryz.underlying22 Hi.out dz.out dA.out dh.out rfl zd (.slice av 0 cv) 0 ((ts.take 0).flatMap aY) rfl dQ ⟨w4.heap.size,0,none⟩ 1 1 [ai l,ar (aI (dN S)),ai (nt (dN S).natAbs),ah (dE S)] rfl rfl (iz Hc.out) zy (by simp[maxLen]) zo zo ?_;intro v8 w8 eV bT _;have nb:∀b,b<wd.heap.size->some b≠(Value.slice av 0 cv).ownBlock:=λb hb e=>by have:=dL dQ b e.symm;omega
        refine hK _ _ (λ_=>⟨cV bT x0 (nb _ zo),cV bT x1 (nb _ zo),cV bT x2 (nb _ zo),cV bT x3 (nb _ zo)⟩) ?_;clear hK K;try simp only[UU]
        have fQ:=(aV zP.out Hb.out).grown bT zo (λj e=>dL dQ j e);obtain⟨ja,iP⟩:=aZ fQ eV;have MS:=bT.size;refine pT rfl rfl ?_;try simp only[UU]
        simp only[bD];clear nb dQ eV bT fQ x0 x1 x2 x3 c0 c1 c2 c3;go_wp2_with (at_builtin;refine vN rfl _ _ 22 rfl wd.heap.size 67 i0 _ 4 48 Tryz.underlying22 Hi.out dz.out dA.out dh.out rfl zd v8 (0+1) _ rfl iP.out none 0 0 ((ts.drop 0).flatMap aY) rfl oz.out zW.out (vV.out.below ja.out) (vL _) (by simp[maxLen]) zo zo ?_;intro v9 w9 fS su TE);all_goals
         go_ret
         refine⟨v9,rfl,?_,(aV lj.out ja.out).grown su zo (λj e=>by have:=dL iP.out j e;omega)⟩
         rw[xX.out]
         have e9:((ts.take 0++[(l,canon S)]++ts.drop 0).flatMap aY)=(ts.take 0).flatMap aY++[ai l,ar (aI (dN S)),ai (nt (dN S).natAbs),ah (dE S)]++(ts.drop 0).flatMap aY:=by rw[List.flatMap_append,List.flatMap_append];rfl
         have l9:(ts.take 0++[(l,canon S)]++ts.drop 0).length=0+1+0:=by simp[Hn.out]
         rw[e9,l9]
         exact sH fS zo
      | some ad=>
        obtain⟨x0,x1,x2,x3⟩:=Hx.out.c4;have AW:decide ((n:Int)<(n:Int))=false:=by simp
        go_wp2_with fail;refine cg (λw'=>aH w' (w.heap.size) 0 (ai l)) (λi=>Nat.blt i 100000) [(0,true),(1,true),(2,true),(3,true),(4,true),(5,true),(6,true),(7,true),(8,true),(9,true),(10,true),(11,true),(12,true),(13,true)] zk zk rfl zk zc x0 ?_;iterate 5 (refine pT rfl rfl ?_;try simp only[UU])
        refine bQ rfl rfl ?_;try simp only[UU]
        refine bQ rfl rfl ?_;try simp only[UU]
        refine bQ rfl rfl ?_;try simp only[UU]
        refine bQ rfl rfl ?_;try simp only[UU]
        refine bQ rfl rfl ?_;try simp only[UU]
        refine bQ rfl rfl ?_;try simp only[UU]
        refine bQ rfl rfl ?_;try simp only[UU]
        refine bQ rfl rfl ?_;try simp only[UU]
        refine pT rfl rfl ?_;try simp only[UU]
        simp only[bD];generalize tY:wr.drew=wd;have lF:aC wd w.heap.size 67 [ai l,ar s,ai m,ah e]:=by rw[<-tY];exact Hx.out
        have mA:Bw w wd:=by rw[<-tY];exact Hb.out.drew
        have hpre:((ts.take n).flatMap aY).length=n*4:=by rw[nX,List.length_take,Nat.min_eq_left (by have:=Hn.out;omega)]
        have yx:=Ha.out.below mA;have yw:=yx.aBt n;have hsk:Sl (some ad) n cap:=Hs.out;obtain⟨uL,lj,EI,Fg⟩:=eN lF mA yw hpre;have szd:=mA.size;have lxd:=uL.out.lt;clear lF mA yw hpre yx tY x0 x1 x2 x3 Hx Hb;go_wp2_with (at_builtin;refine vN rfl _ _ 22 rfl wd.heap.size 67 i0 _ 4 48 Tryz.underlying22 Hi.out dz.out dA.out dh.out rfl zd _ 0 [] rfl (World.ownsRow_made wd #[] 0 (Nat.le_refl _) (Nat.zero_le _) zm) (some ad) n cap ((ts.take n).flatMap aY) rfl hsk Fg.out (EI.out.below ((Below.refl _ wd).alloc (Nat.le_refl _) _)) (vL _) zx zo zm ?_;intro v1 w1 eI hg1 Ih);have hb1:=((Below.refl _ wd).alloc (Nat.le_refl _) _).grown hg1 zm (λk hk=>by have h9:wd.heap.size=k:=Option.some.inj hk;omega);rw[Nat.zero_add,List.nil_append]at eI;obtain⟨av,cv,rfl,_,_⟩:=dU eI;obtain⟨Hx,Hb,rS,cE⟩:=eN (uL.out.below hb1) (aV lj.out hb1) eI hb1;have hsz1:=hb1.size;clear eI hb1 hg1 Ih;obtain⟨x0,x1,x2,x3⟩:=Hx.out.c4;go_wp2_with fail;refine cg (λw'=>aH w' (w.heap.size) 0 (ai l)) (λi=>Nat.blt i 100000) [(0,true),(1,true),(2,true),(3,true),(4,true),(5,true),(6,true),(7,true),(8,true),(9,true),(10,true),(11,true),(12,true),(13,true)] zk zk rfl zk zc x0 ?_;iterate 5 (refine pT rfl rfl ?_;try simp only[UU])
        refine bQ rfl rfl ?_;try simp only[UU]
        refine bQ rfl rfl ?_;try simp only[UU]
        refine bQ rfl rfl ?_;try simp only[UU]
        refine bQ rfl rfl ?_;try simp only[UU]
        refine bQ rfl rfl ?_;try simp only[UU]
        refine bQ rfl rfl ?_;try simp only[UU]
        refine bQ rfl rfl ?_;try simp only[UU]
        refine bQ rfl rfl ?_;try simp only[UU]
        refine pT rfl rfl ?_;try simp only[UU]
        simp only[bD];have lR:=cE.out.drew;generalize iT:w1.drew=w2;have hx2:aC w2 w.heap.size 67 [ai l,ar s,ai m,ah e]:=by rw[<-iT];exact Hx.out
        have hv2:w2.ownsRow wd.heap.size 67 4 (.slice av n cv) n ((ts.take n).flatMap aY):=by rw[<-iT];exact rS.out
        have dH:=aj hv2;replace Hx:=aj hx2;replace Hb:Hid (Bw w2 w2):=Below.refl _ _;have zP:Hid (Bw wd w2):=by rw[<-iT];exact lR
        have mr:=Ha.out.below lj.out;have hz2:wd.heap.size<=w2.heap.size:=by rw[<-iT];exact hsz1
        obtain⟨S,hS⟩:=aK (aM (s,m,e));have hps:=Vo ts (l,s,m,e) n JP.out (λh=>absurd h (by have:=Hn.out;omega));rw[show aM ((l,s,m,e):aR).2=S from hS]at hps;have uf:((ts.drop n).flatMap aY).length=0*4:=by rw[nX,List.length_drop,Hn.out,Nat.sub_self]
        have hdr:=mr.aBo (n:=n) (cap:=cap) n Hn.out zo MP;have hsc:=Hs.out.cut (k:=n) (size:=4) zo;rw[Nat.sub_self]at hsc;obtain⟨xX,HS,zW,vV,oz⟩:=fU hps hS uf hdr hsc;have hk1:n<=n:=by omega
        have Tj:n<=cap:=by omega
        clear hps hS hx2 hv2 mr uf hdr hsc iT lR x0 x1 x2 x3;obtain⟨x0,x1,x2,x3⟩:=Hx.out.c4;go_wp2_with fail;refine cg (λw'=>aH w' (w.heap.size) 0 (ai l)/\aH w' (w.heap.size) 1 (ar s)/\aH w' (w.heap.size) 2 (ai m)/\aH w' (w.heap.size) 3 (ah e)) (λi=>Nat.blt i 100000) [(0,true),(1,true),(2,true),(3,true),(4,true),(5,false),(6,true),(7,false),(8,false),(9,true)] zk zk rfl zk zc ⟨x0,x1,x2,x3⟩ ?_;iterate 5 (refine pT rfl rfl ?_ (by intro w' ⟨q0,q1,q2,q3⟩;go_simp;try with_reducible rfl);try simp only[UU])
        refine aW rfl rfl (λK hK=>?_);go_simp;with_reducible refine(En s m e S HS.out _ fx.out).mono ?_
        rintro e w4 ⟨rfl,hq⟩;have ag:Bw w2 w4:=by first|exact hq|exact bo hq
        clear x0 x1 x2 x3;obtain⟨Hx,x0,x1,x2,x3⟩:=dK Hx ag;replace Hb:=aF Hb ag;clear ag;refine hK _ _ (λ_=>⟨x0,x1,x2,x3⟩) ?_;clear hK K;try simp only[UU]
        refine pT rfl rfl ?_;try simp only[UU]
        refine aW rfl rfl (λK hK=>?_);go_simp;refine hK _ _ (λ_=>⟨aX x0,aX x1,aX x2,aX x3⟩) ?_;clear hK K;try simp only[UU]
        refine cn (λW5=>aC W5 (w4.heap.size) 67 [ai l,ar (aI (dN S)),ai (nt (dN S).natAbs),ah (dE S)]/\Bw w4 W5) (by first|exact dZ|exact ej) ?_;rintro W5 ⟨qc,ag⟩;clear x0 x1 x2 x3;have yT:=Hx.out.lt;replace Hx:=kB Hx ag;have Hc:=aj qc;clear qc;obtain⟨x0,x1,x2,x3⟩:=Hx.out.c4;obtain⟨c0,c1,c2,c3⟩:=Hc.out.c4;replace Hb:=aF Hb ag;clear ag;refine aW rfl rfl (λK hK=>?_);have dQ:=ownsRow_below dH.out Hb.out;have hs3:=Hb.out.size;refine wp_append_own _ _ _ 22 rfl wd.heap.size 67 i0 _ 4 48 Tryz.underlying22 Hi.out dz.out dA.out dh.out rfl zd (.slice av n cv) n ((ts.take n).flatMap aY) rfl dQ ⟨w4.heap.size,0,none⟩ 1 1 [ai l,ar (aI (dN S)),ai (nt (dN S).natAbs),ah (dE S)] rfl rfl (iz Hc.out) zy zx zo zo ?_;intro v8 w8 eV bT _;have nb:∀b,b<wd.heap.size->some b≠(Value.slice av n cv).ownBlock:=λb hb e=>by have:=dL dQ b e.symm;omega
        refine hK _ _ (λ_=>⟨cV bT x0 (nb _ zo),cV bT x1 (nb _ zo),cV bT x2 (nb _ zo),cV bT x3 (nb _ zo)⟩) ?_;clear hK K;try simp only[UU]
        have fQ:=(aV zP.out Hb.out).grown bT zo (λj e=>dL dQ j e);obtain⟨ja,iP⟩:=aZ fQ eV;have MS:=bT.size;refine pT rfl rfl ?_;try simp only[UU]
        simp only[bD];clear nb dQ eV bT fQ x0 x1 x2 x3 c0 c1 c2 c3;go_wp2_with (at_builtin;refine vN rfl _ _ 22 rfl wd.heap.size 67 i0 _ 4 48 Tryz.underlying22 Hi.out dz.out dA.out dh.out rfl zd v8 (n+1) _ rfl iP.out _ 0 (cap-n) ((ts.drop n).flatMap aY) rfl oz.out zW.out (vV.out.below ja.out) (vL _) zx zo zo ?_;intro v9 w9 fS su TE);all_goals
         go_ret
         refine⟨v9,rfl,?_,(aV lj.out ja.out).grown su zo (λj e=>by have:=dL iP.out j e;omega)⟩
         rw[xX.out]
         have e9:((ts.take n++[(l,canon S)]++ts.drop n).flatMap aY)=(ts.take n).flatMap aY++[ai l,ar (aI (dN S)),ai (nt (dN S).natAbs),ah (dE S)]++(ts.drop n).flatMap aY:=by rw[List.flatMap_append,List.flatMap_append];rfl
         have l9:(ts.take n++[(l,canon S)]++ts.drop n).length=n+1+0:=by simp[Hn.out]
         rw[e9,l9]
         exact sH fS zo
theorem atG {C:Nat}(l:List aR)(x:aR)(h:∀t∈l,Sm C (aM t.2))(hx:Sm C (aM x.2)):∀t∈ir l x,Sm (C+1) (aM t.2):=by
 have hc:∀X:Dyadic,Sm (C+1) X->Sm (C+1) (aM (canon X)):=λX h=>by rw[cN];exact h
 induction l with
 |nil=>intro t ht;simp only[ir,List.mem_singleton]at ht;rw[ht];exact hc _ (hx.mono zo)
 | cons y l ih=>
   intro t ht;unfold ir at ht;split at ht
   . rcases List.mem_cons.1 ht with rfl|ht
     . exact(h _ zm).mono zo
     . exact ih (λt ht=>h t (by simp[ht])) t ht
   . split at ht
     . rcases List.mem_cons.1 ht with rfl|ht
       . exact hc _ ((h y zm).add hx)
       . exact(h t (by simp[ht])).mono zo
     . rcases List.mem_cons.1 ht with rfl|ht
       . exact hc _ (hx.mono zo)
       . exact(h t ht).mono zo
theorem atK {B:Nat}(l:List aR)(h:∀t∈l,Sm B (aM t.2)):∀t∈iX l,Sm (B+l.length) (aM t.2):=by refine JF (Q:=λl=>(∀t∈l,Sm B (aM t.2))->∀t∈iX l,Sm (B+l.length) (aM t.2)) (λ_ t ht=>by cases ht) (λl x ih h=>?_) l h;rw[Ek];have h1:=ih (λt ht=>h t (by simp[ht]));have:=atG (C:=B+l.length) (iX l) x h1 ((h x zm).mono zo);intro t ht;have h9:=this t ht;rw[List.length_append];exact h9
theorem atI {B:Nat}(l:List aR)(h:∀t∈l,Sm B (aM t.2))(hB:B+l.length<=16384):∀t∈iX l,gB t.2:=λt ht=>by have h1:=atK l h t ht;rw[afe l t ht];exact h1.aBj hB
theorem an0 (L:List aR)(k:Nat)(hk:k<L.length):(L.take (k+1)).filter gT=(L.take k).filter gT++if gT L[k]then[L[k]]else[]:=by rw[List.take_succ_eq_append_getElem hk,List.filter_append];congr 1;by_cases h:gT L[k]=true<;>simp[h]
theorem NM (V:Nat)(a:Option Addr)(n cap:Nat)(ts:List aR)(B:Nat)(w:World)(hn:ts.length=n)(hl:n<=4096)(ha:At w a (ts.flatMap aY))(hf:∀t∈ts,gB t.2)(hs:∀t∈ts,Sm B (aM t.2))(hB:B+n<=16384):
 Calls Tryz.prog 79 #[ah (V:Int),.slice a n cap] w λex w'=>∃a' c',ex=.returned (.tuple #[.agg #[ah (V:Int),.slice a' (bU ts).length c'],ah 0])/\bJ w' a' c' (bU ts)/\Bw w w':=by
 obtain⟨i0,hi,hz0,hz1,hz2⟩:=info_parts Tryz.aBl;have nC:=λk=>atI (ts.take k) (λt ht=>hs t (List.mem_of_mem_take ht)) (by rw[List.length_take];omega);have hpl:=λk=>atJ (ts.take k);have rA:=aoo ts;obtain⟨C,hC⟩:=aK (bU ts);have hcl:=CP ts;rw[hC]at rA hcl⊢;obtain⟨Hi,dz,dA,dh,xW,uJ,Hgc,Ha,Hf,Hn⟩:=Nj hi hz0 hz1 hz2 nC hpl rA ha hf hn;have hC4:C.length<=4096:=by omega
 clear hi hz0 hz1 hz2 nC hpl rA ha hf hs hC hn hcl;obtain⟨W,dw,Hb,Hr⟩:=jT w 24 [ah 0,.slice none 0 0];obtain⟨r0,au,r1,az⟩:=Hr.out.g2;go_enter Tryz.func79,Tryz.ntmps79;go_wp2_with fail;have hrl:=Hr.out.lt;go_loopw[6,7] (λs6 x wr=>∃(k:Nat) (v:Value),k<=n/\x=ah (k:Int)/\v=s6/\wr.ownsRow W.heap.size 67 4 v (iX (ts.take k)).length ((iX (ts.take k)).flatMap aY)/\Bw W wr) (λ_ x _=>n-(intOf x).toNat);case atStart=>exact⟨0,_,Nat.zero_le _,rfl,rfl,World.ownsRow_nil _ _ _ _,Below.refl _ _⟩
 case round=>
  clear r0 au r1 az;obtain⟨k,v,hk,rfl,rfl,ho,pb⟩:=hrel;by_cases hlt:k<n
  . have hk2:k<ts.length:=by rw[Hn.out];exact hlt
    obtain⟨l,s,m,e,hx⟩:∃l s m e,ts[k]=(l,s,m,e):=⟨_,_,_,_,rfl⟩;obtain⟨b,o,rfl,cw⟩:=(Ha.out.below (aV Hb.out pb)).term k hk2 hx;have bK:=im n cap k (k:Int) (rfl:(some ⟨b,o,none⟩:Option Addr)=_) hlt rfl;obtain⟨av,cv,rfl,yz,_⟩:=dU ho;have Ir:=zq ho;have hnx:iX (ts.take (k+1))=ir (iX (ts.take k)) (l,s,m,e):=by rw[List.take_succ_eq_append_getElem hk2,Ek,hx]
    have hp1:(iX (ts.take k)).length<=65536:=by have:=uJ.out k;rw[List.length_take]at this;omega
    have dP:gB (s,m,e):=by have:=Hf.out _ (List.getElem_mem hk2);rw[hx]at this;exact this
    have hput:=λ(W':World) (hW:Bw wr W')=>auD av _ cv (iX (ts.take k)) l s m e W' rfl hp1 Ir (yz.below hW) (xW.out k) dP;rw[<-hnx]at hput;obtain⟨np,pY⟩:=aK ((iX (ts.take k)).length);rw[pY]at hput;rw[pY];obtain⟨ajB,bj⟩:=aZ hput pb;have Ht:Hid (bY wr b (o+k*4) [ai l,ar s,ai m,ah e]):=cw;have iu:=pb.size;clear hput pb pY hnx hp1 dP Ir yz ho cw hx;have df:Hid (Bw wr wr):=Below.refl _ _;obtain⟨t0,t1,t2,t3⟩:=Ht.out.w4;go_wp2_with fail;refine(ajB.out _ (Below.refl _ _)).mono ?_;rintro ex w2 ⟨v2,rfl,eD,hb2⟩;obtain⟨uH,eP⟩:=aZ (sH eD iu) (aV bj.out hb2);clear eD hb2;go_wp2;go_roundw;case rel=>exact⟨k+1,v2,by omega,by go_num,rfl,uH.out,eP.out⟩
    case measure=>simp[intOf];omega
  . obtain rfl:k=n:=by omega
    have htk:ts.take k=ts:=List.take_of_length_le (by rw[Hn.out];exact Nat.le_refl _);have nC:=xW.out k;have hpl:=uJ.out k;rw[htk]at ho nC hpl;obtain⟨L,hL⟩:=aK (iX ts);have rA:=Hgc.out;rw[hL]at ho nC hpl rA;have hLn:L.length<=4096:=by rw[Hn.out]at hpl;omega
    obtain⟨N,hN⟩:=aK L.length;rw[hN]at ho hLn;obtain⟨av,cv,rfl,yz,_⟩:=dU ho;obtain⟨wg,hwg⟩:∃wg,wg=wr:=⟨_,rfl⟩;subst hwg;obtain⟨Hav,bj,ajv,HN,aiD⟩:=fU yz pb nC hN rA;have szg:=pb.size;clear yz ho pb nC hpl rA hN hL htk;go_wp2_with fail;go_loopw[8,9] (λs8 x wr=>∃(j:Nat) (v:Value),j<=N/\x=ah (j:Int)/\v=s8/\wr.ownsRow wg.heap.size 67 4 v ((L.take j).filter gT).length (((L.take j).filter gT).flatMap aY)/\Bw wg wr) (λ_ x _=>N-(intOf x).toNat);case atStart=>exact⟨0,_,Nat.zero_le _,rfl,rfl,World.ownsRow_nil _ _ _ _,Below.refl _ _⟩
    case round=>
     obtain⟨j,v,hj,rfl,rfl,ho,qb⟩:=hrel;by_cases bM:j<N
     . have gK:j<L.length:=by rw[HN.out];exact bM
       obtain⟨l,s,m,e,hx⟩:∃l s m e,L[j]=(l,s,m,e):=⟨_,_,_,_,rfl⟩;obtain⟨b,o,rfl,cw⟩:=(Hav.out.below qb).term j gK hx;have bK:=im N cv j (j:Int) (rfl:(some ⟨b,o,none⟩:Option Addr)=_) bM rfl;have hft:=an0 L j gK;obtain⟨g,hg⟩:=aK (dY (aM (s,m,e)));have dP:gB (s,m,e):=by have:=ajv.out _ (List.getElem_mem gK);rw[hx]at this;exact this
       have kQ:=λW=>NN s m e g hg W (by have:=dP.1;simp only at this;omega);have hnz:gT L[j]= !(g==0):=by rw[hx];unfold gT;rw[show aM ((l,s,m,e):aR).2=aM (s,m,e)from rfl,hg]
       rw[hnz,hx]at hft;have hfl:((L.take j).filter gT).length<=N:=by have:=List.length_filter_le gT (L.take j);rw[List.length_take]at this;omega
       have Ht:Hid (bY wr b (o+j*4) [ai l,ar s,ai m,ah e]):=cw;obtain⟨qW,jF,dH⟩:=dc kQ qb ho;have iu:=qb.size;obtain⟨F,hF⟩:=aK ((L.take j).filter gT);rw[hF]at dH hft hfl;have Cm:=aj hft;clear kQ qb ho cw hx hg dP hnz hft hF;have Hb:Hid (Bw wr wr):=Below.refl _ _;obtain⟨t0,t1,t2,t3⟩:=Ht.out.w4;go_wp2_with fail;refine(qW.out _).mono ?_;rintro e w3 ⟨rfl,ag⟩;clear t0 t1 t2 t3;replace Ht:=kW Ht ag;obtain⟨t0,t1,t2,t3⟩:=Ht.out.w4;replace Hb:=aF Hb ag;clear ag;by_cases hg0:g=0
       . subst hg0;have hz:(((0:Int)) !=0)=false:=by decide
         have hft:=Cm.out;simp only[beq_self_eq_true,Bool.not_true,Bool.false_eq_true,if_false,List.append_nil]at hft;have Pf:=aj hft;clear hft Cm;obtain⟨Fh,PN⟩:=aZ (aV jF.out Hb.out) (ownsRow_below dH.out Hb.out);go_wp2;go_roundw;case rel=>exact⟨j+1,v,by omega,by go_num,rfl,by rw[Pf.out];exact PN.out,Fh.out⟩
         case measure=>simp[intOf];omega
       . have hz:(g !=0)=true:=by simpa using hg0
         have hz2:(g==0)=false:=by simpa using hg0
         have hft:=Cm.out;rw[hz2]at hft;simp only[Bool.not_false,if_true]at hft;have Pf:=aj hft;clear hft Cm;go_upto_region 11 with fail
         have P0:=t0;have P1:=t1;have P2:=t2;have P3:=t3;obtain⟨W5,yt,ag,Hc⟩:=cF w3 67 [ai l,ar s,ai m,ah e];clear t0 t1 t2 t3;replace Ht:=kW Ht ag;obtain⟨t0,t1,t2,t3⟩:=Ht.out.w4;obtain⟨c0,c1,c2,c3⟩:=Hc.out.c4;replace Hb:=aF Hb ag;clear ag;have Bj:=ownsRow_below dH.out Hb.out;have hs5:=Hb.out.size;go_wp2_with (at_builtin;refine wpList_append_own_at _ rfl _ _ 22 rfl wg.heap.size 67 i0 _ 4 48 Tryz.underlying22 Hi.out dz.out dA.out dh.out rfl zd v F.length (F.flatMap aY) rfl Bj ⟨w3.heap.size,0,none⟩ 1 1 [ai l,ar s,ai m,ah e] rfl rfl (iz Hc.out) zy zx zo zo ?_;intro v' w7 fA fR _ iU);have nu:=(aV jF.out Hb.out).grown fR zo (λj e=>dL Bj j e);have e7:F.flatMap aY++[ai l,ar s,ai m,ah e]=(F++[(l,s,m,e)]).flatMap aY:=by rw[List.flatMap_append];rfl
         rw[e7]at fA;obtain⟨PO,vU⟩:=aZ fA nu;clear fA nu e7 iU fR Bj P0 P1 P2 P3 t0 t1 t2 t3 c0 c1 c2 c3;go_wp2;go_roundw;case rel=>exact⟨j+1,v',by omega,by go_num,rfl,by rw[Pf.out,List.length_append];exact PO.out,vU.out⟩
         case measure=>simp[intOf];omega
     . obtain rfl:j=N:=by omega
       have htk:L.take j=L:=List.take_of_length_le (by rw[HN.out];exact Nat.le_refl _);rw[htk,aiD.out]at ho;obtain⟨a2,c2,rfl,_,_⟩:=dU ho;obtain⟨Ho,ajt⟩:=aZ ho (aV (aV Hb.out bj.out) qb);have kO:=bj.out.size;have Ky:=aj (Hr.out.below (aV bj.out qb));have h4:¬(4096:Int)<(C.length:Int):=by omega
       have h4d:decide ((4096:Int)<(C.length:Int))=false:=by simp;omega
       clear ho htk qb;have Hr:=Ky;obtain⟨r0,au,r1,az⟩:=Hr.out.g2;go_wp2;refine CL (Ky.out) Ho.out ajt.out zo ?_;intro w9 kP fS eQ;obtain⟨p0,p1⟩:=kP.c2;exact bodyPost_ret (v:=.tuple #[.agg #[ah (V:Int),.slice a2 C.length c2],ah 0]) (by simp[results,Tryz.results79,go_sem,p0,p1]) rfl ⟨_,_,rfl,BK fS,eQ⟩
end Go.Proofs.YtnjfebkelecgaaaGreatDoor
